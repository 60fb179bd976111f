/-
  Functions of the program as Lean functions, and that the calls return what these say: part 1. No conditions.
-/
import Derived.Test.YtekdaagipplhhaaGreatDoorFcCacheLines
import Derived.Shelf.Strconv.Itoa3
import Derived.Shelf.Strings.OnBuilder
import Derived.Test.YtekdaagipplhhaaGreatDoorProg
import Derived.KernelRfl
set_option maxRecDepth 100000
set_option maxHeartbeats 1000000
set_option linter.unusedVariables false
namespace Go.Proofs.YtekdaagipplhhaaGreatDoor
open Go Go.Fw

instance : LaidP Tryz.prog := ⟨fun w => Lib.TabIs Tryz.prog w "internal/strconv.uint64pow10" .u64 Lib.pow10Tab⟩

structure Method where
  Rel : Int
  Inputs : List Int
  Limit : Int
  Cost : Int
  Quota : Int
structure Rule where
  From : Int
  To : Int
  Map : List Int
structure Fact where
  Rel : Int
  Values : List Int
structure Source where
  Facts : List Fact
  Version : Int
structure Access where
  Method : Int
  Values : List Int
structure Stored where
  Access : Access
  Facts : List Fact
  At : Int
structure Cache where
  Entries : List Stored
  Age : Int
structure Mediator where
  Schema : List Int
  Methods : List Method
  Rules : List Rule
  Source : Source
  Cache : Cache
  Now : Int
  Log : List Access
  Times : List Int
  Spent : Int
  Results : List (List (List Int))
instance ty34 : ITY Tryz.prog 34 12 224 (.agg [(.slice none 0 0), (.slice none 0 0), (.slice none 0 0), (.slice none 0 0), (.int .i64 0), (.slice none 0 0), (.int .i64 0), (.int .i64 0), (.slice none 0 0), (.slice none 0 0), (.int .i64 0), (.slice none 0 0)].toArray) := ⟨by unfold TY; kernel_rfl⟩
instance ag34 : IAG Tryz.prog 34 true := ⟨by unfold AG; kernel_rfl⟩
instance cf6 : ICF Tryz.prog 6 := ⟨fun _ _ => Tryz.call6 _ _⟩
instance fd34_0 : IFD Tryz.prog 34 0 0 := ⟨by unfold FD; kernel_rfl⟩
instance ag22 : IAG Tryz.prog 22 false := ⟨by unfold AG; kernel_rfl⟩
instance cf30 : ICF Tryz.prog 30 := ⟨fun _ _ => Tryz.call30 _ _⟩
instance sl22 : ISL Tryz.prog 22 3 := ⟨by unfold SL; kernel_rfl⟩
instance fd34_1 : IFD Tryz.prog 34 1 1 := ⟨by unfold FD; kernel_rfl⟩
instance ag23 : IAG Tryz.prog 23 false := ⟨by unfold AG; kernel_rfl⟩
instance cf15 : ICF Tryz.prog 15 := ⟨fun _ _ => Tryz.call15 _ _⟩
instance sl23 : ISL Tryz.prog 23 103 := ⟨by unfold SL; kernel_rfl⟩
def rd103 (H : AHeap) (v : Value) (a : Method) : Prop := ∃ v0 : Sv, v = .agg [(.int .i64 a.Rel), v0.v, (.int .i64 a.Limit), (.int .i64 a.Cost), (.int .i64 a.Quota)].toArray ∧ (RdS 3 rdInt) H v0.v a.Inputs
instance : Mono rd103 := ⟨fun h hi => by
  obtain ⟨v0, h, h0⟩ := h
  exact ⟨v0, h, Mono.up h0 hi⟩⟩
instance : Cells rd103 5 := ⟨fun h => by
  obtain ⟨v0, rfl, h0⟩ := h
  exact ⟨rfl, rfl⟩⟩
instance ty103 : ITY Tryz.prog 103 5 56 (.agg [(.int .i64 0), (.slice none 0 0), (.int .i64 0), (.int .i64 0), (.int .i64 0)].toArray) := ⟨by unfold TY; kernel_rfl⟩
def ul103_0_103 (a : Method) (p : Sv) : List Value := [(.int .i64 a.Rel), p.v, (.int .i64 a.Limit), (.int .i64 a.Cost), (.int .i64 a.Quota)]
theorem la103_0_103 {a : Method} : ∀ H e, rd103 H e a → ∃ i : Sv, 0 + 5 ≤ e.cells.size ∧ (e.cells.toList.drop 0).take 5 = ul103_0_103 a i ∧ ∀ c ∈ ([crd (RdS 3 rdInt) i.v a.Inputs] : List Comp), c.P H ∧ c.F = [] := by
  intro H e h
  obtain ⟨v0, rfl, h0⟩ := h
  refine ⟨v0, Nat.le_of_ble_eq_true rfl, rfl, fun c hc => by
    simp only [List.mem_cons, List.not_mem_nil, or_false] at hc
    rcases hc with rfl
    · exact ⟨h0, rfl⟩
⟩
instance ag103 : IAG Tryz.prog 103 true := ⟨by unfold AG; kernel_rfl⟩
instance cf62 : ICF Tryz.prog 62 := ⟨fun _ _ => Tryz.call62 _ _⟩
instance fd103_1 : IFD Tryz.prog 103 1 1 := ⟨by unfold FD; kernel_rfl⟩
instance fd34_2 : IFD Tryz.prog 34 2 2 := ⟨by unfold FD; kernel_rfl⟩
instance ag24 : IAG Tryz.prog 24 false := ⟨by unfold AG; kernel_rfl⟩
instance cf31 : ICF Tryz.prog 31 := ⟨fun _ _ => Tryz.call31 _ _⟩
instance sl24 : ISL Tryz.prog 24 135 := ⟨by unfold SL; kernel_rfl⟩
def rd135 (H : AHeap) (v : Value) (a : Rule) : Prop := ∃ v0 : Sv, v = .agg [(.int .i64 a.From), (.int .i64 a.To), v0.v].toArray ∧ (RdS 3 rdInt) H v0.v a.Map
instance : Mono rd135 := ⟨fun h hi => by
  obtain ⟨v0, h, h0⟩ := h
  exact ⟨v0, h, Mono.up h0 hi⟩⟩
instance : Cells rd135 3 := ⟨fun h => by
  obtain ⟨v0, rfl, h0⟩ := h
  exact ⟨rfl, rfl⟩⟩
instance ty135 : ITY Tryz.prog 135 3 40 (.agg [(.int .i64 0), (.int .i64 0), (.slice none 0 0)].toArray) := ⟨by unfold TY; kernel_rfl⟩
def ul135_0_135 (a : Rule) (p : Sv) : List Value := [(.int .i64 a.From), (.int .i64 a.To), p.v]
theorem la135_0_135 {a : Rule} : ∀ H e, rd135 H e a → ∃ i : Sv, 0 + 3 ≤ e.cells.size ∧ (e.cells.toList.drop 0).take 3 = ul135_0_135 a i ∧ ∀ c ∈ ([crd (RdS 3 rdInt) i.v a.Map] : List Comp), c.P H ∧ c.F = [] := by
  intro H e h
  obtain ⟨v0, rfl, h0⟩ := h
  refine ⟨v0, Nat.le_of_ble_eq_true rfl, rfl, fun c hc => by
    simp only [List.mem_cons, List.not_mem_nil, or_false] at hc
    rcases hc with rfl
    · exact ⟨h0, rfl⟩
⟩
instance ag135 : IAG Tryz.prog 135 true := ⟨by unfold AG; kernel_rfl⟩
instance cf87 : ICF Tryz.prog 87 := ⟨fun _ _ => Tryz.call87 _ _⟩
instance fd135_2 : IFD Tryz.prog 135 2 2 := ⟨by unfold FD; kernel_rfl⟩
instance fd34_3 : IFD Tryz.prog 34 3 3 := ⟨by unfold FD; kernel_rfl⟩
instance ag27 : IAG Tryz.prog 27 true := ⟨by unfold AG; kernel_rfl⟩
instance ty27 : ITY Tryz.prog 27 2 32 (.agg [(.slice none 0 0), (.int .i64 0)].toArray) := ⟨by unfold TY; kernel_rfl⟩
instance cf32 : ICF Tryz.prog 32 := ⟨fun _ _ => Tryz.call32 _ _⟩
instance fd27_0 : IFD Tryz.prog 27 0 0 := ⟨by unfold FD; kernel_rfl⟩
instance ag25 : IAG Tryz.prog 25 false := ⟨by unfold AG; kernel_rfl⟩
instance cf16 : ICF Tryz.prog 16 := ⟨fun _ _ => Tryz.call16 _ _⟩
instance sl25 : ISL Tryz.prog 25 106 := ⟨by unfold SL; kernel_rfl⟩
def rd106 (H : AHeap) (v : Value) (a : Fact) : Prop := ∃ v0 : Sv, v = .agg [(.int .i64 a.Rel), v0.v].toArray ∧ (RdS 3 rdInt) H v0.v a.Values
instance : Mono rd106 := ⟨fun h hi => by
  obtain ⟨v0, h, h0⟩ := h
  exact ⟨v0, h, Mono.up h0 hi⟩⟩
instance : Cells rd106 2 := ⟨fun h => by
  obtain ⟨v0, rfl, h0⟩ := h
  exact ⟨rfl, rfl⟩⟩
instance ty106 : ITY Tryz.prog 106 2 32 (.agg [(.int .i64 0), (.slice none 0 0)].toArray) := ⟨by unfold TY; kernel_rfl⟩
def ul106_0_106 (a : Fact) (p : Sv) : List Value := [(.int .i64 a.Rel), p.v]
theorem la106_0_106 {a : Fact} : ∀ H e, rd106 H e a → ∃ i : Sv, 0 + 2 ≤ e.cells.size ∧ (e.cells.toList.drop 0).take 2 = ul106_0_106 a i ∧ ∀ c ∈ ([crd (RdS 3 rdInt) i.v a.Values] : List Comp), c.P H ∧ c.F = [] := by
  intro H e h
  obtain ⟨v0, rfl, h0⟩ := h
  refine ⟨v0, Nat.le_of_ble_eq_true rfl, rfl, fun c hc => by
    simp only [List.mem_cons, List.not_mem_nil, or_false] at hc
    rcases hc with rfl
    · exact ⟨h0, rfl⟩
⟩
instance ag106 : IAG Tryz.prog 106 true := ⟨by unfold AG; kernel_rfl⟩
instance cf63 : ICF Tryz.prog 63 := ⟨fun _ _ => Tryz.call63 _ _⟩
instance fd106_1 : IFD Tryz.prog 106 1 1 := ⟨by unfold FD; kernel_rfl⟩
instance fd34_4 : IFD Tryz.prog 34 4 5 := ⟨by unfold FD; kernel_rfl⟩
instance ag30 : IAG Tryz.prog 30 true := ⟨by unfold AG; kernel_rfl⟩
instance ty30 : ITY Tryz.prog 30 2 32 (.agg [(.slice none 0 0), (.int .i64 0)].toArray) := ⟨by unfold TY; kernel_rfl⟩
instance cf33 : ICF Tryz.prog 33 := ⟨fun _ _ => Tryz.call33 _ _⟩
instance fd30_0 : IFD Tryz.prog 30 0 0 := ⟨by unfold FD; kernel_rfl⟩
instance ag28 : IAG Tryz.prog 28 false := ⟨by unfold AG; kernel_rfl⟩
instance cf88 : ICF Tryz.prog 88 := ⟨fun _ _ => Tryz.call88 _ _⟩
instance sl28 : ISL Tryz.prog 28 184 := ⟨by unfold SL; kernel_rfl⟩
def rd184 (H : AHeap) (v : Value) (a : Stored) : Prop := ∃ v0 v1 : Sv, v = .agg [(.int .i64 a.Access.Method), v0.v, v1.v, (.int .i64 a.At)].toArray ∧ (RdS 3 rdInt) H v0.v a.Access.Values ∧ (RdS 106 rd106) H v1.v a.Facts
instance : Mono rd184 := ⟨fun h hi => by
  obtain ⟨v0, v1, h, h0, h1⟩ := h
  exact ⟨v0, v1, h, Mono.up h0 hi, Mono.up h1 hi⟩⟩
instance : Cells rd184 4 := ⟨fun h => by
  obtain ⟨v0, v1, rfl, h0, h1⟩ := h
  exact ⟨rfl, rfl⟩⟩
instance ty184 : ITY Tryz.prog 184 4 64 (.agg [(.int .i64 0), (.slice none 0 0), (.slice none 0 0), (.int .i64 0)].toArray) := ⟨by unfold TY; kernel_rfl⟩
def ul184_0_184 (a : Stored) (p : Sv × Sv) : List Value := [(.int .i64 a.Access.Method), p.1.v, p.2.v, (.int .i64 a.At)]
theorem la184_0_184 {a : Stored} : ∀ H e, rd184 H e a → ∃ i : Sv × Sv, 0 + 4 ≤ e.cells.size ∧ (e.cells.toList.drop 0).take 4 = ul184_0_184 a i ∧ ∀ c ∈ ([crd (RdS 3 rdInt) i.1.v a.Access.Values, crd (RdS 106 rd106) i.2.v a.Facts] : List Comp), c.P H ∧ c.F = [] := by
  intro H e h
  obtain ⟨v0, v1, rfl, h0, h1⟩ := h
  refine ⟨(v0, v1), Nat.le_of_ble_eq_true rfl, rfl, fun c hc => by
    simp only [List.mem_cons, List.not_mem_nil, or_false] at hc
    rcases hc with rfl | rfl
    · exact ⟨h0, rfl⟩
    · exact ⟨h1, rfl⟩
⟩
instance ag184 : IAG Tryz.prog 184 true := ⟨by unfold AG; kernel_rfl⟩
instance cf146 : ICF Tryz.prog 146 := ⟨fun _ _ => Tryz.call146 _ _⟩
instance fd184_0 : IFD Tryz.prog 184 0 0 := ⟨by unfold FD; kernel_rfl⟩
instance ag120 : IAG Tryz.prog 120 true := ⟨by unfold AG; kernel_rfl⟩
instance ty120 : ITY Tryz.prog 120 2 32 (.agg [(.int .i64 0), (.slice none 0 0)].toArray) := ⟨by unfold TY; kernel_rfl⟩
instance cf89 : ICF Tryz.prog 89 := ⟨fun _ _ => Tryz.call89 _ _⟩
instance fd120_1 : IFD Tryz.prog 120 1 1 := ⟨by unfold FD; kernel_rfl⟩
instance fd184_1 : IFD Tryz.prog 184 1 2 := ⟨by unfold FD; kernel_rfl⟩
instance fd34_6 : IFD Tryz.prog 34 6 8 := ⟨by unfold FD; kernel_rfl⟩
instance ag31 : IAG Tryz.prog 31 false := ⟨by unfold AG; kernel_rfl⟩
instance cf34 : ICF Tryz.prog 34 := ⟨fun _ _ => Tryz.call34 _ _⟩
instance sl31 : ISL Tryz.prog 31 120 := ⟨by unfold SL; kernel_rfl⟩
def rd120 (H : AHeap) (v : Value) (a : Access) : Prop := ∃ v0 : Sv, v = .agg [(.int .i64 a.Method), v0.v].toArray ∧ (RdS 3 rdInt) H v0.v a.Values
instance : Mono rd120 := ⟨fun h hi => by
  obtain ⟨v0, h, h0⟩ := h
  exact ⟨v0, h, Mono.up h0 hi⟩⟩
instance : Cells rd120 2 := ⟨fun h => by
  obtain ⟨v0, rfl, h0⟩ := h
  exact ⟨rfl, rfl⟩⟩
def ul120_0_120 (a : Access) (p : Sv) : List Value := [(.int .i64 a.Method), p.v]
theorem la120_0_120 {a : Access} : ∀ H e, rd120 H e a → ∃ i : Sv, 0 + 2 ≤ e.cells.size ∧ (e.cells.toList.drop 0).take 2 = ul120_0_120 a i ∧ ∀ c ∈ ([crd (RdS 3 rdInt) i.v a.Values] : List Comp), c.P H ∧ c.F = [] := by
  intro H e h
  obtain ⟨v0, rfl, h0⟩ := h
  refine ⟨v0, Nat.le_of_ble_eq_true rfl, rfl, fun c hc => by
    simp only [List.mem_cons, List.not_mem_nil, or_false] at hc
    rcases hc with rfl
    · exact ⟨h0, rfl⟩
⟩
instance fd34_7 : IFD Tryz.prog 34 7 9 := ⟨by unfold FD; kernel_rfl⟩
instance fd34_9 : IFD Tryz.prog 34 9 11 := ⟨by unfold FD; kernel_rfl⟩
instance ag32 : IAG Tryz.prog 32 false := ⟨by unfold AG; kernel_rfl⟩
instance cf35 : ICF Tryz.prog 35 := ⟨fun _ _ => Tryz.call35 _ _⟩
instance sl32 : ISL Tryz.prog 32 139 := ⟨by unfold SL; kernel_rfl⟩
instance ty139 : ITY Tryz.prog 139 1 24 (.slice none 0 0) := ⟨by unfold TY; kernel_rfl⟩
theorem lv139_0 {a : List (List Int)} : ∀ H e, (RdS 22 (RdS 3 rdInt)) H e a → ∃ w : Sv, e.cells.toList[0]? = some w.v ∧ (RdS 22 (RdS 3 rdInt)) H w.v a := by
  intro H e h
  obtain ⟨a0, m, rfl⟩ := RdS.len h
  exact ⟨⟨a0, _, m⟩, rfl, h⟩
instance ag139 : IAG Tryz.prog 139 false := ⟨by unfold AG; kernel_rfl⟩
instance cf90 : ICF Tryz.prog 90 := ⟨fun _ _ => Tryz.call90 _ _⟩
instance sl139 : ISL Tryz.prog 139 22 := ⟨by unfold SL; kernel_rfl⟩
instance ty22 : ITY Tryz.prog 22 1 24 (.slice none 0 0) := ⟨by unfold TY; kernel_rfl⟩
theorem lv22_0 {a : List Int} : ∀ H e, (RdS 3 rdInt) H e a → ∃ w : Sv, e.cells.toList[0]? = some w.v ∧ (RdS 3 rdInt) H w.v a := by
  intro H e h
  obtain ⟨a0, m, rfl⟩ := RdS.len h
  exact ⟨⟨a0, _, m⟩, rfl, h⟩
instance cf8 : ICF Tryz.prog 8 := ⟨fun _ _ => Tryz.call8 _ _⟩
instance ty48 : ITY Tryz.prog 48 12 224 (.agg [(.slice none 0 0), (.slice none 0 0), (.slice none 0 0), (.slice none 0 0), (.int .i64 0), (.slice none 0 0), (.int .i64 0), (.int .i64 0), (.slice none 0 0), (.slice none 0 0), (.int .i64 0), (.slice none 0 0)].toArray) := ⟨by unfold TY; kernel_rfl⟩
instance cf18 : ICF Tryz.prog 18 := ⟨fun _ _ => Tryz.call18 _ _⟩
instance ty3 : ITY Tryz.prog 3 1 8 (.int .i64 0) := ⟨by unfold TY; kernel_rfl⟩
theorem ls3_0 {a : Int} : ∀ H e, rdInt H e a → e.cells.toList[0]? = some (.int .i64 a) := by
  intro H e h
  subst h
  rfl
instance ag3 : IAG Tryz.prog 3 false := ⟨by unfold AG; kernel_rfl⟩
instance fd48_0 : IFD Tryz.prog 48 0 0 := ⟨by unfold FD; kernel_rfl⟩
instance cf19 : ICF Tryz.prog 19 := ⟨fun _ _ => Tryz.call19 _ _⟩
instance sl38 : ISL Tryz.prog 38 112 := ⟨by unfold SL; kernel_rfl⟩
instance ty112 : ITY Tryz.prog 112 5 56 (.agg [(.int .i64 0), (.slice none 0 0), (.int .i64 0), (.int .i64 0), (.int .i64 0)].toArray) := ⟨by unfold TY; kernel_rfl⟩
def rd112 (H : AHeap) (v : Value) (a : Method) : Prop := ∃ v0 : Sv, v = .agg [(.int .i64 a.Rel), v0.v, (.int .i64 a.Limit), (.int .i64 a.Cost), (.int .i64 a.Quota)].toArray ∧ (RdS 3 rdInt) H v0.v a.Inputs
instance : Mono rd112 := ⟨fun h hi => by
  obtain ⟨v0, h, h0⟩ := h
  exact ⟨v0, h, Mono.up h0 hi⟩⟩
instance : Cells rd112 5 := ⟨fun h => by
  obtain ⟨v0, rfl, h0⟩ := h
  exact ⟨rfl, rfl⟩⟩
def ow112 : ORel Method := fun F H v a => ∃ (v0 : Sv) (F0 : List Nat), v = .agg [(.int .i64 a.Rel), v0.v, (.int .i64 a.Limit), (.int .i64 a.Cost), (.int .i64 a.Quota)].toArray ∧ F0 = F ∧ (OwnS 3 (roE rdInt)) F0 H v0.v a.Inputs
instance : Keep ow112 := ⟨fun h hi hg => by
  obtain ⟨v0, F0, rfl, rfl, h0⟩ := h
  exact ⟨v0, F0, rfl, rfl, Keep.keep h0 hi (fun k hk => hg k (by simp [hk]))⟩⟩
instance : Local ow112 := ⟨fun h hg => by
  obtain ⟨v0, F0, rfl, rfl, h0⟩ := h
  exact ⟨v0, F0, rfl, rfl, Local.keep h0 (fun k hk => hg k (by simp [hk]))⟩⟩
instance : Owns ow112 := ⟨fun h k hk => by
  obtain ⟨v0, F0, rfl, rfl, h0⟩ := h
  exact Owns.owns h0 k hk
⟩
instance : OCells ow112 5 := ⟨fun h => by
  obtain ⟨v0, F0, rfl, rfl, h0⟩ := h
  exact ⟨rfl, rfl⟩⟩
instance : Frz ow112 rd112 := ⟨fun h hg => by
  obtain ⟨v0, F0, rfl, rfl, h0⟩ := h
  exact ⟨v0, rfl, Frz.frz h0 (fun k hk => hg k (by simp [hk]))⟩⟩
instance cf67 : ICF Tryz.prog 67 := ⟨fun _ _ => Tryz.call67 _ _⟩
instance fd103_0 : IFD Tryz.prog 103 0 0 := ⟨by unfold FD; kernel_rfl⟩
instance fd112_0 : IFD Tryz.prog 112 0 0 := ⟨by unfold FD; kernel_rfl⟩
instance fd112_1 : IFD Tryz.prog 112 1 1 := ⟨by unfold FD; kernel_rfl⟩
instance fd103_2 : IFD Tryz.prog 103 2 2 := ⟨by unfold FD; kernel_rfl⟩
instance fd112_2 : IFD Tryz.prog 112 2 2 := ⟨by unfold FD; kernel_rfl⟩
instance fd103_3 : IFD Tryz.prog 103 3 3 := ⟨by unfold FD; kernel_rfl⟩
instance fd112_3 : IFD Tryz.prog 112 3 3 := ⟨by unfold FD; kernel_rfl⟩
instance fd103_4 : IFD Tryz.prog 103 4 4 := ⟨by unfold FD; kernel_rfl⟩
instance fd112_4 : IFD Tryz.prog 112 4 4 := ⟨by unfold FD; kernel_rfl⟩
instance ag112 : IAG Tryz.prog 112 true := ⟨by unfold AG; kernel_rfl⟩
theorem mk112 {a : Method} {v0 : Sv} {F0 : List Nat} : Mk ow112 F0 (.agg [(.int .i64 a.Rel), v0.v, (.int .i64 a.Limit), (.int .i64 a.Cost), (.int .i64 a.Quota)].toArray) a [cown (OwnS 3 (roE rdInt)) F0 v0.v a.Inputs] :=
  ⟨fun H h => ⟨v0, F0, rfl, rfl, h (cown (OwnS 3 (roE rdInt)) F0 v0.v a.Inputs) (by simp)⟩, by simp [cown]⟩
instance fd48_1 : IFD Tryz.prog 48 1 1 := ⟨by unfold FD; kernel_rfl⟩
instance ty38 : ITY Tryz.prog 38 1 24 (.slice none 0 0) := ⟨by unfold TY; kernel_rfl⟩
instance cf40 : ICF Tryz.prog 40 := ⟨fun _ _ => Tryz.call40 _ _⟩
instance sl39 : ISL Tryz.prog 39 148 := ⟨by unfold SL; kernel_rfl⟩
instance ty148 : ITY Tryz.prog 148 3 40 (.agg [(.int .i64 0), (.int .i64 0), (.slice none 0 0)].toArray) := ⟨by unfold TY; kernel_rfl⟩
def rd148 (H : AHeap) (v : Value) (a : Rule) : Prop := ∃ v0 : Sv, v = .agg [(.int .i64 a.From), (.int .i64 a.To), v0.v].toArray ∧ (RdS 3 rdInt) H v0.v a.Map
instance : Mono rd148 := ⟨fun h hi => by
  obtain ⟨v0, h, h0⟩ := h
  exact ⟨v0, h, Mono.up h0 hi⟩⟩
instance : Cells rd148 3 := ⟨fun h => by
  obtain ⟨v0, rfl, h0⟩ := h
  exact ⟨rfl, rfl⟩⟩
def ow148 : ORel Rule := fun F H v a => ∃ (v0 : Sv) (F0 : List Nat), v = .agg [(.int .i64 a.From), (.int .i64 a.To), v0.v].toArray ∧ F0 = F ∧ (OwnS 3 (roE rdInt)) F0 H v0.v a.Map
instance : Keep ow148 := ⟨fun h hi hg => by
  obtain ⟨v0, F0, rfl, rfl, h0⟩ := h
  exact ⟨v0, F0, rfl, rfl, Keep.keep h0 hi (fun k hk => hg k (by simp [hk]))⟩⟩
instance : Local ow148 := ⟨fun h hg => by
  obtain ⟨v0, F0, rfl, rfl, h0⟩ := h
  exact ⟨v0, F0, rfl, rfl, Local.keep h0 (fun k hk => hg k (by simp [hk]))⟩⟩
instance : Owns ow148 := ⟨fun h k hk => by
  obtain ⟨v0, F0, rfl, rfl, h0⟩ := h
  exact Owns.owns h0 k hk
⟩
instance : OCells ow148 3 := ⟨fun h => by
  obtain ⟨v0, F0, rfl, rfl, h0⟩ := h
  exact ⟨rfl, rfl⟩⟩
instance : Frz ow148 rd148 := ⟨fun h hg => by
  obtain ⟨v0, F0, rfl, rfl, h0⟩ := h
  exact ⟨v0, rfl, Frz.frz h0 (fun k hk => hg k (by simp [hk]))⟩⟩
instance cf99 : ICF Tryz.prog 99 := ⟨fun _ _ => Tryz.call99 _ _⟩
instance fd135_0 : IFD Tryz.prog 135 0 0 := ⟨by unfold FD; kernel_rfl⟩
instance fd148_0 : IFD Tryz.prog 148 0 0 := ⟨by unfold FD; kernel_rfl⟩
instance fd135_1 : IFD Tryz.prog 135 1 1 := ⟨by unfold FD; kernel_rfl⟩
instance fd148_1 : IFD Tryz.prog 148 1 1 := ⟨by unfold FD; kernel_rfl⟩
instance fd148_2 : IFD Tryz.prog 148 2 2 := ⟨by unfold FD; kernel_rfl⟩
instance ag148 : IAG Tryz.prog 148 true := ⟨by unfold AG; kernel_rfl⟩
theorem mk148 {a : Rule} {v0 : Sv} {F0 : List Nat} : Mk ow148 F0 (.agg [(.int .i64 a.From), (.int .i64 a.To), v0.v].toArray) a [cown (OwnS 3 (roE rdInt)) F0 v0.v a.Map] :=
  ⟨fun H h => ⟨v0, F0, rfl, rfl, h (cown (OwnS 3 (roE rdInt)) F0 v0.v a.Map) (by simp)⟩, by simp [cown]⟩
instance fd48_2 : IFD Tryz.prog 48 2 2 := ⟨by unfold FD; kernel_rfl⟩
instance ty39 : ITY Tryz.prog 39 1 24 (.slice none 0 0) := ⟨by unfold TY; kernel_rfl⟩
instance cf41 : ICF Tryz.prog 41 := ⟨fun _ _ => Tryz.call41 _ _⟩
instance ty42 : ITY Tryz.prog 42 2 32 (.agg [(.slice none 0 0), (.int .i64 0)].toArray) := ⟨by unfold TY; kernel_rfl⟩
instance cf20 : ICF Tryz.prog 20 := ⟨fun _ _ => Tryz.call20 _ _⟩
instance sl40 : ISL Tryz.prog 40 114 := ⟨by unfold SL; kernel_rfl⟩
instance ty114 : ITY Tryz.prog 114 2 32 (.agg [(.int .i64 0), (.slice none 0 0)].toArray) := ⟨by unfold TY; kernel_rfl⟩
def rd114 (H : AHeap) (v : Value) (a : Fact) : Prop := ∃ v0 : Sv, v = .agg [(.int .i64 a.Rel), v0.v].toArray ∧ (RdS 3 rdInt) H v0.v a.Values
instance : Mono rd114 := ⟨fun h hi => by
  obtain ⟨v0, h, h0⟩ := h
  exact ⟨v0, h, Mono.up h0 hi⟩⟩
instance : Cells rd114 2 := ⟨fun h => by
  obtain ⟨v0, rfl, h0⟩ := h
  exact ⟨rfl, rfl⟩⟩
def ow114 : ORel Fact := fun F H v a => ∃ (v0 : Sv) (F0 : List Nat), v = .agg [(.int .i64 a.Rel), v0.v].toArray ∧ F0 = F ∧ (OwnS 3 (roE rdInt)) F0 H v0.v a.Values
instance : Keep ow114 := ⟨fun h hi hg => by
  obtain ⟨v0, F0, rfl, rfl, h0⟩ := h
  exact ⟨v0, F0, rfl, rfl, Keep.keep h0 hi (fun k hk => hg k (by simp [hk]))⟩⟩
instance : Local ow114 := ⟨fun h hg => by
  obtain ⟨v0, F0, rfl, rfl, h0⟩ := h
  exact ⟨v0, F0, rfl, rfl, Local.keep h0 (fun k hk => hg k (by simp [hk]))⟩⟩
instance : Owns ow114 := ⟨fun h k hk => by
  obtain ⟨v0, F0, rfl, rfl, h0⟩ := h
  exact Owns.owns h0 k hk
⟩
instance : OCells ow114 2 := ⟨fun h => by
  obtain ⟨v0, F0, rfl, rfl, h0⟩ := h
  exact ⟨rfl, rfl⟩⟩
instance : Frz ow114 rd114 := ⟨fun h hg => by
  obtain ⟨v0, F0, rfl, rfl, h0⟩ := h
  exact ⟨v0, rfl, Frz.frz h0 (fun k hk => hg k (by simp [hk]))⟩⟩
instance cf68 : ICF Tryz.prog 68 := ⟨fun _ _ => Tryz.call68 _ _⟩
instance fd106_0 : IFD Tryz.prog 106 0 0 := ⟨by unfold FD; kernel_rfl⟩
instance fd114_0 : IFD Tryz.prog 114 0 0 := ⟨by unfold FD; kernel_rfl⟩
instance fd114_1 : IFD Tryz.prog 114 1 1 := ⟨by unfold FD; kernel_rfl⟩
instance ag114 : IAG Tryz.prog 114 true := ⟨by unfold AG; kernel_rfl⟩
theorem mk114 {a : Fact} {v0 : Sv} {F0 : List Nat} : Mk ow114 F0 (.agg [(.int .i64 a.Rel), v0.v].toArray) a [cown (OwnS 3 (roE rdInt)) F0 v0.v a.Values] :=
  ⟨fun H h => ⟨v0, F0, rfl, rfl, h (cown (OwnS 3 (roE rdInt)) F0 v0.v a.Values) (by simp)⟩, by simp [cown]⟩
instance fd42_0 : IFD Tryz.prog 42 0 0 := ⟨by unfold FD; kernel_rfl⟩
instance ty40 : ITY Tryz.prog 40 1 24 (.slice none 0 0) := ⟨by unfold TY; kernel_rfl⟩
instance fd27_1 : IFD Tryz.prog 27 1 1 := ⟨by unfold FD; kernel_rfl⟩
instance fd42_1 : IFD Tryz.prog 42 1 1 := ⟨by unfold FD; kernel_rfl⟩
instance ag42 : IAG Tryz.prog 42 true := ⟨by unfold AG; kernel_rfl⟩
instance fd48_3 : IFD Tryz.prog 48 3 3 := ⟨by unfold FD; kernel_rfl⟩
instance cf42 : ICF Tryz.prog 42 := ⟨fun _ _ => Tryz.call42 _ _⟩
instance ty45 : ITY Tryz.prog 45 2 32 (.agg [(.slice none 0 0), (.int .i64 0)].toArray) := ⟨by unfold TY; kernel_rfl⟩
instance cf100 : ICF Tryz.prog 100 := ⟨fun _ _ => Tryz.call100 _ _⟩
instance sl43 : ISL Tryz.prog 43 82 := ⟨by unfold SL; kernel_rfl⟩
instance ty82 : ITY Tryz.prog 82 4 64 (.agg [(.int .i64 0), (.slice none 0 0), (.slice none 0 0), (.int .i64 0)].toArray) := ⟨by unfold TY; kernel_rfl⟩
def rd82 (H : AHeap) (v : Value) (a : Stored) : Prop := ∃ v0 v1 : Sv, v = .agg [(.int .i64 a.Access.Method), v0.v, v1.v, (.int .i64 a.At)].toArray ∧ (RdS 3 rdInt) H v0.v a.Access.Values ∧ (RdS 114 rd114) H v1.v a.Facts
instance : Mono rd82 := ⟨fun h hi => by
  obtain ⟨v0, v1, h, h0, h1⟩ := h
  exact ⟨v0, v1, h, Mono.up h0 hi, Mono.up h1 hi⟩⟩
instance : Cells rd82 4 := ⟨fun h => by
  obtain ⟨v0, v1, rfl, h0, h1⟩ := h
  exact ⟨rfl, rfl⟩⟩
def ow82 : ORel Stored := fun F H v a => ∃ (v0 v1 : Sv) (F0 F1 : List Nat), v = .agg [(.int .i64 a.Access.Method), v0.v, v1.v, (.int .i64 a.At)].toArray ∧ F = (F0 ++ F1) ∧ (OwnS 3 (roE rdInt)) F0 H v0.v a.Access.Values ∧ (OwnS 114 ow114) F1 H v1.v a.Facts
instance : Keep ow82 := ⟨fun h hi hg => by
  obtain ⟨v0, v1, F0, F1, rfl, rfl, h0, h1⟩ := h
  exact ⟨v0, v1, F0, F1, rfl, rfl, Keep.keep h0 hi (fun k hk => hg k (by simp [hk])), Keep.keep h1 hi (fun k hk => hg k (by simp [hk]))⟩⟩
instance : Local ow82 := ⟨fun h hg => by
  obtain ⟨v0, v1, F0, F1, rfl, rfl, h0, h1⟩ := h
  exact ⟨v0, v1, F0, F1, rfl, rfl, Local.keep h0 (fun k hk => hg k (by simp [hk])), Local.keep h1 (fun k hk => hg k (by simp [hk]))⟩⟩
instance : Owns ow82 := ⟨fun h k hk => by
  obtain ⟨v0, v1, F0, F1, rfl, rfl, h0, h1⟩ := h
  simp only [List.mem_append] at hk
  rcases hk with hk | hk
  · exact Owns.owns h0 k hk
  · exact Owns.owns h1 k hk
⟩
instance : OCells ow82 4 := ⟨fun h => by
  obtain ⟨v0, v1, F0, F1, rfl, rfl, h0, h1⟩ := h
  exact ⟨rfl, rfl⟩⟩
instance : Frz ow82 rd82 := ⟨fun h hg => by
  obtain ⟨v0, v1, F0, F1, rfl, rfl, h0, h1⟩ := h
  exact ⟨v0, v1, rfl, Frz.frz h0 (fun k hk => hg k (by simp [hk])), Frz.frz h1 (fun k hk => hg k (by simp [hk]))⟩⟩
instance cf150 : ICF Tryz.prog 150 := ⟨fun _ _ => Tryz.call150 _ _⟩
instance cf101 : ICF Tryz.prog 101 := ⟨fun _ _ => Tryz.call101 _ _⟩
instance ty80 : ITY Tryz.prog 80 2 32 (.agg [(.int .i64 0), (.slice none 0 0)].toArray) := ⟨by unfold TY; kernel_rfl⟩
instance fd120_0 : IFD Tryz.prog 120 0 0 := ⟨by unfold FD; kernel_rfl⟩
instance fd80_0 : IFD Tryz.prog 80 0 0 := ⟨by unfold FD; kernel_rfl⟩
instance fd80_1 : IFD Tryz.prog 80 1 1 := ⟨by unfold FD; kernel_rfl⟩
instance ag80 : IAG Tryz.prog 80 true := ⟨by unfold AG; kernel_rfl⟩
instance fd82_0 : IFD Tryz.prog 82 0 0 := ⟨by unfold FD; kernel_rfl⟩
instance fd82_1 : IFD Tryz.prog 82 1 2 := ⟨by unfold FD; kernel_rfl⟩
instance fd184_2 : IFD Tryz.prog 184 2 3 := ⟨by unfold FD; kernel_rfl⟩
instance fd82_2 : IFD Tryz.prog 82 2 3 := ⟨by unfold FD; kernel_rfl⟩
instance ag82 : IAG Tryz.prog 82 true := ⟨by unfold AG; kernel_rfl⟩
theorem mk82 {a : Stored} {v0 v1 : Sv} {F0 F1 : List Nat} : Mk ow82 (F0 ++ F1) (.agg [(.int .i64 a.Access.Method), v0.v, v1.v, (.int .i64 a.At)].toArray) a [cown (OwnS 3 (roE rdInt)) F0 v0.v a.Access.Values, cown (OwnS 114 ow114) F1 v1.v a.Facts] :=
  ⟨fun H h => ⟨v0, v1, F0, F1, rfl, rfl, h (cown (OwnS 3 (roE rdInt)) F0 v0.v a.Access.Values) (by simp), h (cown (OwnS 114 ow114) F1 v1.v a.Facts) (by simp)⟩, by simp [cown]⟩
instance fd45_0 : IFD Tryz.prog 45 0 0 := ⟨by unfold FD; kernel_rfl⟩
instance ty43 : ITY Tryz.prog 43 1 24 (.slice none 0 0) := ⟨by unfold TY; kernel_rfl⟩
instance fd30_1 : IFD Tryz.prog 30 1 1 := ⟨by unfold FD; kernel_rfl⟩
instance fd45_1 : IFD Tryz.prog 45 1 1 := ⟨by unfold FD; kernel_rfl⟩
instance ag45 : IAG Tryz.prog 45 true := ⟨by unfold AG; kernel_rfl⟩
instance fd48_4 : IFD Tryz.prog 48 4 5 := ⟨by unfold FD; kernel_rfl⟩
instance fd34_5 : IFD Tryz.prog 34 5 7 := ⟨by unfold FD; kernel_rfl⟩
instance fd48_5 : IFD Tryz.prog 48 5 7 := ⟨by unfold FD; kernel_rfl⟩
instance cf43 : ICF Tryz.prog 43 := ⟨fun _ _ => Tryz.call43 _ _⟩
instance sl46 : ISL Tryz.prog 46 80 := ⟨by unfold SL; kernel_rfl⟩
def rd80 (H : AHeap) (v : Value) (a : Access) : Prop := ∃ v0 : Sv, v = .agg [(.int .i64 a.Method), v0.v].toArray ∧ (RdS 3 rdInt) H v0.v a.Values
instance : Mono rd80 := ⟨fun h hi => by
  obtain ⟨v0, h, h0⟩ := h
  exact ⟨v0, h, Mono.up h0 hi⟩⟩
instance : Cells rd80 2 := ⟨fun h => by
  obtain ⟨v0, rfl, h0⟩ := h
  exact ⟨rfl, rfl⟩⟩
def ow80 : ORel Access := fun F H v a => ∃ (v0 : Sv) (F0 : List Nat), v = .agg [(.int .i64 a.Method), v0.v].toArray ∧ F0 = F ∧ (OwnS 3 (roE rdInt)) F0 H v0.v a.Values
instance : Keep ow80 := ⟨fun h hi hg => by
  obtain ⟨v0, F0, rfl, rfl, h0⟩ := h
  exact ⟨v0, F0, rfl, rfl, Keep.keep h0 hi (fun k hk => hg k (by simp [hk]))⟩⟩
instance : Local ow80 := ⟨fun h hg => by
  obtain ⟨v0, F0, rfl, rfl, h0⟩ := h
  exact ⟨v0, F0, rfl, rfl, Local.keep h0 (fun k hk => hg k (by simp [hk]))⟩⟩
instance : Owns ow80 := ⟨fun h k hk => by
  obtain ⟨v0, F0, rfl, rfl, h0⟩ := h
  exact Owns.owns h0 k hk
⟩
instance : OCells ow80 2 := ⟨fun h => by
  obtain ⟨v0, F0, rfl, rfl, h0⟩ := h
  exact ⟨rfl, rfl⟩⟩
instance : Frz ow80 rd80 := ⟨fun h hg => by
  obtain ⟨v0, F0, rfl, rfl, h0⟩ := h
  exact ⟨v0, rfl, Frz.frz h0 (fun k hk => hg k (by simp [hk]))⟩⟩
theorem mk80 {a : Access} {v0 : Sv} {F0 : List Nat} : Mk ow80 F0 (.agg [(.int .i64 a.Method), v0.v].toArray) a [cown (OwnS 3 (roE rdInt)) F0 v0.v a.Values] :=
  ⟨fun H h => ⟨v0, F0, rfl, rfl, h (cown (OwnS 3 (roE rdInt)) F0 v0.v a.Values) (by simp)⟩, by simp [cown]⟩
instance fd48_6 : IFD Tryz.prog 48 6 8 := ⟨by unfold FD; kernel_rfl⟩
instance ty46 : ITY Tryz.prog 46 1 24 (.slice none 0 0) := ⟨by unfold TY; kernel_rfl⟩
instance fd48_7 : IFD Tryz.prog 48 7 9 := ⟨by unfold FD; kernel_rfl⟩
instance fd34_8 : IFD Tryz.prog 34 8 10 := ⟨by unfold FD; kernel_rfl⟩
instance fd48_8 : IFD Tryz.prog 48 8 10 := ⟨by unfold FD; kernel_rfl⟩
instance cf44 : ICF Tryz.prog 44 := ⟨fun _ _ => Tryz.call44 _ _⟩
instance cf102 : ICF Tryz.prog 102 := ⟨fun _ _ => Tryz.call102 _ _⟩
instance fd48_9 : IFD Tryz.prog 48 9 11 := ⟨by unfold FD; kernel_rfl⟩
instance ty32 : ITY Tryz.prog 32 1 24 (.slice none 0 0) := ⟨by unfold TY; kernel_rfl⟩
instance ag48 : IAG Tryz.prog 48 true := ⟨by unfold AG; kernel_rfl⟩
instance cf7 : ICF Tryz.prog 7 := ⟨fun _ _ => Tryz.call7 _ _⟩
instance sl36 : ISL Tryz.prog 36 9 := ⟨by unfold SL; kernel_rfl⟩
instance ty9 : ITY Tryz.prog 9 1 16 (.string ⟨[].toArray⟩) := ⟨by unfold TY; kernel_rfl⟩
instance ag43 : IAG Tryz.prog 43 false := ⟨by unfold AG; kernel_rfl⟩
instance cf36 : ICF Tryz.prog 36 := ⟨fun _ _ => Tryz.call36 _ _⟩
instance cf91 : ICF Tryz.prog 91 := ⟨fun _ _ => Tryz.call91 _ _⟩
instance cf96 : ICF Tryz.prog 96 := ⟨fun _ _ => Tryz.call96 _ _⟩
instance ag38 : IAG Tryz.prog 38 false := ⟨by unfold AG; kernel_rfl⟩
instance cf64 : ICF Tryz.prog 64 := ⟨fun _ _ => Tryz.call64 _ _⟩
def ul112_0_112 (a : Method) (p : Sv) : List Value := [(.int .i64 a.Rel), p.v, (.int .i64 a.Limit), (.int .i64 a.Cost), (.int .i64 a.Quota)]
theorem la112_0_112 {a : Method} : ∀ H e, rd112 H e a → ∃ i : Sv, 0 + 5 ≤ e.cells.size ∧ (e.cells.toList.drop 0).take 5 = ul112_0_112 a i ∧ ∀ c ∈ ([crd (RdS 3 rdInt) i.v a.Inputs] : List Comp), c.P H ∧ c.F = [] := by
  intro H e h
  obtain ⟨v0, rfl, h0⟩ := h
  refine ⟨v0, Nat.le_of_ble_eq_true rfl, rfl, fun c hc => by
    simp only [List.mem_cons, List.not_mem_nil, or_false] at hc
    rcases hc with rfl
    · exact ⟨h0, rfl⟩
⟩
instance cf123 : ICF Tryz.prog 123 := ⟨fun _ _ => Tryz.call123 _ _⟩
theorem mixed : Tryz.prog.follows .mixedOrders = true := by kernel_rfl
instance ag39 : IAG Tryz.prog 39 false := ⟨by unfold AG; kernel_rfl⟩
instance cf92 : ICF Tryz.prog 92 := ⟨fun _ _ => Tryz.call92 _ _⟩
def ul148_0_148 (a : Rule) (p : Sv) : List Value := [(.int .i64 a.From), (.int .i64 a.To), p.v]
theorem la148_0_148 {a : Rule} : ∀ H e, rd148 H e a → ∃ i : Sv, 0 + 3 ≤ e.cells.size ∧ (e.cells.toList.drop 0).take 3 = ul148_0_148 a i ∧ ∀ c ∈ ([crd (RdS 3 rdInt) i.v a.Map] : List Comp), c.P H ∧ c.F = [] := by
  intro H e h
  obtain ⟨v0, rfl, h0⟩ := h
  refine ⟨v0, Nat.le_of_ble_eq_true rfl, rfl, fun c hc => by
    simp only [List.mem_cons, List.not_mem_nil, or_false] at hc
    rcases hc with rfl
    · exact ⟨h0, rfl⟩
⟩
instance cf147 : ICF Tryz.prog 147 := ⟨fun _ _ => Tryz.call147 _ _⟩
instance cf93 : ICF Tryz.prog 93 := ⟨fun _ _ => Tryz.call93 _ _⟩
instance ag40 : IAG Tryz.prog 40 false := ⟨by unfold AG; kernel_rfl⟩
instance cf65 : ICF Tryz.prog 65 := ⟨fun _ _ => Tryz.call65 _ _⟩
def ul114_0_114 (a : Fact) (p : Sv) : List Value := [(.int .i64 a.Rel), p.v]
theorem la114_0_114 {a : Fact} : ∀ H e, rd114 H e a → ∃ i : Sv, 0 + 2 ≤ e.cells.size ∧ (e.cells.toList.drop 0).take 2 = ul114_0_114 a i ∧ ∀ c ∈ ([crd (RdS 3 rdInt) i.v a.Values] : List Comp), c.P H ∧ c.F = [] := by
  intro H e h
  obtain ⟨v0, rfl, h0⟩ := h
  refine ⟨v0, Nat.le_of_ble_eq_true rfl, rfl, fun c hc => by
    simp only [List.mem_cons, List.not_mem_nil, or_false] at hc
    rcases hc with rfl
    · exact ⟨h0, rfl⟩
⟩
instance cf124 : ICF Tryz.prog 124 := ⟨fun _ _ => Tryz.call124 _ _⟩
instance cf125 : ICF Tryz.prog 125 := ⟨fun _ _ => Tryz.call125 _ _⟩
instance cf94 : ICF Tryz.prog 94 := ⟨fun _ _ => Tryz.call94 _ _⟩
def ul82_0_82 (a : Stored) (p : Sv × Sv) : List Value := [(.int .i64 a.Access.Method), p.1.v, p.2.v, (.int .i64 a.At)]
theorem la82_0_82 {a : Stored} : ∀ H e, rd82 H e a → ∃ i : Sv × Sv, 0 + 4 ≤ e.cells.size ∧ (e.cells.toList.drop 0).take 4 = ul82_0_82 a i ∧ ∀ c ∈ ([crd (RdS 3 rdInt) i.1.v a.Access.Values, crd (RdS 114 rd114) i.2.v a.Facts] : List Comp), c.P H ∧ c.F = [] := by
  intro H e h
  obtain ⟨v0, v1, rfl, h0, h1⟩ := h
  refine ⟨(v0, v1), Nat.le_of_ble_eq_true rfl, rfl, fun c hc => by
    simp only [List.mem_cons, List.not_mem_nil, or_false] at hc
    rcases hc with rfl | rfl
    · exact ⟨h0, rfl⟩
    · exact ⟨h1, rfl⟩
⟩
instance cf95 : ICF Tryz.prog 95 := ⟨fun _ _ => Tryz.call95 _ _⟩
theorem lv112_1 {a : Method} : ∀ H e, rd112 H e a → ∃ w : Sv, e.cells.toList[1]? = some w.v ∧ (RdS 3 rdInt) H w.v a.Inputs := by
  intro H e h
  obtain ⟨v0, rfl, h0⟩ := h
  exact ⟨v0, rfl, h0⟩
def ul82_0_80 (a : Stored) (p : Sv) : List Value := [(.int .i64 a.Access.Method), p.v]
theorem la82_0_80 {a : Stored} : ∀ H e, rd82 H e a → ∃ i : Sv, 0 + 2 ≤ e.cells.size ∧ (e.cells.toList.drop 0).take 2 = ul82_0_80 a i ∧ ∀ c ∈ ([crd (RdS 3 rdInt) i.v a.Access.Values] : List Comp), c.P H ∧ c.F = [] := by
  intro H e h
  obtain ⟨v0, v1, rfl, h0, h1⟩ := h
  refine ⟨v0, Nat.le_of_ble_eq_true rfl, rfl, fun c hc => by
    simp only [List.mem_cons, List.not_mem_nil, or_false] at hc
    rcases hc with rfl
    · exact ⟨h0, rfl⟩
⟩
instance cf148 : ICF Tryz.prog 148 := ⟨fun _ _ => Tryz.call148 _ _⟩
instance cf183 : ICF Tryz.prog 183 := ⟨fun _ _ => Tryz.call183 _ _⟩
instance cf149 : ICF Tryz.prog 149 := ⟨fun _ _ => Tryz.call149 _ _⟩
instance ag46 : IAG Tryz.prog 46 false := ⟨by unfold AG; kernel_rfl⟩
instance cf97 : ICF Tryz.prog 97 := ⟨fun _ _ => Tryz.call97 _ _⟩
def ul80_0_80 (a : Access) (p : Sv) : List Value := [(.int .i64 a.Method), p.v]
theorem la80_0_80 {a : Access} : ∀ H e, rd80 H e a → ∃ i : Sv, 0 + 2 ≤ e.cells.size ∧ (e.cells.toList.drop 0).take 2 = ul80_0_80 a i ∧ ∀ c ∈ ([crd (RdS 3 rdInt) i.v a.Values] : List Comp), c.P H ∧ c.F = [] := by
  intro H e h
  obtain ⟨v0, rfl, h0⟩ := h
  refine ⟨v0, Nat.le_of_ble_eq_true rfl, rfl, fun c hc => by
    simp only [List.mem_cons, List.not_mem_nil, or_false] at hc
    rcases hc with rfl
    · exact ⟨h0, rfl⟩
⟩
instance cf37 : ICF Tryz.prog 37 := ⟨fun _ _ => Tryz.call37 _ _⟩
instance cf38 : ICF Tryz.prog 38 := ⟨fun _ _ => Tryz.call38 _ _⟩
theorem ik3 : IK Tryz.prog 3 .i64 := by unfold IK; kernel_rfl
theorem ik5 : IK Tryz.prog 5 .u8 := by unfold IK; kernel_rfl
instance sl146 : ISL Tryz.prog 146 5 := ⟨by unfold SL; kernel_rfl⟩
instance ty5 : ITY Tryz.prog 5 1 1 (.int .u8 0) := ⟨by unfold TY; kernel_rfl⟩
theorem str9 : Tryz.prog.underlying 9 = some .string := by kernel_rfl
instance cf77 : ICF Tryz.prog 77 := ⟨fun _ _ => Tryz.call77 _ _⟩
instance cf39 : ICF Tryz.prog 39 := ⟨fun _ _ => Tryz.call39 _ _⟩
instance cf98 : ICF Tryz.prog 98 := ⟨fun _ _ => Tryz.call98 _ _⟩
theorem ni36 : NotInt Tryz.prog 36 := .inr ⟨9, by kernel_rfl⟩
instance cf9 : ICF Tryz.prog 9 := ⟨fun _ _ => Tryz.call9 _ _⟩
instance cf45 : ICF Tryz.prog 45 := ⟨fun _ _ => Tryz.call45 _ _⟩
instance cf69 : ICF Tryz.prog 69 := ⟨fun _ _ => Tryz.call69 _ _⟩
instance cf128 : ICF Tryz.prog 128 := ⟨fun _ _ => Tryz.call128 _ _⟩
instance cf111 : ICF Tryz.prog 111 := ⟨fun _ _ => Tryz.call111 _ _⟩
instance cf158 : ICF Tryz.prog 158 := ⟨fun _ _ => Tryz.call158 _ _⟩
instance cf204 : ICF Tryz.prog 204 := ⟨fun _ _ => Tryz.call204 _ _⟩
instance cf172 : ICF Tryz.prog 172 := ⟨fun _ _ => Tryz.call172 _ _⟩
instance cf129 : ICF Tryz.prog 129 := ⟨fun _ _ => Tryz.call129 _ _⟩
instance cf173 : ICF Tryz.prog 173 := ⟨fun _ _ => Tryz.call173 _ _⟩
instance cf130 : ICF Tryz.prog 130 := ⟨fun _ _ => Tryz.call130 _ _⟩
instance cf131 : ICF Tryz.prog 131 := ⟨fun _ _ => Tryz.call131 _ _⟩
instance cf174 : ICF Tryz.prog 174 := ⟨fun _ _ => Tryz.call174 _ _⟩
instance cf175 : ICF Tryz.prog 175 := ⟨fun _ _ => Tryz.call175 _ _⟩
instance cf212 : ICF Tryz.prog 212 := ⟨fun _ _ => Tryz.call212 _ _⟩
instance cf213 : ICF Tryz.prog 213 := ⟨fun _ _ => Tryz.call213 _ _⟩
instance cf214 : ICF Tryz.prog 214 := ⟨fun _ _ => Tryz.call214 _ _⟩
instance cf103 : ICF Tryz.prog 103 := ⟨fun _ _ => Tryz.call103 _ _⟩
instance cf151 : ICF Tryz.prog 151 := ⟨fun _ _ => Tryz.call151 _ _⟩
instance cf201 : ICF Tryz.prog 201 := ⟨fun _ _ => Tryz.call201 _ _⟩
instance cf152 : ICF Tryz.prog 152 := ⟨fun _ _ => Tryz.call152 _ _⟩
instance cf153 : ICF Tryz.prog 153 := ⟨fun _ _ => Tryz.call153 _ _⟩
instance cf202 : ICF Tryz.prog 202 := ⟨fun _ _ => Tryz.call202 _ _⟩
instance cf240 : ICF Tryz.prog 240 := ⟨fun _ _ => Tryz.call240 _ _⟩
instance cf104 : ICF Tryz.prog 104 := ⟨fun _ _ => Tryz.call104 _ _⟩
instance cf70 : ICF Tryz.prog 70 := ⟨fun _ _ => Tryz.call70 _ _⟩
instance cf132 : ICF Tryz.prog 132 := ⟨fun _ _ => Tryz.call132 _ _⟩
instance cf112 : ICF Tryz.prog 112 := ⟨fun _ _ => Tryz.call112 _ _⟩
instance cf160 : ICF Tryz.prog 160 := ⟨fun _ _ => Tryz.call160 _ _⟩
instance cf161 : ICF Tryz.prog 161 := ⟨fun _ _ => Tryz.call161 _ _⟩
instance cf133 : ICF Tryz.prog 133 := ⟨fun _ _ => Tryz.call133 _ _⟩
instance cf177 : ICF Tryz.prog 177 := ⟨fun _ _ => Tryz.call177 _ _⟩
instance cf215 : ICF Tryz.prog 215 := ⟨fun _ _ => Tryz.call215 _ _⟩
instance cf178 : ICF Tryz.prog 178 := ⟨fun _ _ => Tryz.call178 _ _⟩
instance cf176 : ICF Tryz.prog 176 := ⟨fun _ _ => Tryz.call176 _ _⟩
instance cf105 : ICF Tryz.prog 105 := ⟨fun _ _ => Tryz.call105 _ _⟩
instance cf154 : ICF Tryz.prog 154 := ⟨fun _ _ => Tryz.call154 _ _⟩
instance cf109 : ICF Tryz.prog 109 := ⟨fun _ _ => Tryz.call109 _ _⟩
instance cf181 : ICF Tryz.prog 181 := ⟨fun _ _ => Tryz.call181 _ _⟩
instance cf222 : ICF Tryz.prog 222 := ⟨fun _ _ => Tryz.call222 _ _⟩
instance cf198 : ICF Tryz.prog 198 := ⟨fun _ _ => Tryz.call198 _ _⟩
instance cf235 : ICF Tryz.prog 235 := ⟨fun _ _ => Tryz.call235 _ _⟩
theorem ni22 : NotInt Tryz.prog 22 := .inr ⟨3, by kernel_rfl⟩
theorem ni40 : NotInt Tryz.prog 40 := .inr ⟨114, by kernel_rfl⟩
instance cf221 : ICF Tryz.prog 221 := ⟨fun _ _ => Tryz.call221 _ _⟩
instance cf223 : ICF Tryz.prog 223 := ⟨fun _ _ => Tryz.call223 _ _⟩
instance cf195 : ICF Tryz.prog 195 := ⟨fun _ _ => Tryz.call195 _ _⟩
instance cf106 : ICF Tryz.prog 106 := ⟨fun _ _ => Tryz.call106 _ _⟩
instance cf155 : ICF Tryz.prog 155 := ⟨fun _ _ => Tryz.call155 _ _⟩
instance cf107 : ICF Tryz.prog 107 := ⟨fun _ _ => Tryz.call107 _ _⟩
instance cf156 : ICF Tryz.prog 156 := ⟨fun _ _ => Tryz.call156 _ _⟩
instance cf108 : ICF Tryz.prog 108 := ⟨fun _ _ => Tryz.call108 _ _⟩
instance cf110 : ICF Tryz.prog 110 := ⟨fun _ _ => Tryz.call110 _ _⟩
instance cf157 : ICF Tryz.prog 157 := ⟨fun _ _ => Tryz.call157 _ _⟩
instance cf203 : ICF Tryz.prog 203 := ⟨fun _ _ => Tryz.call203 _ _⟩
instance cf159 : ICF Tryz.prog 159 := ⟨fun _ _ => Tryz.call159 _ _⟩
instance cf46 : ICF Tryz.prog 46 := ⟨fun _ _ => Tryz.call46 _ _⟩
instance cf47 : ICF Tryz.prog 47 := ⟨fun _ _ => Tryz.call47 _ _⟩
instance cf113 : ICF Tryz.prog 113 := ⟨fun _ _ => Tryz.call113 _ _⟩
def laysM171_ren : Go.Shelf.Ren := ⟨fun | 171 => 113 | 243 => 162 | 246 => 205 | 283 => 241 | 284 => 242 | 285 => 243 | 286 => 244 | 129 => 268 | 317 => 267 | 318 => 269 | 319 => 270 | 320 => 271 | 337 => 288 | 338 => 289 | n => n, fun | 3 => 3 | 9 => 9 | 2 => 2 | 4 => 4 | 171 => 250 | 0 => 0 | 53 => 251 | 37 => 146 | 5 => 5 | 173 => 254 | 212 => 268 | 51 => 269 | 20 => 20 | 213 => 270 | 46 => 261 | 232 => 289 | 233 => 290 | n => n, fun | 17 => 0 | 18 => 2 | 19 => 3 | n => n⟩
theorem laysM171 : Go.Proofs.LaysM.n171 Tryz.prog laysM171_ren := {
  mixed := by kernel_rfl
  f129 := Tryz.func268.trans (congrArg some (by kernel_rfl))
  f171 := Tryz.func113.trans (congrArg some (by kernel_rfl))
  f243 := Tryz.func162.trans (congrArg some (by kernel_rfl))
  f246 := Tryz.func205.trans (congrArg some (by kernel_rfl))
  f283 := Tryz.func241.trans (congrArg some (by kernel_rfl))
  f284 := Tryz.func242.trans (congrArg some (by kernel_rfl))
  f285 := Tryz.func243.trans (congrArg some (by kernel_rfl))
  f286 := Tryz.func244.trans (congrArg some (by kernel_rfl))
  f317 := Tryz.func267.trans (congrArg some (by kernel_rfl))
  f318 := Tryz.func269.trans (congrArg some (by kernel_rfl))
  f319 := Tryz.func270.trans (congrArg some (by kernel_rfl))
  f320 := Tryz.func271.trans (congrArg some (by kernel_rfl))
  f337 := Tryz.func288.trans (congrArg some (by kernel_rfl))
  f338 := Tryz.func289.trans (congrArg some (by kernel_rfl))
  t0 := Tryz.underlying0
  a0 := Tryz.isAgg0
  z0 := Tryz.sizeOf0
  v0 := Tryz.zeroValue0
  t2 := Tryz.underlying2
  a2 := Tryz.isAgg2
  z2 := Tryz.sizeOf2
  v2 := Tryz.zeroValue2
  t3 := Tryz.underlying3
  a3 := Tryz.isAgg3
  z3 := Tryz.sizeOf3
  v3 := Tryz.zeroValue3
  t4 := Tryz.underlying4
  a4 := Tryz.isAgg4
  z4 := Tryz.sizeOf4
  v4 := Tryz.zeroValue4
  t5 := Tryz.underlying5
  a5 := Tryz.isAgg5
  z5 := Tryz.sizeOf5
  v5 := Tryz.zeroValue5
  t9 := Tryz.underlying9
  a9 := Tryz.isAgg9
  z9 := Tryz.sizeOf9
  v9 := Tryz.zeroValue9
  t20 := Tryz.underlying20
  a20 := Tryz.isAgg20
  z20 := Tryz.sizeOf20
  v20 := Tryz.zeroValue20
  t37 := Tryz.underlying146
  a37 := Tryz.isAgg146
  z37 := Tryz.sizeOf146
  v37 := Tryz.zeroValue146
  t46 := Tryz.underlying261
  a46 := Tryz.isAgg261
  z46 := Tryz.sizeOf261
  v46 := Tryz.zeroValue261
  t51 := Tryz.underlying269
  a51 := Tryz.isAgg269
  z51 := Tryz.sizeOf269
  v51 := Tryz.zeroValue269
  t53 := Tryz.underlying251
  a53 := Tryz.isAgg251
  z53 := Tryz.sizeOf251
  v53 := Tryz.zeroValue251
  t171 := Tryz.underlying250
  a171 := Tryz.isAgg250
  z171 := Tryz.sizeOf250
  v171 := Tryz.zeroValue250
  t173 := Tryz.underlying254
  a173 := Tryz.isAgg254
  z173 := Tryz.sizeOf254
  v173 := Tryz.zeroValue254
  t212 := Tryz.underlying268
  a212 := Tryz.isAgg268
  z212 := Tryz.sizeOf268
  v212 := Tryz.zeroValue268
  t213 := Tryz.underlying270
  a213 := Tryz.isAgg270
  z213 := Tryz.sizeOf270
  t232 := Tryz.underlying289
  a232 := Tryz.isAgg289
  z232 := Tryz.sizeOf289
  v232 := Tryz.zeroValue289
  t233 := Tryz.underlying290
  a233 := Tryz.isAgg290
  z233 := Tryz.sizeOf290
  v233 := Tryz.zeroValue290
  g17 := by kernel_rfl
  g18 := by kernel_rfl
  g19 := by kernel_rfl
  i0 := by kernel_rfl
  i2 := by kernel_rfl
  i3 := by kernel_rfl
  i4 := by kernel_rfl
  i5 := by kernel_rfl
  i9 := by kernel_rfl
  i20 := by kernel_rfl
  i37 := by kernel_rfl
  i46 := by kernel_rfl
  i51 := by kernel_rfl
  i53 := by kernel_rfl
  i171 := by kernel_rfl
  i173 := by kernel_rfl
  i212 := by kernel_rfl
  i232 := by kernel_rfl
  i233 := by kernel_rfl
  m17 := by kernel_rfl
  m18 := by kernel_rfl
  m19 := by kernel_rfl }
instance cf83 : ICF Tryz.prog 83 := ⟨fun _ _ => Tryz.call83 _ _⟩
instance cf115 : ICF Tryz.prog 115 := ⟨fun _ _ => Tryz.call115 _ _⟩
def lays156_ren : Go.Shelf.Ren := ⟨fun | 156 => 115 | 165 => 164 | 166 => 165 | 169 => 166 | 240 => 206 | 241 => 207 | 276 => 245 | 277 => 246 | n => n, fun | 31 => 36 | 9 => 9 | 3 => 3 | 4 => 4 | 0 => 0 | 20 => 20 | 72 => 196 | 76 => 200 | 70 => 194 | 37 => 146 | 75 => 199 | 127 => 232 | 164 => 256 | 5 => 5 | 80 => 202 | n => n, fun | n => n⟩
theorem lays156 : Go.Proofs.Lays.n156 Tryz.prog lays156_ren := {
  mixed := by kernel_rfl
  f156 := Tryz.func115.trans (congrArg some (by kernel_rfl))
  f165 := Tryz.func164.trans (congrArg some (by kernel_rfl))
  f166 := Tryz.func165.trans (congrArg some (by kernel_rfl))
  f169 := Tryz.func166.trans (congrArg some (by kernel_rfl))
  f240 := Tryz.func206.trans (congrArg some (by kernel_rfl))
  f241 := Tryz.func207.trans (congrArg some (by kernel_rfl))
  f276 := Tryz.func245.trans (congrArg some (by kernel_rfl))
  f277 := Tryz.func246.trans (congrArg some (by kernel_rfl))
  t0 := Tryz.underlying0
  a0 := Tryz.isAgg0
  z0 := Tryz.sizeOf0
  v0 := Tryz.zeroValue0
  t3 := Tryz.underlying3
  a3 := Tryz.isAgg3
  z3 := Tryz.sizeOf3
  v3 := Tryz.zeroValue3
  t4 := Tryz.underlying4
  a4 := Tryz.isAgg4
  z4 := Tryz.sizeOf4
  v4 := Tryz.zeroValue4
  t9 := Tryz.underlying9
  a9 := Tryz.isAgg9
  z9 := Tryz.sizeOf9
  v9 := Tryz.zeroValue9
  t20 := Tryz.underlying20
  a20 := Tryz.isAgg20
  z20 := Tryz.sizeOf20
  v20 := Tryz.zeroValue20
  t31 := Tryz.underlying36
  a31 := Tryz.isAgg36
  z31 := Tryz.sizeOf36
  v31 := Tryz.zeroValue36
  t37 := Tryz.underlying146
  a37 := Tryz.isAgg146
  z37 := Tryz.sizeOf146
  v37 := Tryz.zeroValue146
  t70 := Tryz.underlying194
  a70 := Tryz.isAgg194
  z70 := Tryz.sizeOf194
  v70 := Tryz.zeroValue194
  t72 := Tryz.underlying196
  a72 := Tryz.isAgg196
  z72 := Tryz.sizeOf196
  v72 := Tryz.zeroValue196
  t75 := Tryz.underlying199
  a75 := Tryz.isAgg199
  z75 := Tryz.sizeOf199
  v75 := Tryz.zeroValue199
  t76 := Tryz.underlying200
  a76 := Tryz.isAgg200
  z76 := Tryz.sizeOf200
  v76 := Tryz.zeroValue200
  t127 := Tryz.underlying232
  a127 := Tryz.isAgg232
  z127 := Tryz.sizeOf232
  v127 := Tryz.zeroValue232
  t164 := Tryz.underlying256
  a164 := Tryz.isAgg256
  z164 := Tryz.sizeOf256
  v164 := Tryz.zeroValue256 }
theorem extra : Go.Proofs.Builder.Extra Tryz.prog lays156_ren := {
  sizeBuilder := by kernel_rfl
  liesBuilder := by kernel_rfl
  t5 := Tryz.underlying5
  a5 := Tryz.isAgg5
  z5 := Tryz.sizeOf5
  v5 := Tryz.zeroValue5
  infoByte := by kernel_rfl
  cellsByte := by kernel_rfl
  sizeByte := by kernel_rfl
  neB5 := by decide }
instance cf48 : ICF Tryz.prog 48 := ⟨fun _ _ => Tryz.call48 _ _⟩
instance cf114 : ICF Tryz.prog 114 := ⟨fun _ _ => Tryz.call114 _ _⟩
instance cf163 : ICF Tryz.prog 163 := ⟨fun _ _ => Tryz.call163 _ _⟩
instance cf10 : ICF Tryz.prog 10 := ⟨fun _ _ => Tryz.call10 _ _⟩
theorem ls9_0 {a : List UInt8} : ∀ H e, rdStr H e a → e.cells.toList[0]? = some (sv a) := by
  intro H e h
  subst h
  rfl
instance ag9 : IAG Tryz.prog 9 false := ⟨by unfold AG; kernel_rfl⟩
instance cf11 : ICF Tryz.prog 11 := ⟨fun _ _ => Tryz.call11 _ _⟩
instance cf22 : ICF Tryz.prog 22 := ⟨fun _ _ => Tryz.call22 _ _⟩
instance cf23 : ICF Tryz.prog 23 := ⟨fun _ _ => Tryz.call23 _ _⟩
instance cf72 : ICF Tryz.prog 72 := ⟨fun _ _ => Tryz.call72 _ _⟩
instance cf49 : ICF Tryz.prog 49 := ⟨fun _ _ => Tryz.call49 _ _⟩
instance cf116 : ICF Tryz.prog 116 := ⟨fun _ _ => Tryz.call116 _ _⟩
instance cf50 : ICF Tryz.prog 50 := ⟨fun _ _ => Tryz.call50 _ _⟩
instance cf24 : ICF Tryz.prog 24 := ⟨fun _ _ => Tryz.call24 _ _⟩
instance cf73 : ICF Tryz.prog 73 := ⟨fun _ _ => Tryz.call73 _ _⟩
instance cf51 : ICF Tryz.prog 51 := ⟨fun _ _ => Tryz.call51 _ _⟩
instance cf117 : ICF Tryz.prog 117 := ⟨fun _ _ => Tryz.call117 _ _⟩
instance cf167 : ICF Tryz.prog 167 := ⟨fun _ _ => Tryz.call167 _ _⟩
instance cf118 : ICF Tryz.prog 118 := ⟨fun _ _ => Tryz.call118 _ _⟩
instance cf52 : ICF Tryz.prog 52 := ⟨fun _ _ => Tryz.call52 _ _⟩
instance cf53 : ICF Tryz.prog 53 := ⟨fun _ _ => Tryz.call53 _ _⟩
instance cf119 : ICF Tryz.prog 119 := ⟨fun _ _ => Tryz.call119 _ _⟩
instance cf12 : ICF Tryz.prog 12 := ⟨fun _ _ => Tryz.call12 _ _⟩
instance cf54 : ICF Tryz.prog 54 := ⟨fun _ _ => Tryz.call54 _ _⟩
instance cf55 : ICF Tryz.prog 55 := ⟨fun _ _ => Tryz.call55 _ _⟩
theorem sf112_0 {a : Method} {d : Int} : ∀ F H e, ow112 F H e a → ow112 F H (setPart e 0 (Value.cells (.int .i64 d)).toList) { a with Rel := d } := by
  intro F H e h
  obtain ⟨v0, F0, rfl, rfl, h0⟩ := h
  exact ⟨v0, F0, rfl, rfl, h0⟩
theorem fsf112_0 {a : Method} : ∀ F H e, ow112 F H e a → 0 + 1 ≤ e.cells.size := by
  intro F H e h
  obtain ⟨v0, F0, rfl, rfl, h0⟩ := h
  exact Nat.le_of_ble_eq_true rfl
theorem pt112_1 : Part ow112 1 (OwnS 3 (roE rdInt)) (fun a : Method => a.Inputs) (fun a d => { a with Inputs := d }) := ⟨fun {F H e a} h => by
  obtain ⟨v0, F0, rfl, rfl, h0⟩ := h
  exact ⟨v0, [], F0, [], rfl, by simp, h0, fun hi hk h' => ⟨v0, _, rfl, by simp, h'⟩⟩⟩
theorem sf112_2 {a : Method} {d : Int} : ∀ F H e, ow112 F H e a → ow112 F H (setPart e 2 (Value.cells (.int .i64 d)).toList) { a with Limit := d } := by
  intro F H e h
  obtain ⟨v0, F0, rfl, rfl, h0⟩ := h
  exact ⟨v0, F0, rfl, rfl, h0⟩
theorem fsf112_2 {a : Method} : ∀ F H e, ow112 F H e a → 2 + 1 ≤ e.cells.size := by
  intro F H e h
  obtain ⟨v0, F0, rfl, rfl, h0⟩ := h
  exact Nat.le_of_ble_eq_true rfl
theorem sf112_3 {a : Method} {d : Int} : ∀ F H e, ow112 F H e a → ow112 F H (setPart e 3 (Value.cells (.int .i64 d)).toList) { a with Cost := d } := by
  intro F H e h
  obtain ⟨v0, F0, rfl, rfl, h0⟩ := h
  exact ⟨v0, F0, rfl, rfl, h0⟩
theorem fsf112_3 {a : Method} : ∀ F H e, ow112 F H e a → 3 + 1 ≤ e.cells.size := by
  intro F H e h
  obtain ⟨v0, F0, rfl, rfl, h0⟩ := h
  exact Nat.le_of_ble_eq_true rfl
theorem sf112_4 {a : Method} {d : Int} : ∀ F H e, ow112 F H e a → ow112 F H (setPart e 4 (Value.cells (.int .i64 d)).toList) { a with Quota := d } := by
  intro F H e h
  obtain ⟨v0, F0, rfl, rfl, h0⟩ := h
  exact ⟨v0, F0, rfl, rfl, h0⟩
theorem fsf112_4 {a : Method} : ∀ F H e, ow112 F H e a → 4 + 1 ≤ e.cells.size := by
  intro F H e h
  obtain ⟨v0, F0, rfl, rfl, h0⟩ := h
  exact Nat.le_of_ble_eq_true rfl
instance cf56 : ICF Tryz.prog 56 := ⟨fun _ _ => Tryz.call56 _ _⟩
theorem sf148_0 {a : Rule} {d : Int} : ∀ F H e, ow148 F H e a → ow148 F H (setPart e 0 (Value.cells (.int .i64 d)).toList) { a with From := d } := by
  intro F H e h
  obtain ⟨v0, F0, rfl, rfl, h0⟩ := h
  exact ⟨v0, F0, rfl, rfl, h0⟩
theorem fsf148_0 {a : Rule} : ∀ F H e, ow148 F H e a → 0 + 1 ≤ e.cells.size := by
  intro F H e h
  obtain ⟨v0, F0, rfl, rfl, h0⟩ := h
  exact Nat.le_of_ble_eq_true rfl
theorem sf148_1 {a : Rule} {d : Int} : ∀ F H e, ow148 F H e a → ow148 F H (setPart e 1 (Value.cells (.int .i64 d)).toList) { a with To := d } := by
  intro F H e h
  obtain ⟨v0, F0, rfl, rfl, h0⟩ := h
  exact ⟨v0, F0, rfl, rfl, h0⟩
theorem fsf148_1 {a : Rule} : ∀ F H e, ow148 F H e a → 1 + 1 ≤ e.cells.size := by
  intro F H e h
  obtain ⟨v0, F0, rfl, rfl, h0⟩ := h
  exact Nat.le_of_ble_eq_true rfl
theorem pt148_2 : Part ow148 2 (OwnS 3 (roE rdInt)) (fun a : Rule => a.Map) (fun a d => { a with Map := d }) := ⟨fun {F H e a} h => by
  obtain ⟨v0, F0, rfl, rfl, h0⟩ := h
  exact ⟨v0, [], F0, [], rfl, by simp, h0, fun hi hk h' => ⟨v0, _, rfl, by simp, h'⟩⟩⟩
instance cf57 : ICF Tryz.prog 57 := ⟨fun _ _ => Tryz.call57 _ _⟩
instance cf120 : ICF Tryz.prog 120 := ⟨fun _ _ => Tryz.call120 _ _⟩
theorem sf114_0 {a : Fact} {d : Int} : ∀ F H e, ow114 F H e a → ow114 F H (setPart e 0 (Value.cells (.int .i64 d)).toList) { a with Rel := d } := by
  intro F H e h
  obtain ⟨v0, F0, rfl, rfl, h0⟩ := h
  exact ⟨v0, F0, rfl, rfl, h0⟩
theorem fsf114_0 {a : Fact} : ∀ F H e, ow114 F H e a → 0 + 1 ≤ e.cells.size := by
  intro F H e h
  obtain ⟨v0, F0, rfl, rfl, h0⟩ := h
  exact Nat.le_of_ble_eq_true rfl
theorem pt114_1 : Part ow114 1 (OwnS 3 (roE rdInt)) (fun a : Fact => a.Values) (fun a d => { a with Values := d }) := ⟨fun {F H e a} h => by
  obtain ⟨v0, F0, rfl, rfl, h0⟩ := h
  exact ⟨v0, [], F0, [], rfl, by simp, h0, fun hi hk h' => ⟨v0, _, rfl, by simp, h'⟩⟩⟩
instance cf58 : ICF Tryz.prog 58 := ⟨fun _ _ => Tryz.call58 _ _⟩
instance cf121 : ICF Tryz.prog 121 := ⟨fun _ _ => Tryz.call121 _ _⟩
theorem sf82_0 {a : Stored} {d : Int} : ∀ F H e, ow82 F H e a → ow82 F H (setPart e 0 (Value.cells (.int .i64 d)).toList) { a with Access := { a.Access with Method := d } } := by
  intro F H e h
  obtain ⟨v0, v1, F0, F1, rfl, rfl, h0, h1⟩ := h
  exact ⟨v0, v1, F0, F1, rfl, rfl, h0, h1⟩
theorem fsf82_0 {a : Stored} : ∀ F H e, ow82 F H e a → 0 + 1 ≤ e.cells.size := by
  intro F H e h
  obtain ⟨v0, v1, F0, F1, rfl, rfl, h0, h1⟩ := h
  exact Nat.le_of_ble_eq_true rfl
theorem pt82_1 : Part ow82 1 (OwnS 3 (roE rdInt)) (fun a : Stored => a.Access.Values) (fun a d => { a with Access := { a.Access with Values := d } }) := ⟨fun {F H e a} h => by
  obtain ⟨v0, v1, F0, F1, rfl, rfl, h0, h1⟩ := h
  exact ⟨v0, [], F0, F1, rfl, by simp, h0, fun hi hk h' => ⟨v0, v1, _, F1, rfl, by simp, h', Keep.keep h1 hi (fun k hm => hk k (by simp [hm]))⟩⟩⟩
theorem pt82_2 : Part ow82 2 (OwnS 114 ow114) (fun a : Stored => a.Facts) (fun a d => { a with Facts := d }) := ⟨fun {F H e a} h => by
  obtain ⟨v0, v1, F0, F1, rfl, rfl, h0, h1⟩ := h
  exact ⟨v1, F0, F1, [], rfl, by simp, h1, fun hi hk h' => ⟨v0, v1, F0, _, rfl, by simp, Keep.keep h0 hi (fun k hm => hk k (by simp [hm])), h'⟩⟩⟩
theorem sf82_3 {a : Stored} {d : Int} : ∀ F H e, ow82 F H e a → ow82 F H (setPart e 3 (Value.cells (.int .i64 d)).toList) { a with At := d } := by
  intro F H e h
  obtain ⟨v0, v1, F0, F1, rfl, rfl, h0, h1⟩ := h
  exact ⟨v0, v1, F0, F1, rfl, rfl, h0, h1⟩
theorem fsf82_3 {a : Stored} : ∀ F H e, ow82 F H e a → 3 + 1 ≤ e.cells.size := by
  intro F H e h
  obtain ⟨v0, v1, F0, F1, rfl, rfl, h0, h1⟩ := h
  exact Nat.le_of_ble_eq_true rfl
instance cf59 : ICF Tryz.prog 59 := ⟨fun _ _ => Tryz.call59 _ _⟩
theorem sf80_0 {a : Access} {d : Int} : ∀ F H e, ow80 F H e a → ow80 F H (setPart e 0 (Value.cells (.int .i64 d)).toList) { a with Method := d } := by
  intro F H e h
  obtain ⟨v0, F0, rfl, rfl, h0⟩ := h
  exact ⟨v0, F0, rfl, rfl, h0⟩
theorem fsf80_0 {a : Access} : ∀ F H e, ow80 F H e a → 0 + 1 ≤ e.cells.size := by
  intro F H e h
  obtain ⟨v0, F0, rfl, rfl, h0⟩ := h
  exact Nat.le_of_ble_eq_true rfl
theorem pt80_1 : Part ow80 1 (OwnS 3 (roE rdInt)) (fun a : Access => a.Values) (fun a d => { a with Values := d }) := ⟨fun {F H e a} h => by
  obtain ⟨v0, F0, rfl, rfl, h0⟩ := h
  exact ⟨v0, [], F0, [], rfl, by simp, h0, fun hi hk h' => ⟨v0, _, rfl, by simp, h'⟩⟩⟩
instance cf60 : ICF Tryz.prog 60 := ⟨fun _ _ => Tryz.call60 _ _⟩
theorem pt139_0 : Part (OwnS 22 (OwnS 3 (roE rdInt))) 0 (OwnS 22 (OwnS 3 (roE rdInt))) (fun a => a) (fun _ b => b) := Part.self (fun h => by obtain ⟨a, m, rfl⟩ := OwnS.len h; exact ⟨⟨a, _, m⟩, rfl⟩)
instance cf122 : ICF Tryz.prog 122 := ⟨fun _ _ => Tryz.call122 _ _⟩
theorem pt22_0 : Part (OwnS 3 (roE rdInt)) 0 (OwnS 3 (roE rdInt)) (fun a => a) (fun _ b => b) := Part.self (fun h => by obtain ⟨a, m, rfl⟩ := OwnS.len h; exact ⟨⟨a, _, m⟩, rfl⟩)
instance cf13 : ICF Tryz.prog 13 := ⟨fun _ _ => Tryz.call13 _ _⟩
instance cf61 : ICF Tryz.prog 61 := ⟨fun _ _ => Tryz.call61 _ _⟩
instance cf14 : ICF Tryz.prog 14 := ⟨fun _ _ => Tryz.call14 _ _⟩
def rd34 (H : AHeap) (v : Value) (a : Mediator) : Prop := ∃ v0 v1 v2 v3 v4 v5 v6 v7 : Sv, v = .agg [v0.v, v1.v, v2.v, v3.v, (.int .i64 a.Source.Version), v4.v, (.int .i64 a.Cache.Age), (.int .i64 a.Now), v5.v, v6.v, (.int .i64 a.Spent), v7.v].toArray ∧ (RdS 3 rdInt) H v0.v a.Schema ∧ (RdS 103 rd103) H v1.v a.Methods ∧ (RdS 135 rd135) H v2.v a.Rules ∧ (RdS 106 rd106) H v3.v a.Source.Facts ∧ (RdS 184 rd184) H v4.v a.Cache.Entries ∧ (RdS 120 rd120) H v5.v a.Log ∧ (RdS 3 rdInt) H v6.v a.Times ∧ (RdS 139 (RdS 22 (RdS 3 rdInt))) H v7.v a.Results
instance : Mono rd34 := ⟨fun h hi => by
  obtain ⟨v0, v1, v2, v3, v4, v5, v6, v7, h, h0, h1, h2, h3, h4, h5, h6, h7⟩ := h
  exact ⟨v0, v1, v2, v3, v4, v5, v6, v7, h, Mono.up h0 hi, Mono.up h1 hi, Mono.up h2 hi, Mono.up h3 hi, Mono.up h4 hi, Mono.up h5 hi, Mono.up h6 hi, Mono.up h7 hi⟩⟩
instance : Cells rd34 12 := ⟨fun h => by
  obtain ⟨v0, v1, v2, v3, v4, v5, v6, v7, rfl, h0, h1, h2, h3, h4, h5, h6, h7⟩ := h
  exact ⟨rfl, rfl⟩⟩
theorem fa103_0 : fieldAt Tryz.prog 103 0 = some (3, 0, 1) := by kernel_rfl
theorem fa103_1 : fieldAt Tryz.prog 103 1 = some (22, 1, 1) := by kernel_rfl
theorem fa103_2 : fieldAt Tryz.prog 103 2 = some (3, 2, 1) := by kernel_rfl
theorem fa103_3 : fieldAt Tryz.prog 103 3 = some (3, 3, 1) := by kernel_rfl
theorem fa103_4 : fieldAt Tryz.prog 103 4 = some (3, 4, 1) := by kernel_rfl
def wf103 (a : Method) : Prop := wfInt a.Rel ∧ (wfSl wfInt) a.Inputs ∧ wfInt a.Limit ∧ wfInt a.Cost ∧ wfInt a.Quota
theorem sh103 : ∀ H v a, rd103 H v a → isAgV v = aggT Tryz.prog 103 := by
  intro H v a h
  obtain ⟨v1, rfl, _⟩ := h
  kernel_rfl
theorem op103 : Opn Tryz.prog 103 rd103 wf103 := by
  intro T enc w fuel cs x h hw ρ H hr hF
  have hl := opn_len fa103_0 h (n := 5) ty103.h.sz.cells
  obtain ⟨ρ0, H0, av0, a0, r0, f0, u0, i0, v0, q0, w0⟩ := opn_field fa103_0 h hw (Opn.int (by kernel_rfl)) hr hF
  obtain ⟨ρ1, H1, av1, a1, r1, f1, u1, i1, v1, q1, w1⟩ := opn_field fa103_1 h hw (Opn.slice (s := 1) (by kernel_rfl) (by kernel_rfl) (by decide) (Nat.lt_of_lt_of_le (by decide) (Nat.le_of_eq (show 8 = _ from by kernel_rfl))) (Opn.int (by kernel_rfl))) r0 f0
  obtain ⟨ρ2, H2, av2, a2, r2, f2, u2, i2, v2, q2, w2⟩ := opn_field fa103_2 h hw (Opn.int (by kernel_rfl)) r1 f1
  obtain ⟨ρ3, H3, av3, a3, r3, f3, u3, i3, v3, q3, w3⟩ := opn_field fa103_3 h hw (Opn.int (by kernel_rfl)) r2 f2
  obtain ⟨ρ4, H4, av4, a4, r4, f4, u4, i4, v4, q4, w4⟩ := opn_field fa103_4 h hw (Opn.int (by kernel_rfl)) r3 f3
  obtain rfl : av0 = (.int .i64 a0) := q0
  replace v0 := v0.up (((u1.trans u2).trans u3).trans u4)
  obtain ⟨sa1, sm1, rfl⟩ := RdS.len q1
  replace v1 := v1.one rfl
  replace v1 := v1.up ((u2.trans u3).trans u4)
  obtain rfl : av2 = (.int .i64 a2) := q2
  replace v2 := v2.up (u3.trans u4)
  obtain rfl : av3 = (.int .i64 a3) := q3
  replace v3 := v3.up u4
  obtain rfl : av4 = (.int .i64 a4) := q4
  have hv := RelVs.field (o := 0) v0 (RelVs.field (o := 1) v1 (RelVs.field (o := 2) v2 (RelVs.field (o := 3) v3 (RelVs.field (o := 4) v4 (RelVs.end hl)))))
  rw [List.drop_zero] at hv
  refine ⟨ρ4, H4, (.agg [(.int .i64 a0), (.slice sa1 a1.length sm1), (.int .i64 a2), (.int .i64 a3), (.int .i64 a4)].toArray : Value), ({ Rel := a0, Inputs := a1, Limit := a2, Cost := a3, Quota := a4 } : Method), r4, f4, ((((u0.trans u1).trans u2).trans u3).trans u4), ((((i0.trans i1).trans i2).trans i3).trans i4), ?_, ?_, w0, w1, w2, w3, w4⟩
  · exact hv
  · exact ⟨⟨sa1, _, sm1⟩, rfl, (Mono.up q1 ((i2.trans i3).trans i4))⟩
theorem fa135_0 : fieldAt Tryz.prog 135 0 = some (3, 0, 1) := by kernel_rfl
theorem fa135_1 : fieldAt Tryz.prog 135 1 = some (3, 1, 1) := by kernel_rfl
theorem fa135_2 : fieldAt Tryz.prog 135 2 = some (22, 2, 1) := by kernel_rfl
def wf135 (a : Rule) : Prop := wfInt a.From ∧ wfInt a.To ∧ (wfSl wfInt) a.Map
theorem sh135 : ∀ H v a, rd135 H v a → isAgV v = aggT Tryz.prog 135 := by
  intro H v a h
  obtain ⟨v2, rfl, _⟩ := h
  kernel_rfl
theorem op135 : Opn Tryz.prog 135 rd135 wf135 := by
  intro T enc w fuel cs x h hw ρ H hr hF
  have hl := opn_len fa135_0 h (n := 3) ty135.h.sz.cells
  obtain ⟨ρ0, H0, av0, a0, r0, f0, u0, i0, v0, q0, w0⟩ := opn_field fa135_0 h hw (Opn.int (by kernel_rfl)) hr hF
  obtain ⟨ρ1, H1, av1, a1, r1, f1, u1, i1, v1, q1, w1⟩ := opn_field fa135_1 h hw (Opn.int (by kernel_rfl)) r0 f0
  obtain ⟨ρ2, H2, av2, a2, r2, f2, u2, i2, v2, q2, w2⟩ := opn_field fa135_2 h hw (Opn.slice (s := 1) (by kernel_rfl) (by kernel_rfl) (by decide) (Nat.lt_of_lt_of_le (by decide) (Nat.le_of_eq (show 8 = _ from by kernel_rfl))) (Opn.int (by kernel_rfl))) r1 f1
  obtain rfl : av0 = (.int .i64 a0) := q0
  replace v0 := v0.up (u1.trans u2)
  obtain rfl : av1 = (.int .i64 a1) := q1
  replace v1 := v1.up u2
  obtain ⟨sa2, sm2, rfl⟩ := RdS.len q2
  replace v2 := v2.one rfl
  have hv := RelVs.field (o := 0) v0 (RelVs.field (o := 1) v1 (RelVs.field (o := 2) v2 (RelVs.end hl)))
  rw [List.drop_zero] at hv
  refine ⟨ρ2, H2, (.agg [(.int .i64 a0), (.int .i64 a1), (.slice sa2 a2.length sm2)].toArray : Value), ({ From := a0, To := a1, Map := a2 } : Rule), r2, f2, ((u0.trans u1).trans u2), ((i0.trans i1).trans i2), ?_, ?_, w0, w1, w2⟩
  · exact hv
  · exact ⟨⟨sa2, _, sm2⟩, rfl, q2⟩
def rd27 (H : AHeap) (v : Value) (a : Source) : Prop := ∃ v0 : Sv, v = .agg [v0.v, (.int .i64 a.Version)].toArray ∧ (RdS 106 rd106) H v0.v a.Facts
instance : Mono rd27 := ⟨fun h hi => by
  obtain ⟨v0, h, h0⟩ := h
  exact ⟨v0, h, Mono.up h0 hi⟩⟩
instance : Cells rd27 2 := ⟨fun h => by
  obtain ⟨v0, rfl, h0⟩ := h
  exact ⟨rfl, rfl⟩⟩
theorem fa106_0 : fieldAt Tryz.prog 106 0 = some (3, 0, 1) := by kernel_rfl
theorem fa106_1 : fieldAt Tryz.prog 106 1 = some (22, 1, 1) := by kernel_rfl
def wf106 (a : Fact) : Prop := wfInt a.Rel ∧ (wfSl wfInt) a.Values
theorem sh106 : ∀ H v a, rd106 H v a → isAgV v = aggT Tryz.prog 106 := by
  intro H v a h
  obtain ⟨v1, rfl, _⟩ := h
  kernel_rfl
theorem op106 : Opn Tryz.prog 106 rd106 wf106 := by
  intro T enc w fuel cs x h hw ρ H hr hF
  have hl := opn_len fa106_0 h (n := 2) ty106.h.sz.cells
  obtain ⟨ρ0, H0, av0, a0, r0, f0, u0, i0, v0, q0, w0⟩ := opn_field fa106_0 h hw (Opn.int (by kernel_rfl)) hr hF
  obtain ⟨ρ1, H1, av1, a1, r1, f1, u1, i1, v1, q1, w1⟩ := opn_field fa106_1 h hw (Opn.slice (s := 1) (by kernel_rfl) (by kernel_rfl) (by decide) (Nat.lt_of_lt_of_le (by decide) (Nat.le_of_eq (show 8 = _ from by kernel_rfl))) (Opn.int (by kernel_rfl))) r0 f0
  obtain rfl : av0 = (.int .i64 a0) := q0
  replace v0 := v0.up u1
  obtain ⟨sa1, sm1, rfl⟩ := RdS.len q1
  replace v1 := v1.one rfl
  have hv := RelVs.field (o := 0) v0 (RelVs.field (o := 1) v1 (RelVs.end hl))
  rw [List.drop_zero] at hv
  refine ⟨ρ1, H1, (.agg [(.int .i64 a0), (.slice sa1 a1.length sm1)].toArray : Value), ({ Rel := a0, Values := a1 } : Fact), r1, f1, (u0.trans u1), (i0.trans i1), ?_, ?_, w0, w1⟩
  · exact hv
  · exact ⟨⟨sa1, _, sm1⟩, rfl, q1⟩
theorem fa27_0 : fieldAt Tryz.prog 27 0 = some (25, 0, 1) := by kernel_rfl
theorem fa27_1 : fieldAt Tryz.prog 27 1 = some (3, 1, 1) := by kernel_rfl
def wf27 (a : Source) : Prop := (wfSl wf106) a.Facts ∧ wfInt a.Version
theorem sh27 : ∀ H v a, rd27 H v a → isAgV v = aggT Tryz.prog 27 := by
  intro H v a h
  obtain ⟨v0, rfl, _⟩ := h
  kernel_rfl
theorem op27 : Opn Tryz.prog 27 rd27 wf27 := by
  intro T enc w fuel cs x h hw ρ H hr hF
  have hl := opn_len fa27_0 h (n := 2) ty27.h.sz.cells
  obtain ⟨ρ0, H0, av0, a0, r0, f0, u0, i0, v0, q0, w0⟩ := opn_field fa27_0 h hw (Opn.slice (s := 2) (by kernel_rfl) (by kernel_rfl) (by decide) (Nat.lt_of_lt_of_le (by decide) (Nat.le_of_eq (show 32 = _ from by kernel_rfl))) op106) hr hF
  obtain ⟨ρ1, H1, av1, a1, r1, f1, u1, i1, v1, q1, w1⟩ := opn_field fa27_1 h hw (Opn.int (by kernel_rfl)) r0 f0
  obtain ⟨sa0, sm0, rfl⟩ := RdS.len q0
  replace v0 := v0.one rfl
  replace v0 := v0.up u1
  obtain rfl : av1 = (.int .i64 a1) := q1
  have hv := RelVs.field (o := 0) v0 (RelVs.field (o := 1) v1 (RelVs.end hl))
  rw [List.drop_zero] at hv
  refine ⟨ρ1, H1, (.agg [(.slice sa0 a0.length sm0), (.int .i64 a1)].toArray : Value), ({ Facts := a0, Version := a1 } : Source), r1, f1, (u0.trans u1), (i0.trans i1), ?_, ?_, w0, w1⟩
  · exact hv
  · exact ⟨⟨sa0, _, sm0⟩, rfl, (Mono.up q0 i1)⟩
def rd30 (H : AHeap) (v : Value) (a : Cache) : Prop := ∃ v0 : Sv, v = .agg [v0.v, (.int .i64 a.Age)].toArray ∧ (RdS 184 rd184) H v0.v a.Entries
instance : Mono rd30 := ⟨fun h hi => by
  obtain ⟨v0, h, h0⟩ := h
  exact ⟨v0, h, Mono.up h0 hi⟩⟩
instance : Cells rd30 2 := ⟨fun h => by
  obtain ⟨v0, rfl, h0⟩ := h
  exact ⟨rfl, rfl⟩⟩
theorem fa120_0 : fieldAt Tryz.prog 120 0 = some (3, 0, 1) := by kernel_rfl
theorem fa120_1 : fieldAt Tryz.prog 120 1 = some (22, 1, 1) := by kernel_rfl
def wf120 (a : Access) : Prop := wfInt a.Method ∧ (wfSl wfInt) a.Values
theorem sh120 : ∀ H v a, rd120 H v a → isAgV v = aggT Tryz.prog 120 := by
  intro H v a h
  obtain ⟨v1, rfl, _⟩ := h
  kernel_rfl
theorem op120 : Opn Tryz.prog 120 rd120 wf120 := by
  intro T enc w fuel cs x h hw ρ H hr hF
  have hl := opn_len fa120_0 h (n := 2) ty120.h.sz.cells
  obtain ⟨ρ0, H0, av0, a0, r0, f0, u0, i0, v0, q0, w0⟩ := opn_field fa120_0 h hw (Opn.int (by kernel_rfl)) hr hF
  obtain ⟨ρ1, H1, av1, a1, r1, f1, u1, i1, v1, q1, w1⟩ := opn_field fa120_1 h hw (Opn.slice (s := 1) (by kernel_rfl) (by kernel_rfl) (by decide) (Nat.lt_of_lt_of_le (by decide) (Nat.le_of_eq (show 8 = _ from by kernel_rfl))) (Opn.int (by kernel_rfl))) r0 f0
  obtain rfl : av0 = (.int .i64 a0) := q0
  replace v0 := v0.up u1
  obtain ⟨sa1, sm1, rfl⟩ := RdS.len q1
  replace v1 := v1.one rfl
  have hv := RelVs.field (o := 0) v0 (RelVs.field (o := 1) v1 (RelVs.end hl))
  rw [List.drop_zero] at hv
  refine ⟨ρ1, H1, (.agg [(.int .i64 a0), (.slice sa1 a1.length sm1)].toArray : Value), ({ Method := a0, Values := a1 } : Access), r1, f1, (u0.trans u1), (i0.trans i1), ?_, ?_, w0, w1⟩
  · exact hv
  · exact ⟨⟨sa1, _, sm1⟩, rfl, q1⟩
theorem fa184_0 : fieldAt Tryz.prog 184 0 = some (120, 0, 2) := by kernel_rfl
theorem fa184_1 : fieldAt Tryz.prog 184 1 = some (25, 2, 1) := by kernel_rfl
theorem fa184_2 : fieldAt Tryz.prog 184 2 = some (3, 3, 1) := by kernel_rfl
def wf184 (a : Stored) : Prop := wf120 a.Access ∧ (wfSl wf106) a.Facts ∧ wfInt a.At
theorem sh184 : ∀ H v a, rd184 H v a → isAgV v = aggT Tryz.prog 184 := by
  intro H v a h
  obtain ⟨v1, v2, rfl, _, _⟩ := h
  kernel_rfl
theorem op184 : Opn Tryz.prog 184 rd184 wf184 := by
  intro T enc w fuel cs x h hw ρ H hr hF
  have hl := opn_len fa184_0 h (n := 4) ty184.h.sz.cells
  obtain ⟨ρ0, H0, av0, a0, r0, f0, u0, i0, v0, q0, w0⟩ := opn_field fa184_0 h hw op120 hr hF
  obtain ⟨ρ1, H1, av1, a1, r1, f1, u1, i1, v1, q1, w1⟩ := opn_field fa184_1 h hw (Opn.slice (s := 2) (by kernel_rfl) (by kernel_rfl) (by decide) (Nat.lt_of_lt_of_le (by decide) (Nat.le_of_eq (show 32 = _ from by kernel_rfl))) op106) r0 f0
  obtain ⟨ρ2, H2, av2, a2, r2, f2, u2, i2, v2, q2, w2⟩ := opn_field fa184_2 h hw (Opn.int (by kernel_rfl)) r1 f1
  obtain ⟨xav0_0, rfl, gav0_0⟩ := q0
  replace v0 := v0.up (u1.trans u2)
  obtain ⟨sa1, sm1, rfl⟩ := RdS.len q1
  replace v1 := v1.one rfl
  replace v1 := v1.up u2
  obtain rfl : av2 = (.int .i64 a2) := q2
  have hv := RelVs.field (o := 0) v0 (RelVs.field (o := 2) v1 (RelVs.field (o := 3) v2 (RelVs.end hl)))
  rw [List.drop_zero] at hv
  refine ⟨ρ2, H2, (.agg [(.int .i64 a0.Method), xav0_0.v, (.slice sa1 a1.length sm1), (.int .i64 a2)].toArray : Value), ({ Access := a0, Facts := a1, At := a2 } : Stored), r2, f2, ((u0.trans u1).trans u2), ((i0.trans i1).trans i2), ?_, ?_, w0, w1, w2⟩
  · exact hv
  · exact ⟨xav0_0, ⟨sa1, _, sm1⟩, rfl, (Mono.up gav0_0 (i1.trans i2)), (Mono.up q1 i2)⟩
theorem fa30_0 : fieldAt Tryz.prog 30 0 = some (28, 0, 1) := by kernel_rfl
theorem fa30_1 : fieldAt Tryz.prog 30 1 = some (3, 1, 1) := by kernel_rfl
def wf30 (a : Cache) : Prop := (wfSl wf184) a.Entries ∧ wfInt a.Age
theorem sh30 : ∀ H v a, rd30 H v a → isAgV v = aggT Tryz.prog 30 := by
  intro H v a h
  obtain ⟨v0, rfl, _⟩ := h
  kernel_rfl
theorem op30 : Opn Tryz.prog 30 rd30 wf30 := by
  intro T enc w fuel cs x h hw ρ H hr hF
  have hl := opn_len fa30_0 h (n := 2) ty30.h.sz.cells
  obtain ⟨ρ0, H0, av0, a0, r0, f0, u0, i0, v0, q0, w0⟩ := opn_field fa30_0 h hw (Opn.slice (s := 4) (by kernel_rfl) (by kernel_rfl) (by decide) (Nat.lt_of_lt_of_le (by decide) (Nat.le_of_eq (show 64 = _ from by kernel_rfl))) op184) hr hF
  obtain ⟨ρ1, H1, av1, a1, r1, f1, u1, i1, v1, q1, w1⟩ := opn_field fa30_1 h hw (Opn.int (by kernel_rfl)) r0 f0
  obtain ⟨sa0, sm0, rfl⟩ := RdS.len q0
  replace v0 := v0.one rfl
  replace v0 := v0.up u1
  obtain rfl : av1 = (.int .i64 a1) := q1
  have hv := RelVs.field (o := 0) v0 (RelVs.field (o := 1) v1 (RelVs.end hl))
  rw [List.drop_zero] at hv
  refine ⟨ρ1, H1, (.agg [(.slice sa0 a0.length sm0), (.int .i64 a1)].toArray : Value), ({ Entries := a0, Age := a1 } : Cache), r1, f1, (u0.trans u1), (i0.trans i1), ?_, ?_, w0, w1⟩
  · exact hv
  · exact ⟨⟨sa0, _, sm0⟩, rfl, (Mono.up q0 i1)⟩
theorem fa34_0 : fieldAt Tryz.prog 34 0 = some (22, 0, 1) := by kernel_rfl
theorem fa34_1 : fieldAt Tryz.prog 34 1 = some (23, 1, 1) := by kernel_rfl
theorem fa34_2 : fieldAt Tryz.prog 34 2 = some (24, 2, 1) := by kernel_rfl
theorem fa34_3 : fieldAt Tryz.prog 34 3 = some (27, 3, 2) := by kernel_rfl
theorem fa34_4 : fieldAt Tryz.prog 34 4 = some (30, 5, 2) := by kernel_rfl
theorem fa34_5 : fieldAt Tryz.prog 34 5 = some (3, 7, 1) := by kernel_rfl
theorem fa34_6 : fieldAt Tryz.prog 34 6 = some (31, 8, 1) := by kernel_rfl
theorem fa34_7 : fieldAt Tryz.prog 34 7 = some (22, 9, 1) := by kernel_rfl
theorem fa34_8 : fieldAt Tryz.prog 34 8 = some (3, 10, 1) := by kernel_rfl
theorem fa34_9 : fieldAt Tryz.prog 34 9 = some (32, 11, 1) := by kernel_rfl
def wf34 (a : Mediator) : Prop := (wfSl wfInt) a.Schema ∧ (wfSl wf103) a.Methods ∧ (wfSl wf135) a.Rules ∧ wf27 a.Source ∧ wf30 a.Cache ∧ wfInt a.Now ∧ (wfSl wf120) a.Log ∧ (wfSl wfInt) a.Times ∧ wfInt a.Spent ∧ (wfSl (wfSl (wfSl wfInt))) a.Results
theorem sh34 : ∀ H v a, rd34 H v a → isAgV v = aggT Tryz.prog 34 := by
  intro H v a h
  obtain ⟨v0, v1, v2, v3, v5, v8, v9, v11, rfl, _, _, _, _, _, _, _, _⟩ := h
  kernel_rfl
theorem op34 : Opn Tryz.prog 34 rd34 wf34 := by
  intro T enc w fuel cs x h hw ρ H hr hF
  have hl := opn_len fa34_0 h (n := 12) ty34.h.sz.cells
  obtain ⟨ρ0, H0, av0, a0, r0, f0, u0, i0, v0, q0, w0⟩ := opn_field fa34_0 h hw (Opn.slice (s := 1) (by kernel_rfl) (by kernel_rfl) (by decide) (Nat.lt_of_lt_of_le (by decide) (Nat.le_of_eq (show 8 = _ from by kernel_rfl))) (Opn.int (by kernel_rfl))) hr hF
  obtain ⟨ρ1, H1, av1, a1, r1, f1, u1, i1, v1, q1, w1⟩ := opn_field fa34_1 h hw (Opn.slice (s := 5) (by kernel_rfl) (by kernel_rfl) (by decide) (Nat.lt_of_lt_of_le (by decide) (Nat.le_of_eq (show 56 = _ from by kernel_rfl))) op103) r0 f0
  obtain ⟨ρ2, H2, av2, a2, r2, f2, u2, i2, v2, q2, w2⟩ := opn_field fa34_2 h hw (Opn.slice (s := 3) (by kernel_rfl) (by kernel_rfl) (by decide) (Nat.lt_of_lt_of_le (by decide) (Nat.le_of_eq (show 40 = _ from by kernel_rfl))) op135) r1 f1
  obtain ⟨ρ3, H3, av3, a3, r3, f3, u3, i3, v3, q3, w3⟩ := opn_field fa34_3 h hw op27 r2 f2
  obtain ⟨ρ4, H4, av4, a4, r4, f4, u4, i4, v4, q4, w4⟩ := opn_field fa34_4 h hw op30 r3 f3
  obtain ⟨ρ5, H5, av5, a5, r5, f5, u5, i5, v5, q5, w5⟩ := opn_field fa34_5 h hw (Opn.int (by kernel_rfl)) r4 f4
  obtain ⟨ρ6, H6, av6, a6, r6, f6, u6, i6, v6, q6, w6⟩ := opn_field fa34_6 h hw (Opn.slice (s := 2) (by kernel_rfl) (by kernel_rfl) (by decide) (Nat.lt_of_lt_of_le (by decide) (Nat.le_of_eq (show 32 = _ from by kernel_rfl))) op120) r5 f5
  obtain ⟨ρ7, H7, av7, a7, r7, f7, u7, i7, v7, q7, w7⟩ := opn_field fa34_7 h hw (Opn.slice (s := 1) (by kernel_rfl) (by kernel_rfl) (by decide) (Nat.lt_of_lt_of_le (by decide) (Nat.le_of_eq (show 8 = _ from by kernel_rfl))) (Opn.int (by kernel_rfl))) r6 f6
  obtain ⟨ρ8, H8, av8, a8, r8, f8, u8, i8, v8, q8, w8⟩ := opn_field fa34_8 h hw (Opn.int (by kernel_rfl)) r7 f7
  obtain ⟨ρ9, H9, av9, a9, r9, f9, u9, i9, v9, q9, w9⟩ := opn_field fa34_9 h hw (Opn.slice (s := 1) (by kernel_rfl) (by kernel_rfl) (by decide) (Nat.lt_of_lt_of_le (by decide) (Nat.le_of_eq (show 24 = _ from by kernel_rfl))) (Opn.slice (s := 1) (by kernel_rfl) (by kernel_rfl) (by decide) (Nat.lt_of_lt_of_le (by decide) (Nat.le_of_eq (show 24 = _ from by kernel_rfl))) (Opn.slice (s := 1) (by kernel_rfl) (by kernel_rfl) (by decide) (Nat.lt_of_lt_of_le (by decide) (Nat.le_of_eq (show 8 = _ from by kernel_rfl))) (Opn.int (by kernel_rfl))))) r8 f8
  obtain ⟨sa0, sm0, rfl⟩ := RdS.len q0
  replace v0 := v0.one rfl
  replace v0 := v0.up ((((((((u1.trans u2).trans u3).trans u4).trans u5).trans u6).trans u7).trans u8).trans u9)
  obtain ⟨sa1, sm1, rfl⟩ := RdS.len q1
  replace v1 := v1.one rfl
  replace v1 := v1.up (((((((u2.trans u3).trans u4).trans u5).trans u6).trans u7).trans u8).trans u9)
  obtain ⟨sa2, sm2, rfl⟩ := RdS.len q2
  replace v2 := v2.one rfl
  replace v2 := v2.up ((((((u3.trans u4).trans u5).trans u6).trans u7).trans u8).trans u9)
  obtain ⟨xav3_0, rfl, gav3_0⟩ := q3
  replace v3 := v3.up (((((u4.trans u5).trans u6).trans u7).trans u8).trans u9)
  obtain ⟨xav4_0, rfl, gav4_0⟩ := q4
  replace v4 := v4.up ((((u5.trans u6).trans u7).trans u8).trans u9)
  obtain rfl : av5 = (.int .i64 a5) := q5
  replace v5 := v5.up (((u6.trans u7).trans u8).trans u9)
  obtain ⟨sa6, sm6, rfl⟩ := RdS.len q6
  replace v6 := v6.one rfl
  replace v6 := v6.up ((u7.trans u8).trans u9)
  obtain ⟨sa7, sm7, rfl⟩ := RdS.len q7
  replace v7 := v7.one rfl
  replace v7 := v7.up (u8.trans u9)
  obtain rfl : av8 = (.int .i64 a8) := q8
  replace v8 := v8.up u9
  obtain ⟨sa9, sm9, rfl⟩ := RdS.len q9
  replace v9 := v9.one rfl
  have hv := RelVs.field (o := 0) v0 (RelVs.field (o := 1) v1 (RelVs.field (o := 2) v2 (RelVs.field (o := 3) v3 (RelVs.field (o := 5) v4 (RelVs.field (o := 7) v5 (RelVs.field (o := 8) v6 (RelVs.field (o := 9) v7 (RelVs.field (o := 10) v8 (RelVs.field (o := 11) v9 (RelVs.end hl))))))))))
  rw [List.drop_zero] at hv
  refine ⟨ρ9, H9, (.agg [(.slice sa0 a0.length sm0), (.slice sa1 a1.length sm1), (.slice sa2 a2.length sm2), xav3_0.v, (.int .i64 a3.Version), xav4_0.v, (.int .i64 a4.Age), (.int .i64 a5), (.slice sa6 a6.length sm6), (.slice sa7 a7.length sm7), (.int .i64 a8), (.slice sa9 a9.length sm9)].toArray : Value), ({ Schema := a0, Methods := a1, Rules := a2, Source := a3, Cache := a4, Now := a5, Log := a6, Times := a7, Spent := a8, Results := a9 } : Mediator), r9, f9, (((((((((u0.trans u1).trans u2).trans u3).trans u4).trans u5).trans u6).trans u7).trans u8).trans u9), (((((((((i0.trans i1).trans i2).trans i3).trans i4).trans i5).trans i6).trans i7).trans i8).trans i9), ?_, ?_, w0, w1, w2, w3, w4, w5, w6, w7, w8, w9⟩
  · exact hv
  · exact ⟨⟨sa0, _, sm0⟩, ⟨sa1, _, sm1⟩, ⟨sa2, _, sm2⟩, xav3_0, xav4_0, ⟨sa6, _, sm6⟩, ⟨sa7, _, sm7⟩, ⟨sa9, _, sm9⟩, rfl, (Mono.up q0 ((((((((i1.trans i2).trans i3).trans i4).trans i5).trans i6).trans i7).trans i8).trans i9)), (Mono.up q1 (((((((i2.trans i3).trans i4).trans i5).trans i6).trans i7).trans i8).trans i9)), (Mono.up q2 ((((((i3.trans i4).trans i5).trans i6).trans i7).trans i8).trans i9)), (Mono.up gav3_0 (((((i4.trans i5).trans i6).trans i7).trans i8).trans i9)), (Mono.up gav4_0 ((((i5.trans i6).trans i7).trans i8).trans i9)), (Mono.up q6 ((i7.trans i8).trans i9)), (Mono.up q7 (i8.trans i9)), q9⟩

/-! laws.szIntS -/
def l_szIntS (a_a : List Int) (a_left : Int) : Option (Int) :=
  if (decide (((IntKind.i64.wrap (a_left - (a_a.length : Int))) : Int) < 0)) then (
    some (-1))
  else (
    some (IntKind.i64.wrap (a_left - (a_a.length : Int))))
theorem l_szIntS_ok (a_a : List Int) (v0_0 : Sv) (a_left : Int) (R : Int) (hF : l_szIntS a_a a_left = some R) :
    Fw.Spec Tryz.prog 30 [v0_0.v, (.int .i64 a_left)] [crd (RdS 3 rdInt) v0_0.v a_a] (fun _ : Unit => (.int .i64 R)) (fun _ => []) := by
  refine Spec_enter (n := 12) Tryz.func30 rfl rfl (rs := [.tmp 4]) rfl rfl rfl ?_
  intro H0 F0
  unfold l_szIntS at hF
  iterate 15 refine au ?_
  refine Cc (fun hb1 => ?_) (fun hb1 => ?_)
  · rw [if_pos hb1] at hF
    iterate 4 refine au ?_
    cases hF
    exact Er ()
  rw [if_neg (nt hb1)] at hF
  iterate 6 refine au ?_
  cases hF
  exact Er ()

/-! laws.szMethod -/
def l_szMethod (a_a : Method) (a_left : Int) : Option (Int) :=
  (l_szIntS a_a.Inputs a_left).bind fun r2 =>
  if (decide ((r2 : Int) < 0)) then (
    some (-1))
  else (
    some r2)
theorem l_szMethod_ok (a_a : Method) (v0_1 : Sv) (a_left : Int) (R : Int) (hF : l_szMethod a_a a_left = some R) :
    Fw.Spec Tryz.prog 62 [(.agg [(.int .i64 a_a.Rel), v0_1.v, (.int .i64 a_a.Limit), (.int .i64 a_a.Cost), (.int .i64 a_a.Quota)].toArray), (.int .i64 a_left)] [crd (RdS 3 rdInt) v0_1.v a_a.Inputs] (fun _ : Unit => (.int .i64 R)) (fun _ => []) := by
  refine Spec_enter (n := 12) Tryz.func62 rfl rfl (rs := [.tmp 4]) rfl rfl rfl ?_
  intro H0 F0
  unfold l_szMethod at hF
  refine au ?_
  refine AbR (fun k1 => ?_)
  iterate 6 refine au ?_
  obtain ⟨r2, hx3, hF⟩ := bind_some hF
  refine Cx0 (l_szIntS_ok _ _ _ _ hx3) (fun _ => ?_)
  iterate 7 refine au ?_
  refine Cc (fun hb5 => ?_) (fun hb5 => ?_)
  · rw [if_pos hb5] at hF
    iterate 4 refine au ?_
    cases hF
    exact Er ()
  rw [if_neg (nt hb5)] at hF
  iterate 6 refine au ?_
  cases hF
  exact Er ()

/-! laws.szMethodS -/
def l_szMethodS_L1 : List Method → Nat → Int → Option (Int)
  | [], k5, c1 => some c1
  | x7 :: rest6, k5, c1 => (l_szMethod x7 c1).bind fun r17 =>
    if (decide ((r17 : Int) < 0)) then (
      some (-1))
    else (
      l_szMethodS_L1 rest6 (k5 + 1) r17)
def l_szMethodS (a_a : List Method) (a_left : Int) : Option (Int) :=
  if (decide (((IntKind.i64.wrap (a_left - (a_a.length : Int))) : Int) < 0)) then (
    some (-1))
  else (
    l_szMethodS_L1 a_a 0 (IntKind.i64.wrap (a_left - (a_a.length : Int))))
theorem l_szMethodS_ok (a_a : List Method) (v0_0 : Sv) (a_left : Int) (R : Int) (hF : l_szMethodS a_a a_left = some R) :
    Fw.Spec Tryz.prog 15 [v0_0.v, (.int .i64 a_left)] [crd (RdS 103 rd103) v0_0.v a_a] (fun _ : Unit => (.int .i64 R)) (fun _ => []) := by
  refine Spec_enter (n := 27) Tryz.func15 rfl rfl (rs := [.tmp 4]) rfl rfl rfl ?_
  intro H0 F0
  unfold l_szMethodS at hF
  iterate 15 refine au ?_
  refine Cc (fun hb22 => ?_) (fun hb22 => ?_)
  · rw [if_pos hb22] at hF
    iterate 4 refine au ?_
    cases hF
    exact Er ()
  rw [if_neg (nt hb22)] at hF
  iterate 5 refine au ?_
  refine CW_block (CW_loop (m := a_a.length) (fun m3 f' cs' => ∃ (g : Fr) (k5 : Nat) (rest6 : List Method) (c1 : Int), m3 = rest6.length ∧ f' = updL g [(0, v0_0.v), (1, (.int .i64 c1)), (5, (.int .i64 (k5 : Int)))] ∧ List.drop k5 a_a = rest6 ∧ Ent cs' [crd (RdS 103 rd103) v0_0.v a_a] ∧ l_szMethodS_L1 rest6 k5 c1 = some R) ⟨_, 0, _, _, rfl, eqA, rfl, entA, hF⟩ ?_)
  clear hF
  rintro m3 _ _ ⟨g4, k5, rest6, c1, rfl, rfl, hd8, hE, hF⟩
  refine K_ent hE ?_
  clear hE
  refine K_pure (c := crd (RdS 103 rd103) v0_0.v a_a) .h crd_bound (fun hbd13 => ?_)
  rcases rest6 with _ | ⟨x7, rest6⟩
  · have hk9 := List.drop_eq_nil_iff.1 hd8
    rw [l_szMethodS_L1] at hF
    iterate 7 refine au ?_
    refine CdF ?_
    iterate 9 refine au ?_
    cases hF
    exact Er ()
  obtain ⟨hk9, hx10, hd11⟩ := drop_cons hd8
  rw [l_szMethodS_L1] at hF
  iterate 7 refine au ?_
  refine CdT ?_
  iterate 5 refine au ?_
  refine Ai hx10 (fun k14 j15 => ?_)
  refine AlA1 (ul103_0_103 x7) la103_0_103 (fun p16 => ?_)
  refine au ?_
  obtain ⟨r17, hx18, hF⟩ := bind_some hF
  refine Cx0 (l_szMethod_ok _ _ _ _ hx18) (fun _ => ?_)
  iterate 6 refine au ?_
  refine Cc (fun hb21 => ?_) (fun hb21 => ?_)
  · rw [if_pos hb21] at hF
    iterate 4 refine au ?_
    cases hF
    exact Er ()
  rw [if_neg (nt hb21)] at hF
  iterate 6 refine au ?_
  rw [wk k5]
  exact ⟨_, Nat.lt_succ_self _, _, k5 + 1, rest6, _, rfl, eqA, hd11, entA, hF⟩

/-! laws.szRule -/
def l_szRule (a_a : Rule) (a_left : Int) : Option (Int) :=
  (l_szIntS a_a.Map a_left).bind fun r2 =>
  if (decide ((r2 : Int) < 0)) then (
    some (-1))
  else (
    some r2)
theorem l_szRule_ok (a_a : Rule) (v0_2 : Sv) (a_left : Int) (R : Int) (hF : l_szRule a_a a_left = some R) :
    Fw.Spec Tryz.prog 87 [(.agg [(.int .i64 a_a.From), (.int .i64 a_a.To), v0_2.v].toArray), (.int .i64 a_left)] [crd (RdS 3 rdInt) v0_2.v a_a.Map] (fun _ : Unit => (.int .i64 R)) (fun _ => []) := by
  refine Spec_enter (n := 12) Tryz.func87 rfl rfl (rs := [.tmp 4]) rfl rfl rfl ?_
  intro H0 F0
  unfold l_szRule at hF
  refine au ?_
  refine AbR (fun k1 => ?_)
  iterate 6 refine au ?_
  obtain ⟨r2, hx3, hF⟩ := bind_some hF
  refine Cx0 (l_szIntS_ok _ _ _ _ hx3) (fun _ => ?_)
  iterate 7 refine au ?_
  refine Cc (fun hb5 => ?_) (fun hb5 => ?_)
  · rw [if_pos hb5] at hF
    iterate 4 refine au ?_
    cases hF
    exact Er ()
  rw [if_neg (nt hb5)] at hF
  iterate 6 refine au ?_
  cases hF
  exact Er ()

/-! laws.szRuleS -/
def l_szRuleS_L1 : List Rule → Nat → Int → Option (Int)
  | [], k5, c1 => some c1
  | x7 :: rest6, k5, c1 => (l_szRule x7 c1).bind fun r17 =>
    if (decide ((r17 : Int) < 0)) then (
      some (-1))
    else (
      l_szRuleS_L1 rest6 (k5 + 1) r17)
def l_szRuleS (a_a : List Rule) (a_left : Int) : Option (Int) :=
  if (decide (((IntKind.i64.wrap (a_left - (a_a.length : Int))) : Int) < 0)) then (
    some (-1))
  else (
    l_szRuleS_L1 a_a 0 (IntKind.i64.wrap (a_left - (a_a.length : Int))))
theorem l_szRuleS_ok (a_a : List Rule) (v0_0 : Sv) (a_left : Int) (R : Int) (hF : l_szRuleS a_a a_left = some R) :
    Fw.Spec Tryz.prog 31 [v0_0.v, (.int .i64 a_left)] [crd (RdS 135 rd135) v0_0.v a_a] (fun _ : Unit => (.int .i64 R)) (fun _ => []) := by
  refine Spec_enter (n := 27) Tryz.func31 rfl rfl (rs := [.tmp 4]) rfl rfl rfl ?_
  intro H0 F0
  unfold l_szRuleS at hF
  iterate 15 refine au ?_
  refine Cc (fun hb22 => ?_) (fun hb22 => ?_)
  · rw [if_pos hb22] at hF
    iterate 4 refine au ?_
    cases hF
    exact Er ()
  rw [if_neg (nt hb22)] at hF
  iterate 5 refine au ?_
  refine CW_block (CW_loop (m := a_a.length) (fun m3 f' cs' => ∃ (g : Fr) (k5 : Nat) (rest6 : List Rule) (c1 : Int), m3 = rest6.length ∧ f' = updL g [(0, v0_0.v), (1, (.int .i64 c1)), (5, (.int .i64 (k5 : Int)))] ∧ List.drop k5 a_a = rest6 ∧ Ent cs' [crd (RdS 135 rd135) v0_0.v a_a] ∧ l_szRuleS_L1 rest6 k5 c1 = some R) ⟨_, 0, _, _, rfl, eqA, rfl, entA, hF⟩ ?_)
  clear hF
  rintro m3 _ _ ⟨g4, k5, rest6, c1, rfl, rfl, hd8, hE, hF⟩
  refine K_ent hE ?_
  clear hE
  refine K_pure (c := crd (RdS 135 rd135) v0_0.v a_a) .h crd_bound (fun hbd13 => ?_)
  rcases rest6 with _ | ⟨x7, rest6⟩
  · have hk9 := List.drop_eq_nil_iff.1 hd8
    rw [l_szRuleS_L1] at hF
    iterate 7 refine au ?_
    refine CdF ?_
    iterate 9 refine au ?_
    cases hF
    exact Er ()
  obtain ⟨hk9, hx10, hd11⟩ := drop_cons hd8
  rw [l_szRuleS_L1] at hF
  iterate 7 refine au ?_
  refine CdT ?_
  iterate 5 refine au ?_
  refine Ai hx10 (fun k14 j15 => ?_)
  refine AlA1 (ul135_0_135 x7) la135_0_135 (fun p16 => ?_)
  refine au ?_
  obtain ⟨r17, hx18, hF⟩ := bind_some hF
  refine Cx0 (l_szRule_ok _ _ _ _ hx18) (fun _ => ?_)
  iterate 6 refine au ?_
  refine Cc (fun hb21 => ?_) (fun hb21 => ?_)
  · rw [if_pos hb21] at hF
    iterate 4 refine au ?_
    cases hF
    exact Er ()
  rw [if_neg (nt hb21)] at hF
  iterate 6 refine au ?_
  rw [wk k5]
  exact ⟨_, Nat.lt_succ_self _, _, k5 + 1, rest6, _, rfl, eqA, hd11, entA, hF⟩

/-! laws.szFact -/
def l_szFact (a_a : Fact) (a_left : Int) : Option (Int) :=
  (l_szIntS a_a.Values a_left).bind fun r2 =>
  if (decide ((r2 : Int) < 0)) then (
    some (-1))
  else (
    some r2)
theorem l_szFact_ok (a_a : Fact) (v0_1 : Sv) (a_left : Int) (R : Int) (hF : l_szFact a_a a_left = some R) :
    Fw.Spec Tryz.prog 63 [(.agg [(.int .i64 a_a.Rel), v0_1.v].toArray), (.int .i64 a_left)] [crd (RdS 3 rdInt) v0_1.v a_a.Values] (fun _ : Unit => (.int .i64 R)) (fun _ => []) := by
  refine Spec_enter (n := 12) Tryz.func63 rfl rfl (rs := [.tmp 4]) rfl rfl rfl ?_
  intro H0 F0
  unfold l_szFact at hF
  refine au ?_
  refine AbR (fun k1 => ?_)
  iterate 6 refine au ?_
  obtain ⟨r2, hx3, hF⟩ := bind_some hF
  refine Cx0 (l_szIntS_ok _ _ _ _ hx3) (fun _ => ?_)
  iterate 7 refine au ?_
  refine Cc (fun hb5 => ?_) (fun hb5 => ?_)
  · rw [if_pos hb5] at hF
    iterate 4 refine au ?_
    cases hF
    exact Er ()
  rw [if_neg (nt hb5)] at hF
  iterate 6 refine au ?_
  cases hF
  exact Er ()

/-! laws.szFactS -/
def l_szFactS_L1 : List Fact → Nat → Int → Option (Int)
  | [], k5, c1 => some c1
  | x7 :: rest6, k5, c1 => (l_szFact x7 c1).bind fun r17 =>
    if (decide ((r17 : Int) < 0)) then (
      some (-1))
    else (
      l_szFactS_L1 rest6 (k5 + 1) r17)
def l_szFactS (a_a : List Fact) (a_left : Int) : Option (Int) :=
  if (decide (((IntKind.i64.wrap (a_left - (a_a.length : Int))) : Int) < 0)) then (
    some (-1))
  else (
    l_szFactS_L1 a_a 0 (IntKind.i64.wrap (a_left - (a_a.length : Int))))
theorem l_szFactS_ok (a_a : List Fact) (v0_0 : Sv) (a_left : Int) (R : Int) (hF : l_szFactS a_a a_left = some R) :
    Fw.Spec Tryz.prog 16 [v0_0.v, (.int .i64 a_left)] [crd (RdS 106 rd106) v0_0.v a_a] (fun _ : Unit => (.int .i64 R)) (fun _ => []) := by
  refine Spec_enter (n := 27) Tryz.func16 rfl rfl (rs := [.tmp 4]) rfl rfl rfl ?_
  intro H0 F0
  unfold l_szFactS at hF
  iterate 15 refine au ?_
  refine Cc (fun hb22 => ?_) (fun hb22 => ?_)
  · rw [if_pos hb22] at hF
    iterate 4 refine au ?_
    cases hF
    exact Er ()
  rw [if_neg (nt hb22)] at hF
  iterate 5 refine au ?_
  refine CW_block (CW_loop (m := a_a.length) (fun m3 f' cs' => ∃ (g : Fr) (k5 : Nat) (rest6 : List Fact) (c1 : Int), m3 = rest6.length ∧ f' = updL g [(0, v0_0.v), (1, (.int .i64 c1)), (5, (.int .i64 (k5 : Int)))] ∧ List.drop k5 a_a = rest6 ∧ Ent cs' [crd (RdS 106 rd106) v0_0.v a_a] ∧ l_szFactS_L1 rest6 k5 c1 = some R) ⟨_, 0, _, _, rfl, eqA, rfl, entA, hF⟩ ?_)
  clear hF
  rintro m3 _ _ ⟨g4, k5, rest6, c1, rfl, rfl, hd8, hE, hF⟩
  refine K_ent hE ?_
  clear hE
  refine K_pure (c := crd (RdS 106 rd106) v0_0.v a_a) .h crd_bound (fun hbd13 => ?_)
  rcases rest6 with _ | ⟨x7, rest6⟩
  · have hk9 := List.drop_eq_nil_iff.1 hd8
    rw [l_szFactS_L1] at hF
    iterate 7 refine au ?_
    refine CdF ?_
    iterate 9 refine au ?_
    cases hF
    exact Er ()
  obtain ⟨hk9, hx10, hd11⟩ := drop_cons hd8
  rw [l_szFactS_L1] at hF
  iterate 7 refine au ?_
  refine CdT ?_
  iterate 5 refine au ?_
  refine Ai hx10 (fun k14 j15 => ?_)
  refine AlA1 (ul106_0_106 x7) la106_0_106 (fun p16 => ?_)
  refine au ?_
  obtain ⟨r17, hx18, hF⟩ := bind_some hF
  refine Cx0 (l_szFact_ok _ _ _ _ hx18) (fun _ => ?_)
  iterate 6 refine au ?_
  refine Cc (fun hb21 => ?_) (fun hb21 => ?_)
  · rw [if_pos hb21] at hF
    iterate 4 refine au ?_
    cases hF
    exact Er ()
  rw [if_neg (nt hb21)] at hF
  iterate 6 refine au ?_
  rw [wk k5]
  exact ⟨_, Nat.lt_succ_self _, _, k5 + 1, rest6, _, rfl, eqA, hd11, entA, hF⟩

/-! laws.szSource -/
def l_szSource (a_a : Source) (a_left : Int) : Option (Int) :=
  (l_szFactS a_a.Facts a_left).bind fun r2 =>
  if (decide ((r2 : Int) < 0)) then (
    some (-1))
  else (
    some r2)
theorem l_szSource_ok (a_a : Source) (v0_0 : Sv) (a_left : Int) (R : Int) (hF : l_szSource a_a a_left = some R) :
    Fw.Spec Tryz.prog 32 [(.agg [v0_0.v, (.int .i64 a_a.Version)].toArray), (.int .i64 a_left)] [crd (RdS 106 rd106) v0_0.v a_a.Facts] (fun _ : Unit => (.int .i64 R)) (fun _ => []) := by
  refine Spec_enter (n := 12) Tryz.func32 rfl rfl (rs := [.tmp 4]) rfl rfl rfl ?_
  intro H0 F0
  unfold l_szSource at hF
  refine au ?_
  refine AbR (fun k1 => ?_)
  iterate 6 refine au ?_
  obtain ⟨r2, hx3, hF⟩ := bind_some hF
  refine Cx0 (l_szFactS_ok _ _ _ _ hx3) (fun _ => ?_)
  iterate 7 refine au ?_
  refine Cc (fun hb5 => ?_) (fun hb5 => ?_)
  · rw [if_pos hb5] at hF
    iterate 4 refine au ?_
    cases hF
    exact Er ()
  rw [if_neg (nt hb5)] at hF
  iterate 6 refine au ?_
  cases hF
  exact Er ()

/-! laws.szAccess -/
def l_szAccess (a_a : Access) (a_left : Int) : Option (Int) :=
  (l_szIntS a_a.Values a_left).bind fun r2 =>
  if (decide ((r2 : Int) < 0)) then (
    some (-1))
  else (
    some r2)
theorem l_szAccess_ok (a_a : Access) (v0_1 : Sv) (a_left : Int) (R : Int) (hF : l_szAccess a_a a_left = some R) :
    Fw.Spec Tryz.prog 89 [(.agg [(.int .i64 a_a.Method), v0_1.v].toArray), (.int .i64 a_left)] [crd (RdS 3 rdInt) v0_1.v a_a.Values] (fun _ : Unit => (.int .i64 R)) (fun _ => []) := by
  refine Spec_enter (n := 12) Tryz.func89 rfl rfl (rs := [.tmp 4]) rfl rfl rfl ?_
  intro H0 F0
  unfold l_szAccess at hF
  refine au ?_
  refine AbR (fun k1 => ?_)
  iterate 6 refine au ?_
  obtain ⟨r2, hx3, hF⟩ := bind_some hF
  refine Cx0 (l_szIntS_ok _ _ _ _ hx3) (fun _ => ?_)
  iterate 7 refine au ?_
  refine Cc (fun hb5 => ?_) (fun hb5 => ?_)
  · rw [if_pos hb5] at hF
    iterate 4 refine au ?_
    cases hF
    exact Er ()
  rw [if_neg (nt hb5)] at hF
  iterate 6 refine au ?_
  cases hF
  exact Er ()

/-! laws.szStored -/
def l_szStored (a_a : Stored) (a_left : Int) : Option (Int) :=
  (l_szAccess a_a.Access a_left).bind fun r2 =>
  if (decide ((r2 : Int) < 0)) then (
    some (-1))
  else (
    (l_szFactS a_a.Facts r2).bind fun r5 =>
    if (decide ((r5 : Int) < 0)) then (
      some (-1))
    else (
      some r5))
theorem l_szStored_ok (a_a : Stored) (v0_1 : Sv) (v0_2 : Sv) (a_left : Int) (R : Int) (hF : l_szStored a_a a_left = some R) :
    Fw.Spec Tryz.prog 146 [(.agg [(.int .i64 a_a.Access.Method), v0_1.v, v0_2.v, (.int .i64 a_a.At)].toArray), (.int .i64 a_left)] [crd (RdS 3 rdInt) v0_1.v a_a.Access.Values, crd (RdS 106 rd106) v0_2.v a_a.Facts] (fun _ : Unit => (.int .i64 R)) (fun _ => []) := by
  refine Spec_enter (n := 18) Tryz.func146 rfl rfl (rs := [.tmp 4]) rfl rfl rfl ?_
  intro H0 F0
  unfold l_szStored at hF
  refine au ?_
  refine AbR (fun k1 => ?_)
  iterate 4 refine au ?_
  refine C_at .h (fun hp => V_loadA (s := 2) (l := [(.int .i64 a_a.Access.Method), v0_1.v]) ag120.h ty120.h.sz (.tmp rfl rfl) hp.2 rfl (by decide) (Nat.le_of_ble_eq_true rfl) rfl) ?_
  refine au ?_
  obtain ⟨r2, hx3, hF⟩ := bind_some hF
  refine Cx0 (l_szAccess_ok _ _ _ _ hx3) (fun _ => ?_)
  iterate 7 refine au ?_
  refine Cc (fun hb9 => ?_) (fun hb9 => ?_)
  · rw [if_pos hb9] at hF
    iterate 4 refine au ?_
    cases hF
    exact Er ()
  rw [if_neg (nt hb9)] at hF
  iterate 5 refine au ?_
  obtain ⟨r5, hx6, hF⟩ := bind_some hF
  refine Cx0 (l_szFactS_ok _ _ _ _ hx6) (fun _ => ?_)
  iterate 7 refine au ?_
  refine Cc (fun hb8 => ?_) (fun hb8 => ?_)
  · rw [if_pos hb8] at hF
    iterate 4 refine au ?_
    cases hF
    exact Er ()
  rw [if_neg (nt hb8)] at hF
  iterate 6 refine au ?_
  cases hF
  exact Er ()

/-! laws.szStoredS -/
def l_szStoredS_L1 : List Stored → Nat → Int → Option (Int)
  | [], k5, c1 => some c1
  | x7 :: rest6, k5, c1 => (l_szStored x7 c1).bind fun r17 =>
    if (decide ((r17 : Int) < 0)) then (
      some (-1))
    else (
      l_szStoredS_L1 rest6 (k5 + 1) r17)
def l_szStoredS (a_a : List Stored) (a_left : Int) : Option (Int) :=
  if (decide (((IntKind.i64.wrap (a_left - (a_a.length : Int))) : Int) < 0)) then (
    some (-1))
  else (
    l_szStoredS_L1 a_a 0 (IntKind.i64.wrap (a_left - (a_a.length : Int))))
theorem l_szStoredS_ok (a_a : List Stored) (v0_0 : Sv) (a_left : Int) (R : Int) (hF : l_szStoredS a_a a_left = some R) :
    Fw.Spec Tryz.prog 88 [v0_0.v, (.int .i64 a_left)] [crd (RdS 184 rd184) v0_0.v a_a] (fun _ : Unit => (.int .i64 R)) (fun _ => []) := by
  refine Spec_enter (n := 27) Tryz.func88 rfl rfl (rs := [.tmp 4]) rfl rfl rfl ?_
  intro H0 F0
  unfold l_szStoredS at hF
  iterate 15 refine au ?_
  refine Cc (fun hb22 => ?_) (fun hb22 => ?_)
  · rw [if_pos hb22] at hF
    iterate 4 refine au ?_
    cases hF
    exact Er ()
  rw [if_neg (nt hb22)] at hF
  iterate 5 refine au ?_
  refine CW_block (CW_loop (m := a_a.length) (fun m3 f' cs' => ∃ (g : Fr) (k5 : Nat) (rest6 : List Stored) (c1 : Int), m3 = rest6.length ∧ f' = updL g [(0, v0_0.v), (1, (.int .i64 c1)), (5, (.int .i64 (k5 : Int)))] ∧ List.drop k5 a_a = rest6 ∧ Ent cs' [crd (RdS 184 rd184) v0_0.v a_a] ∧ l_szStoredS_L1 rest6 k5 c1 = some R) ⟨_, 0, _, _, rfl, eqA, rfl, entA, hF⟩ ?_)
  clear hF
  rintro m3 _ _ ⟨g4, k5, rest6, c1, rfl, rfl, hd8, hE, hF⟩
  refine K_ent hE ?_
  clear hE
  refine K_pure (c := crd (RdS 184 rd184) v0_0.v a_a) .h crd_bound (fun hbd13 => ?_)
  rcases rest6 with _ | ⟨x7, rest6⟩
  · have hk9 := List.drop_eq_nil_iff.1 hd8
    rw [l_szStoredS_L1] at hF
    iterate 7 refine au ?_
    refine CdF ?_
    iterate 9 refine au ?_
    cases hF
    exact Er ()
  obtain ⟨hk9, hx10, hd11⟩ := drop_cons hd8
  rw [l_szStoredS_L1] at hF
  iterate 7 refine au ?_
  refine CdT ?_
  iterate 5 refine au ?_
  refine Ai hx10 (fun k14 j15 => ?_)
  refine AlA2 (ul184_0_184 x7) la184_0_184 (fun p16 => ?_)
  refine au ?_
  obtain ⟨r17, hx18, hF⟩ := bind_some hF
  refine Cx0 (l_szStored_ok _ _ _ _ _ hx18) (fun _ => ?_)
  iterate 6 refine au ?_
  refine Cc (fun hb21 => ?_) (fun hb21 => ?_)
  · rw [if_pos hb21] at hF
    iterate 4 refine au ?_
    cases hF
    exact Er ()
  rw [if_neg (nt hb21)] at hF
  iterate 6 refine au ?_
  rw [wk k5]
  exact ⟨_, Nat.lt_succ_self _, _, k5 + 1, rest6, _, rfl, eqA, hd11, entA, hF⟩

/-! laws.szCache -/
def l_szCache (a_a : Cache) (a_left : Int) : Option (Int) :=
  (l_szStoredS a_a.Entries a_left).bind fun r2 =>
  if (decide ((r2 : Int) < 0)) then (
    some (-1))
  else (
    some r2)
theorem l_szCache_ok (a_a : Cache) (v0_0 : Sv) (a_left : Int) (R : Int) (hF : l_szCache a_a a_left = some R) :
    Fw.Spec Tryz.prog 33 [(.agg [v0_0.v, (.int .i64 a_a.Age)].toArray), (.int .i64 a_left)] [crd (RdS 184 rd184) v0_0.v a_a.Entries] (fun _ : Unit => (.int .i64 R)) (fun _ => []) := by
  refine Spec_enter (n := 12) Tryz.func33 rfl rfl (rs := [.tmp 4]) rfl rfl rfl ?_
  intro H0 F0
  unfold l_szCache at hF
  refine au ?_
  refine AbR (fun k1 => ?_)
  iterate 6 refine au ?_
  obtain ⟨r2, hx3, hF⟩ := bind_some hF
  refine Cx0 (l_szStoredS_ok _ _ _ _ hx3) (fun _ => ?_)
  iterate 7 refine au ?_
  refine Cc (fun hb5 => ?_) (fun hb5 => ?_)
  · rw [if_pos hb5] at hF
    iterate 4 refine au ?_
    cases hF
    exact Er ()
  rw [if_neg (nt hb5)] at hF
  iterate 6 refine au ?_
  cases hF
  exact Er ()

/-! laws.szAccessS -/
def l_szAccessS_L1 : List Access → Nat → Int → Option (Int)
  | [], k5, c1 => some c1
  | x7 :: rest6, k5, c1 => (l_szAccess x7 c1).bind fun r17 =>
    if (decide ((r17 : Int) < 0)) then (
      some (-1))
    else (
      l_szAccessS_L1 rest6 (k5 + 1) r17)
def l_szAccessS (a_a : List Access) (a_left : Int) : Option (Int) :=
  if (decide (((IntKind.i64.wrap (a_left - (a_a.length : Int))) : Int) < 0)) then (
    some (-1))
  else (
    l_szAccessS_L1 a_a 0 (IntKind.i64.wrap (a_left - (a_a.length : Int))))
theorem l_szAccessS_ok (a_a : List Access) (v0_0 : Sv) (a_left : Int) (R : Int) (hF : l_szAccessS a_a a_left = some R) :
    Fw.Spec Tryz.prog 34 [v0_0.v, (.int .i64 a_left)] [crd (RdS 120 rd120) v0_0.v a_a] (fun _ : Unit => (.int .i64 R)) (fun _ => []) := by
  refine Spec_enter (n := 27) Tryz.func34 rfl rfl (rs := [.tmp 4]) rfl rfl rfl ?_
  intro H0 F0
  unfold l_szAccessS at hF
  iterate 15 refine au ?_
  refine Cc (fun hb22 => ?_) (fun hb22 => ?_)
  · rw [if_pos hb22] at hF
    iterate 4 refine au ?_
    cases hF
    exact Er ()
  rw [if_neg (nt hb22)] at hF
  iterate 5 refine au ?_
  refine CW_block (CW_loop (m := a_a.length) (fun m3 f' cs' => ∃ (g : Fr) (k5 : Nat) (rest6 : List Access) (c1 : Int), m3 = rest6.length ∧ f' = updL g [(0, v0_0.v), (1, (.int .i64 c1)), (5, (.int .i64 (k5 : Int)))] ∧ List.drop k5 a_a = rest6 ∧ Ent cs' [crd (RdS 120 rd120) v0_0.v a_a] ∧ l_szAccessS_L1 rest6 k5 c1 = some R) ⟨_, 0, _, _, rfl, eqA, rfl, entA, hF⟩ ?_)
  clear hF
  rintro m3 _ _ ⟨g4, k5, rest6, c1, rfl, rfl, hd8, hE, hF⟩
  refine K_ent hE ?_
  clear hE
  refine K_pure (c := crd (RdS 120 rd120) v0_0.v a_a) .h crd_bound (fun hbd13 => ?_)
  rcases rest6 with _ | ⟨x7, rest6⟩
  · have hk9 := List.drop_eq_nil_iff.1 hd8
    rw [l_szAccessS_L1] at hF
    iterate 7 refine au ?_
    refine CdF ?_
    iterate 9 refine au ?_
    cases hF
    exact Er ()
  obtain ⟨hk9, hx10, hd11⟩ := drop_cons hd8
  rw [l_szAccessS_L1] at hF
  iterate 7 refine au ?_
  refine CdT ?_
  iterate 5 refine au ?_
  refine Ai hx10 (fun k14 j15 => ?_)
  refine AlA1 (ul120_0_120 x7) la120_0_120 (fun p16 => ?_)
  refine au ?_
  obtain ⟨r17, hx18, hF⟩ := bind_some hF
  refine Cx0 (l_szAccess_ok _ _ _ _ hx18) (fun _ => ?_)
  iterate 6 refine au ?_
  refine Cc (fun hb21 => ?_) (fun hb21 => ?_)
  · rw [if_pos hb21] at hF
    iterate 4 refine au ?_
    cases hF
    exact Er ()
  rw [if_neg (nt hb21)] at hF
  iterate 6 refine au ?_
  rw [wk k5]
  exact ⟨_, Nat.lt_succ_self _, _, k5 + 1, rest6, _, rfl, eqA, hd11, entA, hF⟩

/-! laws.szIntSS -/
def l_szIntSS_L1 : List (List Int) → Nat → Int → Option (Int)
  | [], k5, c1 => some c1
  | x7 :: rest6, k5, c1 => (l_szIntS x7 c1).bind fun r17 =>
    if (decide ((r17 : Int) < 0)) then (
      some (-1))
    else (
      l_szIntSS_L1 rest6 (k5 + 1) r17)
def l_szIntSS (a_a : List (List Int)) (a_left : Int) : Option (Int) :=
  if (decide (((IntKind.i64.wrap (a_left - (a_a.length : Int))) : Int) < 0)) then (
    some (-1))
  else (
    l_szIntSS_L1 a_a 0 (IntKind.i64.wrap (a_left - (a_a.length : Int))))
theorem l_szIntSS_ok (a_a : List (List Int)) (v0_0 : Sv) (a_left : Int) (R : Int) (hF : l_szIntSS a_a a_left = some R) :
    Fw.Spec Tryz.prog 90 [v0_0.v, (.int .i64 a_left)] [crd (RdS 22 (RdS 3 rdInt)) v0_0.v a_a] (fun _ : Unit => (.int .i64 R)) (fun _ => []) := by
  refine Spec_enter (n := 27) Tryz.func90 rfl rfl (rs := [.tmp 4]) rfl rfl rfl ?_
  intro H0 F0
  unfold l_szIntSS at hF
  iterate 15 refine au ?_
  refine Cc (fun hb22 => ?_) (fun hb22 => ?_)
  · rw [if_pos hb22] at hF
    iterate 4 refine au ?_
    cases hF
    exact Er ()
  rw [if_neg (nt hb22)] at hF
  iterate 5 refine au ?_
  refine CW_block (CW_loop (m := a_a.length) (fun m3 f' cs' => ∃ (g : Fr) (k5 : Nat) (rest6 : List (List Int)) (c1 : Int), m3 = rest6.length ∧ f' = updL g [(0, v0_0.v), (1, (.int .i64 c1)), (5, (.int .i64 (k5 : Int)))] ∧ List.drop k5 a_a = rest6 ∧ Ent cs' [crd (RdS 22 (RdS 3 rdInt)) v0_0.v a_a] ∧ l_szIntSS_L1 rest6 k5 c1 = some R) ⟨_, 0, _, _, rfl, eqA, rfl, entA, hF⟩ ?_)
  clear hF
  rintro m3 _ _ ⟨g4, k5, rest6, c1, rfl, rfl, hd8, hE, hF⟩
  refine K_ent hE ?_
  clear hE
  refine K_pure (c := crd (RdS 22 (RdS 3 rdInt)) v0_0.v a_a) .h crd_bound (fun hbd13 => ?_)
  rcases rest6 with _ | ⟨x7, rest6⟩
  · have hk9 := List.drop_eq_nil_iff.1 hd8
    rw [l_szIntSS_L1] at hF
    iterate 7 refine au ?_
    refine CdF ?_
    iterate 9 refine au ?_
    cases hF
    exact Er ()
  obtain ⟨hk9, hx10, hd11⟩ := drop_cons hd8
  rw [l_szIntSS_L1] at hF
  iterate 7 refine au ?_
  refine CdT ?_
  iterate 5 refine au ?_
  refine Ai hx10 (fun k14 j15 => ?_)
  refine C_ldV (R' := (RdS 3 rdInt)) ag22.h (.tmp rfl rfl) .h lv22_0 (fun w16 => ?_)
  refine au ?_
  obtain ⟨r17, hx18, hF⟩ := bind_some hF
  refine Cx0 (l_szIntS_ok _ _ _ _ hx18) (fun _ => ?_)
  iterate 6 refine au ?_
  refine Cc (fun hb21 => ?_) (fun hb21 => ?_)
  · rw [if_pos hb21] at hF
    iterate 4 refine au ?_
    cases hF
    exact Er ()
  rw [if_neg (nt hb21)] at hF
  iterate 6 refine au ?_
  rw [wk k5]
  exact ⟨_, Nat.lt_succ_self _, _, k5 + 1, rest6, _, rfl, eqA, hd11, entA, hF⟩

/-! laws.szIntSSS -/
def l_szIntSSS_L1 : List (List (List Int)) → Nat → Int → Option (Int)
  | [], k5, c1 => some c1
  | x7 :: rest6, k5, c1 => (l_szIntSS x7 c1).bind fun r17 =>
    if (decide ((r17 : Int) < 0)) then (
      some (-1))
    else (
      l_szIntSSS_L1 rest6 (k5 + 1) r17)
def l_szIntSSS (a_a : List (List (List Int))) (a_left : Int) : Option (Int) :=
  if (decide (((IntKind.i64.wrap (a_left - (a_a.length : Int))) : Int) < 0)) then (
    some (-1))
  else (
    l_szIntSSS_L1 a_a 0 (IntKind.i64.wrap (a_left - (a_a.length : Int))))
theorem l_szIntSSS_ok (a_a : List (List (List Int))) (v0_0 : Sv) (a_left : Int) (R : Int) (hF : l_szIntSSS a_a a_left = some R) :
    Fw.Spec Tryz.prog 35 [v0_0.v, (.int .i64 a_left)] [crd (RdS 139 (RdS 22 (RdS 3 rdInt))) v0_0.v a_a] (fun _ : Unit => (.int .i64 R)) (fun _ => []) := by
  refine Spec_enter (n := 27) Tryz.func35 rfl rfl (rs := [.tmp 4]) rfl rfl rfl ?_
  intro H0 F0
  unfold l_szIntSSS at hF
  iterate 15 refine au ?_
  refine Cc (fun hb22 => ?_) (fun hb22 => ?_)
  · rw [if_pos hb22] at hF
    iterate 4 refine au ?_
    cases hF
    exact Er ()
  rw [if_neg (nt hb22)] at hF
  iterate 5 refine au ?_
  refine CW_block (CW_loop (m := a_a.length) (fun m3 f' cs' => ∃ (g : Fr) (k5 : Nat) (rest6 : List (List (List Int))) (c1 : Int), m3 = rest6.length ∧ f' = updL g [(0, v0_0.v), (1, (.int .i64 c1)), (5, (.int .i64 (k5 : Int)))] ∧ List.drop k5 a_a = rest6 ∧ Ent cs' [crd (RdS 139 (RdS 22 (RdS 3 rdInt))) v0_0.v a_a] ∧ l_szIntSSS_L1 rest6 k5 c1 = some R) ⟨_, 0, _, _, rfl, eqA, rfl, entA, hF⟩ ?_)
  clear hF
  rintro m3 _ _ ⟨g4, k5, rest6, c1, rfl, rfl, hd8, hE, hF⟩
  refine K_ent hE ?_
  clear hE
  refine K_pure (c := crd (RdS 139 (RdS 22 (RdS 3 rdInt))) v0_0.v a_a) .h crd_bound (fun hbd13 => ?_)
  rcases rest6 with _ | ⟨x7, rest6⟩
  · have hk9 := List.drop_eq_nil_iff.1 hd8
    rw [l_szIntSSS_L1] at hF
    iterate 7 refine au ?_
    refine CdF ?_
    iterate 9 refine au ?_
    cases hF
    exact Er ()
  obtain ⟨hk9, hx10, hd11⟩ := drop_cons hd8
  rw [l_szIntSSS_L1] at hF
  iterate 7 refine au ?_
  refine CdT ?_
  iterate 5 refine au ?_
  refine Ai hx10 (fun k14 j15 => ?_)
  refine C_ldV (R' := (RdS 22 (RdS 3 rdInt))) ag139.h (.tmp rfl rfl) .h lv139_0 (fun w16 => ?_)
  refine au ?_
  obtain ⟨r17, hx18, hF⟩ := bind_some hF
  refine Cx0 (l_szIntSS_ok _ _ _ _ hx18) (fun _ => ?_)
  iterate 6 refine au ?_
  refine Cc (fun hb21 => ?_) (fun hb21 => ?_)
  · rw [if_pos hb21] at hF
    iterate 4 refine au ?_
    cases hF
    exact Er ()
  rw [if_neg (nt hb21)] at hF
  iterate 6 refine au ?_
  rw [wk k5]
  exact ⟨_, Nat.lt_succ_self _, _, k5 + 1, rest6, _, rfl, eqA, hd11, entA, hF⟩

/-! laws.szMediator -/
def l_szMediator (a_a : Mediator) (a_left : Int) : Option (Int) :=
  (l_szIntS a_a.Schema a_left).bind fun r2 =>
  if (decide ((r2 : Int) < 0)) then (
    some (-1))
  else (
    (l_szMethodS a_a.Methods r2).bind fun r5 =>
    if (decide ((r5 : Int) < 0)) then (
      some (-1))
    else (
      (l_szRuleS a_a.Rules r5).bind fun r8 =>
      if (decide ((r8 : Int) < 0)) then (
        some (-1))
      else (
        (l_szSource a_a.Source r8).bind fun r11 =>
        if (decide ((r11 : Int) < 0)) then (
          some (-1))
        else (
          (l_szCache a_a.Cache r11).bind fun r14 =>
          if (decide ((r14 : Int) < 0)) then (
            some (-1))
          else (
            (l_szAccessS a_a.Log r14).bind fun r17 =>
            if (decide ((r17 : Int) < 0)) then (
              some (-1))
            else (
              (l_szIntS a_a.Times r17).bind fun r20 =>
              if (decide ((r20 : Int) < 0)) then (
                some (-1))
              else (
                (l_szIntSSS a_a.Results r20).bind fun r23 =>
                if (decide ((r23 : Int) < 0)) then (
                  some (-1))
                else (
                  some r23))))))))
theorem l_szMediator_ok (a_a : Mediator) (v0_0 : Sv) (v0_1 : Sv) (v0_2 : Sv) (v0_3 : Sv) (v0_5 : Sv) (v0_8 : Sv) (v0_9 : Sv) (v0_11 : Sv) (a_left : Int) (R : Int) (hF : l_szMediator a_a a_left = some R) :
    Fw.Spec Tryz.prog 6 [(.agg [v0_0.v, v0_1.v, v0_2.v, v0_3.v, (.int .i64 a_a.Source.Version), v0_5.v, (.int .i64 a_a.Cache.Age), (.int .i64 a_a.Now), v0_8.v, v0_9.v, (.int .i64 a_a.Spent), v0_11.v].toArray), (.int .i64 a_left)] [crd (RdS 3 rdInt) v0_0.v a_a.Schema, crd (RdS 103 rd103) v0_1.v a_a.Methods, crd (RdS 135 rd135) v0_2.v a_a.Rules, crd (RdS 106 rd106) v0_3.v a_a.Source.Facts, crd (RdS 184 rd184) v0_5.v a_a.Cache.Entries, crd (RdS 120 rd120) v0_8.v a_a.Log, crd (RdS 3 rdInt) v0_9.v a_a.Times, crd (RdS 139 (RdS 22 (RdS 3 rdInt))) v0_11.v a_a.Results] (fun _ : Unit => (.int .i64 R)) (fun _ => []) := by
  refine Spec_enter (n := 54) Tryz.func6 rfl rfl (rs := [.tmp 4]) rfl rfl rfl ?_
  intro H0 F0
  unfold l_szMediator at hF
  refine au ?_
  refine AbR (fun k1 => ?_)
  iterate 6 refine au ?_
  obtain ⟨r2, hx3, hF⟩ := bind_some hF
  refine Cx0 (l_szIntS_ok _ _ _ _ hx3) (fun _ => ?_)
  iterate 7 refine au ?_
  refine Cc (fun hb33 => ?_) (fun hb33 => ?_)
  · rw [if_pos hb33] at hF
    iterate 4 refine au ?_
    cases hF
    exact Er ()
  rw [if_neg (nt hb33)] at hF
  iterate 5 refine au ?_
  obtain ⟨r5, hx6, hF⟩ := bind_some hF
  refine Cx0 (l_szMethodS_ok _ _ _ _ hx6) (fun _ => ?_)
  iterate 7 refine au ?_
  refine Cc (fun hb32 => ?_) (fun hb32 => ?_)
  · rw [if_pos hb32] at hF
    iterate 4 refine au ?_
    cases hF
    exact Er ()
  rw [if_neg (nt hb32)] at hF
  iterate 5 refine au ?_
  obtain ⟨r8, hx9, hF⟩ := bind_some hF
  refine Cx0 (l_szRuleS_ok _ _ _ _ hx9) (fun _ => ?_)
  iterate 7 refine au ?_
  refine Cc (fun hb31 => ?_) (fun hb31 => ?_)
  · rw [if_pos hb31] at hF
    iterate 4 refine au ?_
    cases hF
    exact Er ()
  rw [if_neg (nt hb31)] at hF
  iterate 3 refine au ?_
  refine C_at .h (fun hp => V_loadA (s := 2) (l := [v0_3.v, (.int .i64 a_a.Source.Version)]) ag27.h ty27.h.sz (.tmp rfl rfl) hp.2 rfl (by decide) (Nat.le_of_ble_eq_true rfl) rfl) ?_
  refine au ?_
  obtain ⟨r11, hx12, hF⟩ := bind_some hF
  refine Cx0 (l_szSource_ok _ _ _ _ hx12) (fun _ => ?_)
  iterate 7 refine au ?_
  refine Cc (fun hb30 => ?_) (fun hb30 => ?_)
  · rw [if_pos hb30] at hF
    iterate 4 refine au ?_
    cases hF
    exact Er ()
  rw [if_neg (nt hb30)] at hF
  iterate 3 refine au ?_
  refine C_at .h (fun hp => V_loadA (s := 2) (l := [v0_5.v, (.int .i64 a_a.Cache.Age)]) ag30.h ty30.h.sz (.tmp rfl rfl) hp.2 rfl (by decide) (Nat.le_of_ble_eq_true rfl) rfl) ?_
  refine au ?_
  obtain ⟨r14, hx15, hF⟩ := bind_some hF
  refine Cx0 (l_szCache_ok _ _ _ _ hx15) (fun _ => ?_)
  iterate 7 refine au ?_
  refine Cc (fun hb29 => ?_) (fun hb29 => ?_)
  · rw [if_pos hb29] at hF
    iterate 4 refine au ?_
    cases hF
    exact Er ()
  rw [if_neg (nt hb29)] at hF
  iterate 5 refine au ?_
  obtain ⟨r17, hx18, hF⟩ := bind_some hF
  refine Cx0 (l_szAccessS_ok _ _ _ _ hx18) (fun _ => ?_)
  iterate 7 refine au ?_
  refine Cc (fun hb28 => ?_) (fun hb28 => ?_)
  · rw [if_pos hb28] at hF
    iterate 4 refine au ?_
    cases hF
    exact Er ()
  rw [if_neg (nt hb28)] at hF
  iterate 5 refine au ?_
  obtain ⟨r20, hx21, hF⟩ := bind_some hF
  refine Cx0 (l_szIntS_ok _ _ _ _ hx21) (fun _ => ?_)
  iterate 7 refine au ?_
  refine Cc (fun hb27 => ?_) (fun hb27 => ?_)
  · rw [if_pos hb27] at hF
    iterate 4 refine au ?_
    cases hF
    exact Er ()
  rw [if_neg (nt hb27)] at hF
  iterate 5 refine au ?_
  obtain ⟨r23, hx24, hF⟩ := bind_some hF
  refine Cx0 (l_szIntSSS_ok _ _ _ _ hx24) (fun _ => ?_)
  iterate 7 refine au ?_
  refine Cc (fun hb26 => ?_) (fun hb26 => ?_)
  · rw [if_pos hb26] at hF
    iterate 4 refine au ?_
    cases hF
    exact Er ()
  rw [if_neg (nt hb26)] at hF
  iterate 6 refine au ?_
  cases hF
  exact Er ()

/-! laws.toIntS -/
def l_toIntS_L1 : List Int → Nat → (List Int) → Option ((List Int))
  | [], k32, c27 => some c27
  | x34 :: rest33, k32, c27 => (chk (decide (0 ≤ (k32 : Int)) && decide ((k32 : Int) < (c27.length : Int)))).bind fun u46 =>
    (some (c27.set ((k32 : Int)).toNat x34)).bind fun z48 =>
    l_toIntS_L1 rest33 (k32 + 1) z48
def l_toIntS (a_a : List Int) : Option ((List Int)) :=
  (mkz (a_a.length : Int) (0 : Int)).bind fun z1 =>
  l_toIntS_L1 a_a 0 z1
theorem l_toIntS_ok (a_a : List Int) (v0_0 : Sv) (R : (List Int)) (hF : l_toIntS a_a = some R) :
    Fw.Spec Tryz.prog 18 [v0_0.v] [crd (RdS 3 rdInt) v0_0.v a_a] (fun p : Sv × List Nat => p.1.v) (fun p => [cown (OwnS 3 (roE rdInt)) p.2 p.1.v R]) := by
  refine Spec_enter (n := 22) Tryz.func18 rfl rfl (rs := [.tmp 2]) rfl rfl rfl ?_
  intro H0 F0
  unfold l_toIntS at hF
  iterate 6 refine au ?_
  obtain ⟨z1, hx2, hF⟩ := bind_some hF
  have hm3 := mkz_some hx2
  refine C_new rfl (N_makeSlice (g := true) (c := (a_a.length : Int)) sl22.h ty3.h rfl rfl (by decide) (.tmp rfl rfl) hm3.2.1 hm3.2.2) (fun k4 => ?_)
  refine Cv1 (.cons .h .nil) (own_make (Ro := (roE rdInt)) (E := 3) (a := (0 : Int)) hx2 (fun _ => ⟨rfl, rfl⟩)) ?_
  iterate 6 refine au ?_
  refine CW_block (CW_loop (m := a_a.length) (fun m30 f' cs' => ∃ (g : Fr) (k32 : Nat) (rest33 : List Int) (c27 : List Int) (F28 : List Nat), m30 = rest33.length ∧ f' = updL g [(0, v0_0.v), (3, (.slice (some ⟨k4, 0, none⟩) (a_a.length : Int).toNat 1)), (4, (.int .i64 (k32 : Int)))] ∧ List.drop k32 a_a = rest33 ∧ Ent cs' [crd (RdS 3 rdInt) v0_0.v a_a, cown (OwnS 3 (roE rdInt)) F28 (.slice (some ⟨k4, 0, none⟩) (a_a.length : Int).toNat 1) c27] ∧ l_toIntS_L1 rest33 k32 c27 = some R) ⟨_, 0, _, _, [k4], rfl, eqA, rfl, entA, hF⟩ ?_)
  clear hF
  rintro m30 _ _ ⟨g31, k32, rest33, c27, F28, rfl, rfl, hd35, hE, hF⟩
  refine K_ent hE ?_
  clear hE
  refine K_pure (c := crd (RdS 3 rdInt) v0_0.v a_a) .h crd_bound (fun hbd40 => ?_)
  rcases rest33 with _ | ⟨x34, rest33⟩
  · have hk36 := List.drop_eq_nil_iff.1 hd35
    rw [l_toIntS_L1] at hF
    iterate 7 refine au ?_
    refine CdF ?_
    iterate 9 refine au ?_
    cases hF
    exact Er (⟨(some ⟨k4, 0, none⟩), (a_a.length : Int).toNat, 1⟩, F28)
  obtain ⟨hk36, hx37, hd38⟩ := drop_cons hd35
  rw [l_toIntS_L1] at hF
  iterate 7 refine au ?_
  refine CdT ?_
  iterate 7 refine au ?_
  refine Ai hx37 (fun k41 j42 => ?_)
  refine Al ls3_0 ?_
  obtain ⟨u46, hx47, hF⟩ := bind_some hF
  have hi45 := chk_some hx47
  refine C_idxO sl22.h ty3.h.sz (.tmp rfl rfl) (.tmp rfl rfl) (.t (.t .h)) hi45 (fun k43 hk44 => ?_)
  obtain ⟨z48, hx49, hF⟩ := bind_some hF
  replace hx49 := Option.some.inj hx49
  refine C_x1 (.cons (.t (.t .h)) .nil) (X_storeO (Ro := (roE rdInt)) (a := x34) (i := (k32 : Int)) ty3.h.sz rfl (.tmp rfl rfl) (.tmp rfl rfl) hk44 hi45 (Mk_pure (fun _ => rfl)) (fun _ _ _ _ h => by obtain ⟨-, h⟩ := h; cases h; rfl)) (fun F50 => ?_)
  rw [hx49]
  iterate 6 refine au ?_
  rw [wk k32]
  exact ⟨_, Nat.lt_succ_self _, _, k32 + 1, rest33, _, F50, rfl, eqA, hd38, entA, hF⟩

/-! laws.toMethod -/
def l_toMethod (a_a : Method) : Option (Method) :=
  (l_toIntS a_a.Inputs).bind fun r4 =>
  some ({ Rel := a_a.Rel, Inputs := r4, Limit := a_a.Limit, Cost := a_a.Cost, Quota := a_a.Quota } : Method)
theorem l_toMethod_ok (a_a : Method) (v0_1 : Sv) (R : Method) (hF : l_toMethod a_a = some R) :
    Fw.Spec Tryz.prog 67 [(.agg [(.int .i64 a_a.Rel), v0_1.v, (.int .i64 a_a.Limit), (.int .i64 a_a.Cost), (.int .i64 a_a.Quota)].toArray)] [crd (RdS 3 rdInt) v0_1.v a_a.Inputs] (fun p : Sv × List Nat => (.agg [(.int .i64 R.Rel), p.1.v, (.int .i64 R.Limit), (.int .i64 R.Cost), (.int .i64 R.Quota)].toArray)) (fun p => [cown (OwnS 3 (roE rdInt)) p.2 p.1.v R.Inputs]) := by
  refine Spec_enter (n := 21) Tryz.func67 rfl rfl (rs := [.cell 2 112]) rfl rfl rfl ?_
  intro H0 F0
  unfold l_toMethod at hF
  refine au ?_
  refine AbR (fun k1 => ?_)
  refine AnW (fun k2 => ?_)
  iterate 2 refine au ?_
  refine AnW (fun k3 => ?_)
  iterate 5 refine au ?_
  refine As (.agg [(.int .i64 a_a.Rel), (.slice none 0 0), (.int .i64 0), (.int .i64 0), (.int .i64 0)].toArray) ?_
  iterate 4 refine au ?_
  obtain ⟨r4, hx5, hF⟩ := bind_some hF
  refine Cx1 (l_toIntS_ok _ _ _ hx5) (fun p6 => ?_)
  refine au ?_
  refine As (.agg [(.int .i64 a_a.Rel), p6.1.v, (.int .i64 0), (.int .i64 0), (.int .i64 0)].toArray) ?_
  iterate 5 refine au ?_
  refine As (.agg [(.int .i64 a_a.Rel), p6.1.v, (.int .i64 a_a.Limit), (.int .i64 0), (.int .i64 0)].toArray) ?_
  iterate 5 refine au ?_
  refine As (.agg [(.int .i64 a_a.Rel), p6.1.v, (.int .i64 a_a.Limit), (.int .i64 a_a.Cost), (.int .i64 0)].toArray) ?_
  iterate 5 refine au ?_
  refine As (.agg [(.int .i64 a_a.Rel), p6.1.v, (.int .i64 a_a.Limit), (.int .i64 a_a.Cost), (.int .i64 a_a.Quota)].toArray) ?_
  iterate 3 refine au ?_
  refine As (.agg [(.int .i64 a_a.Rel), p6.1.v, (.int .i64 a_a.Limit), (.int .i64 a_a.Cost), (.int .i64 a_a.Quota)].toArray) ?_
  iterate 2 refine au ?_
  cases hF
  exact Er (p6.1, p6.2)

/-! laws.toMethodS -/
def l_toMethodS_L1 : List Method → Nat → (List Method) → Option ((List Method))
  | [], k36, c31 => some c31
  | x38 :: rest37, k36, c31 => (l_toMethod x38).bind fun r48 =>
    (chk (decide (0 ≤ (k36 : Int)) && decide ((k36 : Int) < (c31.length : Int)))).bind fun u54 =>
    (some (c31.set ((k36 : Int)).toNat r48)).bind fun z56 =>
    l_toMethodS_L1 rest37 (k36 + 1) z56
def l_toMethodS (a_a : List Method) : Option ((List Method)) :=
  (mkz (a_a.length : Int) (({ Rel := 0, Inputs := [], Limit := 0, Cost := 0, Quota := 0 } : Method) : Method)).bind fun z1 =>
  l_toMethodS_L1 a_a 0 z1
theorem l_toMethodS_ok (a_a : List Method) (v0_0 : Sv) (R : (List Method)) (hF : l_toMethodS a_a = some R) :
    Fw.Spec Tryz.prog 19 [v0_0.v] [crd (RdS 103 rd103) v0_0.v a_a] (fun p : Sv × List Nat => p.1.v) (fun p => [cown (OwnS 112 ow112) p.2 p.1.v R]) := by
  refine Spec_enter (n := 23) Tryz.func19 rfl rfl (rs := [.tmp 2]) rfl rfl rfl ?_
  intro H0 F0
  unfold l_toMethodS at hF
  iterate 6 refine au ?_
  obtain ⟨z1, hx2, hF⟩ := bind_some hF
  have hm3 := mkz_some hx2
  refine C_new rfl (N_makeSlice (g := true) (c := (a_a.length : Int)) sl38.h ty112.h rfl rfl (by decide) (.tmp rfl rfl) hm3.2.1 hm3.2.2) (fun k4 => ?_)
  refine Cv1 (.cons .h .nil) (own_make (Ro := ow112) (E := 112) (a := (({ Rel := 0, Inputs := [], Limit := 0, Cost := 0, Quota := 0 } : Method) : Method)) hx2 (fun _ => ⟨⟨none, 0, 0⟩, [], rfl, rfl, .inl ⟨rfl, rfl, rfl⟩⟩)) ?_
  iterate 6 refine au ?_
  refine CW_block (CW_loop (m := a_a.length) (fun m34 f' cs' => ∃ (g : Fr) (k36 : Nat) (rest37 : List Method) (c31 : List Method) (F32 : List Nat), m34 = rest37.length ∧ f' = updL g [(0, v0_0.v), (3, (.slice (some ⟨k4, 0, none⟩) (a_a.length : Int).toNat 1)), (4, (.int .i64 (k36 : Int)))] ∧ List.drop k36 a_a = rest37 ∧ Ent cs' [crd (RdS 103 rd103) v0_0.v a_a, cown (OwnS 112 ow112) F32 (.slice (some ⟨k4, 0, none⟩) (a_a.length : Int).toNat 1) c31] ∧ l_toMethodS_L1 rest37 k36 c31 = some R) ⟨_, 0, _, _, [k4], rfl, eqA, rfl, entA, hF⟩ ?_)
  clear hF
  rintro m34 _ _ ⟨g35, k36, rest37, c31, F32, rfl, rfl, hd39, hE, hF⟩
  refine K_ent hE ?_
  clear hE
  refine K_pure (c := crd (RdS 103 rd103) v0_0.v a_a) .h crd_bound (fun hbd44 => ?_)
  rcases rest37 with _ | ⟨x38, rest37⟩
  · have hk40 := List.drop_eq_nil_iff.1 hd39
    rw [l_toMethodS_L1] at hF
    iterate 7 refine au ?_
    refine CdF ?_
    iterate 9 refine au ?_
    cases hF
    exact Er (⟨(some ⟨k4, 0, none⟩), (a_a.length : Int).toNat, 1⟩, F32)
  obtain ⟨hk40, hx41, hd42⟩ := drop_cons hd39
  rw [l_toMethodS_L1] at hF
  iterate 7 refine au ?_
  refine CdT ?_
  iterate 7 refine au ?_
  refine Ai hx41 (fun k45 j46 => ?_)
  refine AlA1 (ul103_0_103 x38) la103_0_103 (fun p47 => ?_)
  obtain ⟨r48, hx49, hF⟩ := bind_some hF
  refine Cx1 (l_toMethod_ok _ _ _ hx49) (fun p50 => ?_)
  obtain ⟨u54, hx55, hF⟩ := bind_some hF
  have hi53 := chk_some hx55
  refine C_idxO sl38.h ty112.h.sz (.tmp rfl rfl) (.tmp rfl rfl) (.t (.t (.t (.t .h)))) hi53 (fun k51 hk52 => ?_)
  obtain ⟨z56, hx57, hF⟩ := bind_some hF
  replace hx57 := Option.some.inj hx57
  refine C_x1 (.cons (.t (.t (.t (.t .h)))) (.cons .h .nil)) (X_storeO (Ro := ow112) (a := r48) (i := (k36 : Int)) ty112.h.sz rfl (.tmp rfl rfl) (.tmp rfl rfl) hk52 hi53 mk112 (fun _ _ _ _ h => by obtain ⟨_, _, rfl, rfl, _⟩ := h; rfl)) (fun F58 => ?_)
  rw [hx57]
  iterate 6 refine au ?_
  rw [wk k36]
  exact ⟨_, Nat.lt_succ_self _, _, k36 + 1, rest37, _, F58, rfl, eqA, hd42, entA, hF⟩

/-! laws.toRule -/
def l_toRule (a_a : Rule) : Option (Rule) :=
  (l_toIntS a_a.Map).bind fun r4 =>
  some ({ From := a_a.From, To := a_a.To, Map := r4 } : Rule)
theorem l_toRule_ok (a_a : Rule) (v0_2 : Sv) (R : Rule) (hF : l_toRule a_a = some R) :
    Fw.Spec Tryz.prog 99 [(.agg [(.int .i64 a_a.From), (.int .i64 a_a.To), v0_2.v].toArray)] [crd (RdS 3 rdInt) v0_2.v a_a.Map] (fun p : Sv × List Nat => (.agg [(.int .i64 R.From), (.int .i64 R.To), p.1.v].toArray)) (fun p => [cown (OwnS 3 (roE rdInt)) p.2 p.1.v R.Map]) := by
  refine Spec_enter (n := 15) Tryz.func99 rfl rfl (rs := [.cell 2 148]) rfl rfl rfl ?_
  intro H0 F0
  unfold l_toRule at hF
  refine au ?_
  refine AbR (fun k1 => ?_)
  refine AnW (fun k2 => ?_)
  iterate 2 refine au ?_
  refine AnW (fun k3 => ?_)
  iterate 5 refine au ?_
  refine As (.agg [(.int .i64 a_a.From), (.int .i64 0), (.slice none 0 0)].toArray) ?_
  iterate 5 refine au ?_
  refine As (.agg [(.int .i64 a_a.From), (.int .i64 a_a.To), (.slice none 0 0)].toArray) ?_
  iterate 4 refine au ?_
  obtain ⟨r4, hx5, hF⟩ := bind_some hF
  refine Cx1 (l_toIntS_ok _ _ _ hx5) (fun p6 => ?_)
  refine au ?_
  refine As (.agg [(.int .i64 a_a.From), (.int .i64 a_a.To), p6.1.v].toArray) ?_
  iterate 3 refine au ?_
  refine As (.agg [(.int .i64 a_a.From), (.int .i64 a_a.To), p6.1.v].toArray) ?_
  iterate 2 refine au ?_
  cases hF
  exact Er (p6.1, p6.2)

/-! laws.toRuleS -/
def l_toRuleS_L1 : List Rule → Nat → (List Rule) → Option ((List Rule))
  | [], k36, c31 => some c31
  | x38 :: rest37, k36, c31 => (l_toRule x38).bind fun r48 =>
    (chk (decide (0 ≤ (k36 : Int)) && decide ((k36 : Int) < (c31.length : Int)))).bind fun u54 =>
    (some (c31.set ((k36 : Int)).toNat r48)).bind fun z56 =>
    l_toRuleS_L1 rest37 (k36 + 1) z56
def l_toRuleS (a_a : List Rule) : Option ((List Rule)) :=
  (mkz (a_a.length : Int) (({ From := 0, To := 0, Map := [] } : Rule) : Rule)).bind fun z1 =>
  l_toRuleS_L1 a_a 0 z1
theorem l_toRuleS_ok (a_a : List Rule) (v0_0 : Sv) (R : (List Rule)) (hF : l_toRuleS a_a = some R) :
    Fw.Spec Tryz.prog 40 [v0_0.v] [crd (RdS 135 rd135) v0_0.v a_a] (fun p : Sv × List Nat => p.1.v) (fun p => [cown (OwnS 148 ow148) p.2 p.1.v R]) := by
  refine Spec_enter (n := 23) Tryz.func40 rfl rfl (rs := [.tmp 2]) rfl rfl rfl ?_
  intro H0 F0
  unfold l_toRuleS at hF
  iterate 6 refine au ?_
  obtain ⟨z1, hx2, hF⟩ := bind_some hF
  have hm3 := mkz_some hx2
  refine C_new rfl (N_makeSlice (g := true) (c := (a_a.length : Int)) sl39.h ty148.h rfl rfl (by decide) (.tmp rfl rfl) hm3.2.1 hm3.2.2) (fun k4 => ?_)
  refine Cv1 (.cons .h .nil) (own_make (Ro := ow148) (E := 148) (a := (({ From := 0, To := 0, Map := [] } : Rule) : Rule)) hx2 (fun _ => ⟨⟨none, 0, 0⟩, [], rfl, rfl, .inl ⟨rfl, rfl, rfl⟩⟩)) ?_
  iterate 6 refine au ?_
  refine CW_block (CW_loop (m := a_a.length) (fun m34 f' cs' => ∃ (g : Fr) (k36 : Nat) (rest37 : List Rule) (c31 : List Rule) (F32 : List Nat), m34 = rest37.length ∧ f' = updL g [(0, v0_0.v), (3, (.slice (some ⟨k4, 0, none⟩) (a_a.length : Int).toNat 1)), (4, (.int .i64 (k36 : Int)))] ∧ List.drop k36 a_a = rest37 ∧ Ent cs' [crd (RdS 135 rd135) v0_0.v a_a, cown (OwnS 148 ow148) F32 (.slice (some ⟨k4, 0, none⟩) (a_a.length : Int).toNat 1) c31] ∧ l_toRuleS_L1 rest37 k36 c31 = some R) ⟨_, 0, _, _, [k4], rfl, eqA, rfl, entA, hF⟩ ?_)
  clear hF
  rintro m34 _ _ ⟨g35, k36, rest37, c31, F32, rfl, rfl, hd39, hE, hF⟩
  refine K_ent hE ?_
  clear hE
  refine K_pure (c := crd (RdS 135 rd135) v0_0.v a_a) .h crd_bound (fun hbd44 => ?_)
  rcases rest37 with _ | ⟨x38, rest37⟩
  · have hk40 := List.drop_eq_nil_iff.1 hd39
    rw [l_toRuleS_L1] at hF
    iterate 7 refine au ?_
    refine CdF ?_
    iterate 9 refine au ?_
    cases hF
    exact Er (⟨(some ⟨k4, 0, none⟩), (a_a.length : Int).toNat, 1⟩, F32)
  obtain ⟨hk40, hx41, hd42⟩ := drop_cons hd39
  rw [l_toRuleS_L1] at hF
  iterate 7 refine au ?_
  refine CdT ?_
  iterate 7 refine au ?_
  refine Ai hx41 (fun k45 j46 => ?_)
  refine AlA1 (ul135_0_135 x38) la135_0_135 (fun p47 => ?_)
  obtain ⟨r48, hx49, hF⟩ := bind_some hF
  refine Cx1 (l_toRule_ok _ _ _ hx49) (fun p50 => ?_)
  obtain ⟨u54, hx55, hF⟩ := bind_some hF
  have hi53 := chk_some hx55
  refine C_idxO sl39.h ty148.h.sz (.tmp rfl rfl) (.tmp rfl rfl) (.t (.t (.t (.t .h)))) hi53 (fun k51 hk52 => ?_)
  obtain ⟨z56, hx57, hF⟩ := bind_some hF
  replace hx57 := Option.some.inj hx57
  refine C_x1 (.cons (.t (.t (.t (.t .h)))) (.cons .h .nil)) (X_storeO (Ro := ow148) (a := r48) (i := (k36 : Int)) ty148.h.sz rfl (.tmp rfl rfl) (.tmp rfl rfl) hk52 hi53 mk148 (fun _ _ _ _ h => by obtain ⟨_, _, rfl, rfl, _⟩ := h; rfl)) (fun F58 => ?_)
  rw [hx57]
  iterate 6 refine au ?_
  rw [wk k36]
  exact ⟨_, Nat.lt_succ_self _, _, k36 + 1, rest37, _, F58, rfl, eqA, hd42, entA, hF⟩

/-! laws.toFact -/
def l_toFact (a_a : Fact) : Option (Fact) :=
  (l_toIntS a_a.Values).bind fun r4 =>
  some ({ Rel := a_a.Rel, Values := r4 } : Fact)
theorem l_toFact_ok (a_a : Fact) (v0_1 : Sv) (R : Fact) (hF : l_toFact a_a = some R) :
    Fw.Spec Tryz.prog 68 [(.agg [(.int .i64 a_a.Rel), v0_1.v].toArray)] [crd (RdS 3 rdInt) v0_1.v a_a.Values] (fun p : Sv × List Nat => (.agg [(.int .i64 R.Rel), p.1.v].toArray)) (fun p => [cown (OwnS 3 (roE rdInt)) p.2 p.1.v R.Values]) := by
  refine Spec_enter (n := 12) Tryz.func68 rfl rfl (rs := [.cell 2 114]) rfl rfl rfl ?_
  intro H0 F0
  unfold l_toFact at hF
  refine au ?_
  refine AbR (fun k1 => ?_)
  refine AnW (fun k2 => ?_)
  iterate 2 refine au ?_
  refine AnW (fun k3 => ?_)
  iterate 5 refine au ?_
  refine As (.agg [(.int .i64 a_a.Rel), (.slice none 0 0)].toArray) ?_
  iterate 4 refine au ?_
  obtain ⟨r4, hx5, hF⟩ := bind_some hF
  refine Cx1 (l_toIntS_ok _ _ _ hx5) (fun p6 => ?_)
  refine au ?_
  refine As (.agg [(.int .i64 a_a.Rel), p6.1.v].toArray) ?_
  iterate 3 refine au ?_
  refine As (.agg [(.int .i64 a_a.Rel), p6.1.v].toArray) ?_
  iterate 2 refine au ?_
  cases hF
  exact Er (p6.1, p6.2)

/-! laws.toFactS -/
def l_toFactS_L1 : List Fact → Nat → (List Fact) → Option ((List Fact))
  | [], k36, c31 => some c31
  | x38 :: rest37, k36, c31 => (l_toFact x38).bind fun r48 =>
    (chk (decide (0 ≤ (k36 : Int)) && decide ((k36 : Int) < (c31.length : Int)))).bind fun u54 =>
    (some (c31.set ((k36 : Int)).toNat r48)).bind fun z56 =>
    l_toFactS_L1 rest37 (k36 + 1) z56
def l_toFactS (a_a : List Fact) : Option ((List Fact)) :=
  (mkz (a_a.length : Int) (({ Rel := 0, Values := [] } : Fact) : Fact)).bind fun z1 =>
  l_toFactS_L1 a_a 0 z1
theorem l_toFactS_ok (a_a : List Fact) (v0_0 : Sv) (R : (List Fact)) (hF : l_toFactS a_a = some R) :
    Fw.Spec Tryz.prog 20 [v0_0.v] [crd (RdS 106 rd106) v0_0.v a_a] (fun p : Sv × List Nat => p.1.v) (fun p => [cown (OwnS 114 ow114) p.2 p.1.v R]) := by
  refine Spec_enter (n := 23) Tryz.func20 rfl rfl (rs := [.tmp 2]) rfl rfl rfl ?_
  intro H0 F0
  unfold l_toFactS at hF
  iterate 6 refine au ?_
  obtain ⟨z1, hx2, hF⟩ := bind_some hF
  have hm3 := mkz_some hx2
  refine C_new rfl (N_makeSlice (g := true) (c := (a_a.length : Int)) sl40.h ty114.h rfl rfl (by decide) (.tmp rfl rfl) hm3.2.1 hm3.2.2) (fun k4 => ?_)
  refine Cv1 (.cons .h .nil) (own_make (Ro := ow114) (E := 114) (a := (({ Rel := 0, Values := [] } : Fact) : Fact)) hx2 (fun _ => ⟨⟨none, 0, 0⟩, [], rfl, rfl, .inl ⟨rfl, rfl, rfl⟩⟩)) ?_
  iterate 6 refine au ?_
  refine CW_block (CW_loop (m := a_a.length) (fun m34 f' cs' => ∃ (g : Fr) (k36 : Nat) (rest37 : List Fact) (c31 : List Fact) (F32 : List Nat), m34 = rest37.length ∧ f' = updL g [(0, v0_0.v), (3, (.slice (some ⟨k4, 0, none⟩) (a_a.length : Int).toNat 1)), (4, (.int .i64 (k36 : Int)))] ∧ List.drop k36 a_a = rest37 ∧ Ent cs' [crd (RdS 106 rd106) v0_0.v a_a, cown (OwnS 114 ow114) F32 (.slice (some ⟨k4, 0, none⟩) (a_a.length : Int).toNat 1) c31] ∧ l_toFactS_L1 rest37 k36 c31 = some R) ⟨_, 0, _, _, [k4], rfl, eqA, rfl, entA, hF⟩ ?_)
  clear hF
  rintro m34 _ _ ⟨g35, k36, rest37, c31, F32, rfl, rfl, hd39, hE, hF⟩
  refine K_ent hE ?_
  clear hE
  refine K_pure (c := crd (RdS 106 rd106) v0_0.v a_a) .h crd_bound (fun hbd44 => ?_)
  rcases rest37 with _ | ⟨x38, rest37⟩
  · have hk40 := List.drop_eq_nil_iff.1 hd39
    rw [l_toFactS_L1] at hF
    iterate 7 refine au ?_
    refine CdF ?_
    iterate 9 refine au ?_
    cases hF
    exact Er (⟨(some ⟨k4, 0, none⟩), (a_a.length : Int).toNat, 1⟩, F32)
  obtain ⟨hk40, hx41, hd42⟩ := drop_cons hd39
  rw [l_toFactS_L1] at hF
  iterate 7 refine au ?_
  refine CdT ?_
  iterate 7 refine au ?_
  refine Ai hx41 (fun k45 j46 => ?_)
  refine AlA1 (ul106_0_106 x38) la106_0_106 (fun p47 => ?_)
  obtain ⟨r48, hx49, hF⟩ := bind_some hF
  refine Cx1 (l_toFact_ok _ _ _ hx49) (fun p50 => ?_)
  obtain ⟨u54, hx55, hF⟩ := bind_some hF
  have hi53 := chk_some hx55
  refine C_idxO sl40.h ty114.h.sz (.tmp rfl rfl) (.tmp rfl rfl) (.t (.t (.t (.t .h)))) hi53 (fun k51 hk52 => ?_)
  obtain ⟨z56, hx57, hF⟩ := bind_some hF
  replace hx57 := Option.some.inj hx57
  refine C_x1 (.cons (.t (.t (.t (.t .h)))) (.cons .h .nil)) (X_storeO (Ro := ow114) (a := r48) (i := (k36 : Int)) ty114.h.sz rfl (.tmp rfl rfl) (.tmp rfl rfl) hk52 hi53 mk114 (fun _ _ _ _ h => by obtain ⟨_, _, rfl, rfl, _⟩ := h; rfl)) (fun F58 => ?_)
  rw [hx57]
  iterate 6 refine au ?_
  rw [wk k36]
  exact ⟨_, Nat.lt_succ_self _, _, k36 + 1, rest37, _, F58, rfl, eqA, hd42, entA, hF⟩

/-! laws.toSource -/
def l_toSource (a_a : Source) : Option (Source) :=
  (l_toFactS a_a.Facts).bind fun r4 =>
  some ({ Facts := r4, Version := a_a.Version } : Source)
theorem l_toSource_ok (a_a : Source) (v0_0 : Sv) (R : Source) (hF : l_toSource a_a = some R) :
    Fw.Spec Tryz.prog 41 [(.agg [v0_0.v, (.int .i64 a_a.Version)].toArray)] [crd (RdS 106 rd106) v0_0.v a_a.Facts] (fun p : Sv × List Nat => (.agg [p.1.v, (.int .i64 R.Version)].toArray)) (fun p => [cown (OwnS 114 ow114) p.2 p.1.v R.Facts]) := by
  refine Spec_enter (n := 12) Tryz.func41 rfl rfl (rs := [.cell 2 42]) rfl rfl rfl ?_
  intro H0 F0
  unfold l_toSource at hF
  refine au ?_
  refine AbR (fun k1 => ?_)
  refine AnW (fun k2 => ?_)
  iterate 2 refine au ?_
  refine AnW (fun k3 => ?_)
  iterate 4 refine au ?_
  obtain ⟨r4, hx5, hF⟩ := bind_some hF
  refine Cx1 (l_toFactS_ok _ _ _ hx5) (fun p6 => ?_)
  refine au ?_
  refine As (.agg [p6.1.v, (.int .i64 0)].toArray) ?_
  iterate 5 refine au ?_
  refine As (.agg [p6.1.v, (.int .i64 a_a.Version)].toArray) ?_
  iterate 3 refine au ?_
  refine As (.agg [p6.1.v, (.int .i64 a_a.Version)].toArray) ?_
  iterate 2 refine au ?_
  cases hF
  exact Er (p6.1, p6.2)

/-! laws.toAccess -/
def l_toAccess (a_a : Access) : Option (Access) :=
  (l_toIntS a_a.Values).bind fun r4 =>
  some ({ Method := a_a.Method, Values := r4 } : Access)
theorem l_toAccess_ok (a_a : Access) (v0_1 : Sv) (R : Access) (hF : l_toAccess a_a = some R) :
    Fw.Spec Tryz.prog 101 [(.agg [(.int .i64 a_a.Method), v0_1.v].toArray)] [crd (RdS 3 rdInt) v0_1.v a_a.Values] (fun p : Sv × List Nat => (.agg [(.int .i64 R.Method), p.1.v].toArray)) (fun p => [cown (OwnS 3 (roE rdInt)) p.2 p.1.v R.Values]) := by
  refine Spec_enter (n := 12) Tryz.func101 rfl rfl (rs := [.cell 2 80]) rfl rfl rfl ?_
  intro H0 F0
  unfold l_toAccess at hF
  refine au ?_
  refine AbR (fun k1 => ?_)
  refine AnW (fun k2 => ?_)
  iterate 2 refine au ?_
  refine AnW (fun k3 => ?_)
  iterate 5 refine au ?_
  refine As (.agg [(.int .i64 a_a.Method), (.slice none 0 0)].toArray) ?_
  iterate 4 refine au ?_
  obtain ⟨r4, hx5, hF⟩ := bind_some hF
  refine Cx1 (l_toIntS_ok _ _ _ hx5) (fun p6 => ?_)
  refine au ?_
  refine As (.agg [(.int .i64 a_a.Method), p6.1.v].toArray) ?_
  iterate 3 refine au ?_
  refine As (.agg [(.int .i64 a_a.Method), p6.1.v].toArray) ?_
  iterate 2 refine au ?_
  cases hF
  exact Er (p6.1, p6.2)

/-! laws.toStored -/
def l_toStored (a_a : Stored) : Option (Stored) :=
  (l_toAccess a_a.Access).bind fun r4 =>
  (l_toFactS a_a.Facts).bind fun r7 =>
  some ({ Access := r4, Facts := r7, At := a_a.At } : Stored)
theorem l_toStored_ok (a_a : Stored) (v0_1 : Sv) (v0_2 : Sv) (R : Stored) (hF : l_toStored a_a = some R) :
    Fw.Spec Tryz.prog 150 [(.agg [(.int .i64 a_a.Access.Method), v0_1.v, v0_2.v, (.int .i64 a_a.At)].toArray)] [crd (RdS 3 rdInt) v0_1.v a_a.Access.Values, crd (RdS 106 rd106) v0_2.v a_a.Facts] (fun p : Sv × List Nat × Sv × List Nat => (.agg [(.int .i64 R.Access.Method), p.1.v, p.2.2.1.v, (.int .i64 R.At)].toArray)) (fun p => [cown (OwnS 3 (roE rdInt)) p.2.1 p.1.v R.Access.Values, cown (OwnS 114 ow114) p.2.2.2 p.2.2.1.v R.Facts]) := by
  refine Spec_enter (n := 16) Tryz.func150 rfl rfl (rs := [.cell 2 82]) rfl rfl rfl ?_
  intro H0 F0
  unfold l_toStored at hF
  refine au ?_
  refine AbR (fun k1 => ?_)
  refine AnW (fun k2 => ?_)
  iterate 2 refine au ?_
  refine AnW (fun k3 => ?_)
  iterate 3 refine au ?_
  refine C_at (.t (.t .h)) (fun hp => V_loadA (s := 2) (l := [(.int .i64 a_a.Access.Method), v0_1.v]) ag120.h ty120.h.sz (.tmp rfl rfl) hp.2 rfl (by decide) (Nat.le_of_ble_eq_true rfl) rfl) ?_
  obtain ⟨r4, hx5, hF⟩ := bind_some hF
  refine Cx1 (l_toAccess_ok _ _ _ hx5) (fun p6 => ?_)
  refine au ?_
  refine As (.agg [(.int .i64 r4.Method), p6.1.v, (.slice none 0 0), (.int .i64 0)].toArray) ?_
  iterate 4 refine au ?_
  obtain ⟨r7, hx8, hF⟩ := bind_some hF
  refine Cx1 (l_toFactS_ok _ _ _ hx8) (fun p9 => ?_)
  refine au ?_
  refine As (.agg [(.int .i64 r4.Method), p6.1.v, p9.1.v, (.int .i64 0)].toArray) ?_
  iterate 5 refine au ?_
  refine As (.agg [(.int .i64 r4.Method), p6.1.v, p9.1.v, (.int .i64 a_a.At)].toArray) ?_
  iterate 3 refine au ?_
  refine As (.agg [(.int .i64 r4.Method), p6.1.v, p9.1.v, (.int .i64 a_a.At)].toArray) ?_
  iterate 2 refine au ?_
  cases hF
  exact Er (p6.1, p6.2, p9.1, p9.2)

/-! laws.toStoredS -/
def l_toStoredS_L1 : List Stored → Nat → (List Stored) → Option ((List Stored))
  | [], k36, c31 => some c31
  | x38 :: rest37, k36, c31 => (l_toStored x38).bind fun r48 =>
    (chk (decide (0 ≤ (k36 : Int)) && decide ((k36 : Int) < (c31.length : Int)))).bind fun u54 =>
    (some (c31.set ((k36 : Int)).toNat r48)).bind fun z56 =>
    l_toStoredS_L1 rest37 (k36 + 1) z56
def l_toStoredS (a_a : List Stored) : Option ((List Stored)) :=
  (mkz (a_a.length : Int) (({ Access := ({ Method := 0, Values := [] } : Access), Facts := [], At := 0 } : Stored) : Stored)).bind fun z1 =>
  l_toStoredS_L1 a_a 0 z1
theorem l_toStoredS_ok (a_a : List Stored) (v0_0 : Sv) (R : (List Stored)) (hF : l_toStoredS a_a = some R) :
    Fw.Spec Tryz.prog 100 [v0_0.v] [crd (RdS 184 rd184) v0_0.v a_a] (fun p : Sv × List Nat => p.1.v) (fun p => [cown (OwnS 82 ow82) p.2 p.1.v R]) := by
  refine Spec_enter (n := 23) Tryz.func100 rfl rfl (rs := [.tmp 2]) rfl rfl rfl ?_
  intro H0 F0
  unfold l_toStoredS at hF
  iterate 6 refine au ?_
  obtain ⟨z1, hx2, hF⟩ := bind_some hF
  have hm3 := mkz_some hx2
  refine C_new rfl (N_makeSlice (g := true) (c := (a_a.length : Int)) sl43.h ty82.h rfl rfl (by decide) (.tmp rfl rfl) hm3.2.1 hm3.2.2) (fun k4 => ?_)
  refine Cv1 (.cons .h .nil) (own_make (Ro := ow82) (E := 82) (a := (({ Access := ({ Method := 0, Values := [] } : Access), Facts := [], At := 0 } : Stored) : Stored)) hx2 (fun _ => ⟨⟨none, 0, 0⟩, ⟨none, 0, 0⟩, [], [], rfl, rfl, .inl ⟨rfl, rfl, rfl⟩, .inl ⟨rfl, rfl, rfl⟩⟩)) ?_
  iterate 6 refine au ?_
  refine CW_block (CW_loop (m := a_a.length) (fun m34 f' cs' => ∃ (g : Fr) (k36 : Nat) (rest37 : List Stored) (c31 : List Stored) (F32 : List Nat), m34 = rest37.length ∧ f' = updL g [(0, v0_0.v), (3, (.slice (some ⟨k4, 0, none⟩) (a_a.length : Int).toNat 1)), (4, (.int .i64 (k36 : Int)))] ∧ List.drop k36 a_a = rest37 ∧ Ent cs' [crd (RdS 184 rd184) v0_0.v a_a, cown (OwnS 82 ow82) F32 (.slice (some ⟨k4, 0, none⟩) (a_a.length : Int).toNat 1) c31] ∧ l_toStoredS_L1 rest37 k36 c31 = some R) ⟨_, 0, _, _, [k4], rfl, eqA, rfl, entA, hF⟩ ?_)
  clear hF
  rintro m34 _ _ ⟨g35, k36, rest37, c31, F32, rfl, rfl, hd39, hE, hF⟩
  refine K_ent hE ?_
  clear hE
  refine K_pure (c := crd (RdS 184 rd184) v0_0.v a_a) .h crd_bound (fun hbd44 => ?_)
  rcases rest37 with _ | ⟨x38, rest37⟩
  · have hk40 := List.drop_eq_nil_iff.1 hd39
    rw [l_toStoredS_L1] at hF
    iterate 7 refine au ?_
    refine CdF ?_
    iterate 9 refine au ?_
    cases hF
    exact Er (⟨(some ⟨k4, 0, none⟩), (a_a.length : Int).toNat, 1⟩, F32)
  obtain ⟨hk40, hx41, hd42⟩ := drop_cons hd39
  rw [l_toStoredS_L1] at hF
  iterate 7 refine au ?_
  refine CdT ?_
  iterate 7 refine au ?_
  refine Ai hx41 (fun k45 j46 => ?_)
  refine AlA2 (ul184_0_184 x38) la184_0_184 (fun p47 => ?_)
  obtain ⟨r48, hx49, hF⟩ := bind_some hF
  refine Cx2 (l_toStored_ok _ _ _ _ hx49) (fun p50 => ?_)
  obtain ⟨u54, hx55, hF⟩ := bind_some hF
  have hi53 := chk_some hx55
  refine C_idxO sl43.h ty82.h.sz (.tmp rfl rfl) (.tmp rfl rfl) (.t (.t (.t (.t (.t (.t .h)))))) hi53 (fun k51 hk52 => ?_)
  obtain ⟨z56, hx57, hF⟩ := bind_some hF
  replace hx57 := Option.some.inj hx57
  refine C_x1 (.cons (.t (.t (.t (.t (.t (.t .h)))))) (.cons .h (.cons .h .nil))) (X_storeO (Ro := ow82) (a := r48) (i := (k36 : Int)) ty82.h.sz rfl (.tmp rfl rfl) (.tmp rfl rfl) hk52 hi53 mk82 (fun _ _ _ _ h => by obtain ⟨_, _, _, _, rfl, rfl, _⟩ := h; rfl)) (fun F58 => ?_)
  rw [hx57]
  iterate 6 refine au ?_
  rw [wk k36]
  exact ⟨_, Nat.lt_succ_self _, _, k36 + 1, rest37, _, F58, rfl, eqA, hd42, entA, hF⟩

/-! laws.toCache -/
def l_toCache (a_a : Cache) : Option (Cache) :=
  (l_toStoredS a_a.Entries).bind fun r4 =>
  some ({ Entries := r4, Age := a_a.Age } : Cache)
theorem l_toCache_ok (a_a : Cache) (v0_0 : Sv) (R : Cache) (hF : l_toCache a_a = some R) :
    Fw.Spec Tryz.prog 42 [(.agg [v0_0.v, (.int .i64 a_a.Age)].toArray)] [crd (RdS 184 rd184) v0_0.v a_a.Entries] (fun p : Sv × List Nat => (.agg [p.1.v, (.int .i64 R.Age)].toArray)) (fun p => [cown (OwnS 82 ow82) p.2 p.1.v R.Entries]) := by
  refine Spec_enter (n := 12) Tryz.func42 rfl rfl (rs := [.cell 2 45]) rfl rfl rfl ?_
  intro H0 F0
  unfold l_toCache at hF
  refine au ?_
  refine AbR (fun k1 => ?_)
  refine AnW (fun k2 => ?_)
  iterate 2 refine au ?_
  refine AnW (fun k3 => ?_)
  iterate 4 refine au ?_
  obtain ⟨r4, hx5, hF⟩ := bind_some hF
  refine Cx1 (l_toStoredS_ok _ _ _ hx5) (fun p6 => ?_)
  refine au ?_
  refine As (.agg [p6.1.v, (.int .i64 0)].toArray) ?_
  iterate 5 refine au ?_
  refine As (.agg [p6.1.v, (.int .i64 a_a.Age)].toArray) ?_
  iterate 3 refine au ?_
  refine As (.agg [p6.1.v, (.int .i64 a_a.Age)].toArray) ?_
  iterate 2 refine au ?_
  cases hF
  exact Er (p6.1, p6.2)

/-! laws.toAccessS -/
def l_toAccessS_L1 : List Access → Nat → (List Access) → Option ((List Access))
  | [], k36, c31 => some c31
  | x38 :: rest37, k36, c31 => (l_toAccess x38).bind fun r48 =>
    (chk (decide (0 ≤ (k36 : Int)) && decide ((k36 : Int) < (c31.length : Int)))).bind fun u54 =>
    (some (c31.set ((k36 : Int)).toNat r48)).bind fun z56 =>
    l_toAccessS_L1 rest37 (k36 + 1) z56
def l_toAccessS (a_a : List Access) : Option ((List Access)) :=
  (mkz (a_a.length : Int) (({ Method := 0, Values := [] } : Access) : Access)).bind fun z1 =>
  l_toAccessS_L1 a_a 0 z1
theorem l_toAccessS_ok (a_a : List Access) (v0_0 : Sv) (R : (List Access)) (hF : l_toAccessS a_a = some R) :
    Fw.Spec Tryz.prog 43 [v0_0.v] [crd (RdS 120 rd120) v0_0.v a_a] (fun p : Sv × List Nat => p.1.v) (fun p => [cown (OwnS 80 ow80) p.2 p.1.v R]) := by
  refine Spec_enter (n := 23) Tryz.func43 rfl rfl (rs := [.tmp 2]) rfl rfl rfl ?_
  intro H0 F0
  unfold l_toAccessS at hF
  iterate 6 refine au ?_
  obtain ⟨z1, hx2, hF⟩ := bind_some hF
  have hm3 := mkz_some hx2
  refine C_new rfl (N_makeSlice (g := true) (c := (a_a.length : Int)) sl46.h ty80.h rfl rfl (by decide) (.tmp rfl rfl) hm3.2.1 hm3.2.2) (fun k4 => ?_)
  refine Cv1 (.cons .h .nil) (own_make (Ro := ow80) (E := 80) (a := (({ Method := 0, Values := [] } : Access) : Access)) hx2 (fun _ => ⟨⟨none, 0, 0⟩, [], rfl, rfl, .inl ⟨rfl, rfl, rfl⟩⟩)) ?_
  iterate 6 refine au ?_
  refine CW_block (CW_loop (m := a_a.length) (fun m34 f' cs' => ∃ (g : Fr) (k36 : Nat) (rest37 : List Access) (c31 : List Access) (F32 : List Nat), m34 = rest37.length ∧ f' = updL g [(0, v0_0.v), (3, (.slice (some ⟨k4, 0, none⟩) (a_a.length : Int).toNat 1)), (4, (.int .i64 (k36 : Int)))] ∧ List.drop k36 a_a = rest37 ∧ Ent cs' [crd (RdS 120 rd120) v0_0.v a_a, cown (OwnS 80 ow80) F32 (.slice (some ⟨k4, 0, none⟩) (a_a.length : Int).toNat 1) c31] ∧ l_toAccessS_L1 rest37 k36 c31 = some R) ⟨_, 0, _, _, [k4], rfl, eqA, rfl, entA, hF⟩ ?_)
  clear hF
  rintro m34 _ _ ⟨g35, k36, rest37, c31, F32, rfl, rfl, hd39, hE, hF⟩
  refine K_ent hE ?_
  clear hE
  refine K_pure (c := crd (RdS 120 rd120) v0_0.v a_a) .h crd_bound (fun hbd44 => ?_)
  rcases rest37 with _ | ⟨x38, rest37⟩
  · have hk40 := List.drop_eq_nil_iff.1 hd39
    rw [l_toAccessS_L1] at hF
    iterate 7 refine au ?_
    refine CdF ?_
    iterate 9 refine au ?_
    cases hF
    exact Er (⟨(some ⟨k4, 0, none⟩), (a_a.length : Int).toNat, 1⟩, F32)
  obtain ⟨hk40, hx41, hd42⟩ := drop_cons hd39
  rw [l_toAccessS_L1] at hF
  iterate 7 refine au ?_
  refine CdT ?_
  iterate 7 refine au ?_
  refine Ai hx41 (fun k45 j46 => ?_)
  refine AlA1 (ul120_0_120 x38) la120_0_120 (fun p47 => ?_)
  obtain ⟨r48, hx49, hF⟩ := bind_some hF
  refine Cx1 (l_toAccess_ok _ _ _ hx49) (fun p50 => ?_)
  obtain ⟨u54, hx55, hF⟩ := bind_some hF
  have hi53 := chk_some hx55
  refine C_idxO sl46.h ty80.h.sz (.tmp rfl rfl) (.tmp rfl rfl) (.t (.t (.t (.t .h)))) hi53 (fun k51 hk52 => ?_)
  obtain ⟨z56, hx57, hF⟩ := bind_some hF
  replace hx57 := Option.some.inj hx57
  refine C_x1 (.cons (.t (.t (.t (.t .h)))) (.cons .h .nil)) (X_storeO (Ro := ow80) (a := r48) (i := (k36 : Int)) ty80.h.sz rfl (.tmp rfl rfl) (.tmp rfl rfl) hk52 hi53 mk80 (fun _ _ _ _ h => by obtain ⟨_, _, rfl, rfl, _⟩ := h; rfl)) (fun F58 => ?_)
  rw [hx57]
  iterate 6 refine au ?_
  rw [wk k36]
  exact ⟨_, Nat.lt_succ_self _, _, k36 + 1, rest37, _, F58, rfl, eqA, hd42, entA, hF⟩

/-! laws.toIntSS -/
def l_toIntSS_L1 : List (List Int) → Nat → (List (List Int)) → Option ((List (List Int)))
  | [], k36, c31 => some c31
  | x38 :: rest37, k36, c31 => (l_toIntS x38).bind fun r48 =>
    (chk (decide (0 ≤ (k36 : Int)) && decide ((k36 : Int) < (c31.length : Int)))).bind fun u54 =>
    (some (c31.set ((k36 : Int)).toNat r48)).bind fun z56 =>
    l_toIntSS_L1 rest37 (k36 + 1) z56
def l_toIntSS (a_a : List (List Int)) : Option ((List (List Int))) :=
  (mkz (a_a.length : Int) ([] : List Int)).bind fun z1 =>
  l_toIntSS_L1 a_a 0 z1
theorem l_toIntSS_ok (a_a : List (List Int)) (v0_0 : Sv) (R : (List (List Int))) (hF : l_toIntSS a_a = some R) :
    Fw.Spec Tryz.prog 102 [v0_0.v] [crd (RdS 22 (RdS 3 rdInt)) v0_0.v a_a] (fun p : Sv × List Nat => p.1.v) (fun p => [cown (OwnS 22 (OwnS 3 (roE rdInt))) p.2 p.1.v R]) := by
  refine Spec_enter (n := 23) Tryz.func102 rfl rfl (rs := [.tmp 2]) rfl rfl rfl ?_
  intro H0 F0
  unfold l_toIntSS at hF
  iterate 6 refine au ?_
  obtain ⟨z1, hx2, hF⟩ := bind_some hF
  have hm3 := mkz_some hx2
  refine C_new rfl (N_makeSlice (g := true) (c := (a_a.length : Int)) sl139.h ty22.h rfl rfl (by decide) (.tmp rfl rfl) hm3.2.1 hm3.2.2) (fun k4 => ?_)
  refine Cv1 (.cons .h .nil) (own_make (Ro := (OwnS 3 (roE rdInt))) (E := 22) (a := ([] : List Int)) hx2 (fun _ => (.inl ⟨rfl, rfl, rfl⟩))) ?_
  iterate 6 refine au ?_
  refine CW_block (CW_loop (m := a_a.length) (fun m34 f' cs' => ∃ (g : Fr) (k36 : Nat) (rest37 : List (List Int)) (c31 : List (List Int)) (F32 : List Nat), m34 = rest37.length ∧ f' = updL g [(0, v0_0.v), (3, (.slice (some ⟨k4, 0, none⟩) (a_a.length : Int).toNat 1)), (4, (.int .i64 (k36 : Int)))] ∧ List.drop k36 a_a = rest37 ∧ Ent cs' [crd (RdS 22 (RdS 3 rdInt)) v0_0.v a_a, cown (OwnS 22 (OwnS 3 (roE rdInt))) F32 (.slice (some ⟨k4, 0, none⟩) (a_a.length : Int).toNat 1) c31] ∧ l_toIntSS_L1 rest37 k36 c31 = some R) ⟨_, 0, _, _, [k4], rfl, eqA, rfl, entA, hF⟩ ?_)
  clear hF
  rintro m34 _ _ ⟨g35, k36, rest37, c31, F32, rfl, rfl, hd39, hE, hF⟩
  refine K_ent hE ?_
  clear hE
  refine K_pure (c := crd (RdS 22 (RdS 3 rdInt)) v0_0.v a_a) .h crd_bound (fun hbd44 => ?_)
  rcases rest37 with _ | ⟨x38, rest37⟩
  · have hk40 := List.drop_eq_nil_iff.1 hd39
    rw [l_toIntSS_L1] at hF
    iterate 7 refine au ?_
    refine CdF ?_
    iterate 9 refine au ?_
    cases hF
    exact Er (⟨(some ⟨k4, 0, none⟩), (a_a.length : Int).toNat, 1⟩, F32)
  obtain ⟨hk40, hx41, hd42⟩ := drop_cons hd39
  rw [l_toIntSS_L1] at hF
  iterate 7 refine au ?_
  refine CdT ?_
  iterate 7 refine au ?_
  refine Ai hx41 (fun k45 j46 => ?_)
  refine C_ldV (R' := (RdS 3 rdInt)) ag22.h (.tmp rfl rfl) .h lv22_0 (fun w47 => ?_)
  obtain ⟨r48, hx49, hF⟩ := bind_some hF
  refine Cx1 (l_toIntS_ok _ _ _ hx49) (fun p50 => ?_)
  obtain ⟨u54, hx55, hF⟩ := bind_some hF
  have hi53 := chk_some hx55
  refine C_idxO sl139.h ty22.h.sz (.tmp rfl rfl) (.tmp rfl rfl) (.t (.t (.t (.t .h)))) hi53 (fun k51 hk52 => ?_)
  obtain ⟨z56, hx57, hF⟩ := bind_some hF
  replace hx57 := Option.some.inj hx57
  refine C_x1 (.cons (.t (.t (.t (.t .h)))) (.cons .h .nil)) (X_storeO (Ro := (OwnS 3 (roE rdInt))) (a := r48) (i := (k36 : Int)) ty22.h.sz rfl (.tmp rfl rfl) (.tmp rfl rfl) hk52 hi53 Mk_own (fun _ _ _ _ h => by obtain ⟨_, _, rfl⟩ := OwnS.len h; rfl)) (fun F58 => ?_)
  rw [hx57]
  iterate 6 refine au ?_
  rw [wk k36]
  exact ⟨_, Nat.lt_succ_self _, _, k36 + 1, rest37, _, F58, rfl, eqA, hd42, entA, hF⟩

/-! laws.toIntSSS -/
def l_toIntSSS_L1 : List (List (List Int)) → Nat → (List (List (List Int))) → Option ((List (List (List Int))))
  | [], k36, c31 => some c31
  | x38 :: rest37, k36, c31 => (l_toIntSS x38).bind fun r48 =>
    (chk (decide (0 ≤ (k36 : Int)) && decide ((k36 : Int) < (c31.length : Int)))).bind fun u54 =>
    (some (c31.set ((k36 : Int)).toNat r48)).bind fun z56 =>
    l_toIntSSS_L1 rest37 (k36 + 1) z56
def l_toIntSSS (a_a : List (List (List Int))) : Option ((List (List (List Int)))) :=
  (mkz (a_a.length : Int) ([] : List (List Int))).bind fun z1 =>
  l_toIntSSS_L1 a_a 0 z1
theorem l_toIntSSS_ok (a_a : List (List (List Int))) (v0_0 : Sv) (R : (List (List (List Int)))) (hF : l_toIntSSS a_a = some R) :
    Fw.Spec Tryz.prog 44 [v0_0.v] [crd (RdS 139 (RdS 22 (RdS 3 rdInt))) v0_0.v a_a] (fun p : Sv × List Nat => p.1.v) (fun p => [cown (OwnS 139 (OwnS 22 (OwnS 3 (roE rdInt)))) p.2 p.1.v R]) := by
  refine Spec_enter (n := 23) Tryz.func44 rfl rfl (rs := [.tmp 2]) rfl rfl rfl ?_
  intro H0 F0
  unfold l_toIntSSS at hF
  iterate 6 refine au ?_
  obtain ⟨z1, hx2, hF⟩ := bind_some hF
  have hm3 := mkz_some hx2
  refine C_new rfl (N_makeSlice (g := true) (c := (a_a.length : Int)) sl32.h ty139.h rfl rfl (by decide) (.tmp rfl rfl) hm3.2.1 hm3.2.2) (fun k4 => ?_)
  refine Cv1 (.cons .h .nil) (own_make (Ro := (OwnS 22 (OwnS 3 (roE rdInt)))) (E := 139) (a := ([] : List (List Int))) hx2 (fun _ => (.inl ⟨rfl, rfl, rfl⟩))) ?_
  iterate 6 refine au ?_
  refine CW_block (CW_loop (m := a_a.length) (fun m34 f' cs' => ∃ (g : Fr) (k36 : Nat) (rest37 : List (List (List Int))) (c31 : List (List (List Int))) (F32 : List Nat), m34 = rest37.length ∧ f' = updL g [(0, v0_0.v), (3, (.slice (some ⟨k4, 0, none⟩) (a_a.length : Int).toNat 1)), (4, (.int .i64 (k36 : Int)))] ∧ List.drop k36 a_a = rest37 ∧ Ent cs' [crd (RdS 139 (RdS 22 (RdS 3 rdInt))) v0_0.v a_a, cown (OwnS 139 (OwnS 22 (OwnS 3 (roE rdInt)))) F32 (.slice (some ⟨k4, 0, none⟩) (a_a.length : Int).toNat 1) c31] ∧ l_toIntSSS_L1 rest37 k36 c31 = some R) ⟨_, 0, _, _, [k4], rfl, eqA, rfl, entA, hF⟩ ?_)
  clear hF
  rintro m34 _ _ ⟨g35, k36, rest37, c31, F32, rfl, rfl, hd39, hE, hF⟩
  refine K_ent hE ?_
  clear hE
  refine K_pure (c := crd (RdS 139 (RdS 22 (RdS 3 rdInt))) v0_0.v a_a) .h crd_bound (fun hbd44 => ?_)
  rcases rest37 with _ | ⟨x38, rest37⟩
  · have hk40 := List.drop_eq_nil_iff.1 hd39
    rw [l_toIntSSS_L1] at hF
    iterate 7 refine au ?_
    refine CdF ?_
    iterate 9 refine au ?_
    cases hF
    exact Er (⟨(some ⟨k4, 0, none⟩), (a_a.length : Int).toNat, 1⟩, F32)
  obtain ⟨hk40, hx41, hd42⟩ := drop_cons hd39
  rw [l_toIntSSS_L1] at hF
  iterate 7 refine au ?_
  refine CdT ?_
  iterate 7 refine au ?_
  refine Ai hx41 (fun k45 j46 => ?_)
  refine C_ldV (R' := (RdS 22 (RdS 3 rdInt))) ag139.h (.tmp rfl rfl) .h lv139_0 (fun w47 => ?_)
  obtain ⟨r48, hx49, hF⟩ := bind_some hF
  refine Cx1 (l_toIntSS_ok _ _ _ hx49) (fun p50 => ?_)
  obtain ⟨u54, hx55, hF⟩ := bind_some hF
  have hi53 := chk_some hx55
  refine C_idxO sl32.h ty139.h.sz (.tmp rfl rfl) (.tmp rfl rfl) (.t (.t (.t (.t .h)))) hi53 (fun k51 hk52 => ?_)
  obtain ⟨z56, hx57, hF⟩ := bind_some hF
  replace hx57 := Option.some.inj hx57
  refine C_x1 (.cons (.t (.t (.t (.t .h)))) (.cons .h .nil)) (X_storeO (Ro := (OwnS 22 (OwnS 3 (roE rdInt)))) (a := r48) (i := (k36 : Int)) ty139.h.sz rfl (.tmp rfl rfl) (.tmp rfl rfl) hk52 hi53 Mk_own (fun _ _ _ _ h => by obtain ⟨_, _, rfl⟩ := OwnS.len h; rfl)) (fun F58 => ?_)
  rw [hx57]
  iterate 6 refine au ?_
  rw [wk k36]
  exact ⟨_, Nat.lt_succ_self _, _, k36 + 1, rest37, _, F58, rfl, eqA, hd42, entA, hF⟩

/-! laws.toMediator -/
def l_toMediator (a_a : Mediator) : Option (Mediator) :=
  (l_toIntS a_a.Schema).bind fun r4 =>
  (l_toMethodS a_a.Methods).bind fun r7 =>
  (l_toRuleS a_a.Rules).bind fun r10 =>
  (l_toSource a_a.Source).bind fun r13 =>
  (l_toCache a_a.Cache).bind fun r16 =>
  (l_toAccessS a_a.Log).bind fun r19 =>
  (l_toIntS a_a.Times).bind fun r22 =>
  (l_toIntSSS a_a.Results).bind fun r25 =>
  some ({ Schema := r4, Methods := r7, Rules := r10, Source := r13, Cache := r16, Now := a_a.Now, Log := r19, Times := r22, Spent := a_a.Spent, Results := r25 } : Mediator)
theorem l_toMediator_ok (a_a : Mediator) (v0_0 : Sv) (v0_1 : Sv) (v0_2 : Sv) (v0_3 : Sv) (v0_5 : Sv) (v0_8 : Sv) (v0_9 : Sv) (v0_11 : Sv) (R : Mediator) (hF : l_toMediator a_a = some R) :
    Fw.Spec Tryz.prog 8 [(.agg [v0_0.v, v0_1.v, v0_2.v, v0_3.v, (.int .i64 a_a.Source.Version), v0_5.v, (.int .i64 a_a.Cache.Age), (.int .i64 a_a.Now), v0_8.v, v0_9.v, (.int .i64 a_a.Spent), v0_11.v].toArray)] [crd (RdS 3 rdInt) v0_0.v a_a.Schema, crd (RdS 103 rd103) v0_1.v a_a.Methods, crd (RdS 135 rd135) v0_2.v a_a.Rules, crd (RdS 106 rd106) v0_3.v a_a.Source.Facts, crd (RdS 184 rd184) v0_5.v a_a.Cache.Entries, crd (RdS 120 rd120) v0_8.v a_a.Log, crd (RdS 3 rdInt) v0_9.v a_a.Times, crd (RdS 139 (RdS 22 (RdS 3 rdInt))) v0_11.v a_a.Results] (fun p : Sv × List Nat × Sv × List Nat × Sv × List Nat × Sv × List Nat × Sv × List Nat × Sv × List Nat × Sv × List Nat × Sv × List Nat => (.agg [p.1.v, p.2.2.1.v, p.2.2.2.2.1.v, p.2.2.2.2.2.2.1.v, (.int .i64 R.Source.Version), p.2.2.2.2.2.2.2.2.1.v, (.int .i64 R.Cache.Age), (.int .i64 R.Now), p.2.2.2.2.2.2.2.2.2.2.1.v, p.2.2.2.2.2.2.2.2.2.2.2.2.1.v, (.int .i64 R.Spent), p.2.2.2.2.2.2.2.2.2.2.2.2.2.2.1.v].toArray)) (fun p => [cown (OwnS 3 (roE rdInt)) p.2.1 p.1.v R.Schema, cown (OwnS 112 ow112) p.2.2.2.1 p.2.2.1.v R.Methods, cown (OwnS 148 ow148) p.2.2.2.2.2.1 p.2.2.2.2.1.v R.Rules, cown (OwnS 114 ow114) p.2.2.2.2.2.2.2.1 p.2.2.2.2.2.2.1.v R.Source.Facts, cown (OwnS 82 ow82) p.2.2.2.2.2.2.2.2.2.1 p.2.2.2.2.2.2.2.2.1.v R.Cache.Entries, cown (OwnS 80 ow80) p.2.2.2.2.2.2.2.2.2.2.2.1 p.2.2.2.2.2.2.2.2.2.2.1.v R.Log, cown (OwnS 3 (roE rdInt)) p.2.2.2.2.2.2.2.2.2.2.2.2.2.1 p.2.2.2.2.2.2.2.2.2.2.2.2.1.v R.Times, cown (OwnS 139 (OwnS 22 (OwnS 3 (roE rdInt)))) p.2.2.2.2.2.2.2.2.2.2.2.2.2.2.2 p.2.2.2.2.2.2.2.2.2.2.2.2.2.2.1.v R.Results]) := by
  refine Spec_enter (n := 43) Tryz.func8 rfl rfl (rs := [.cell 2 48]) rfl rfl rfl ?_
  intro H0 F0
  unfold l_toMediator at hF
  refine au ?_
  refine AbR (fun k1 => ?_)
  refine AnW (fun k2 => ?_)
  iterate 2 refine au ?_
  refine AnW (fun k3 => ?_)
  iterate 4 refine au ?_
  obtain ⟨r4, hx5, hF⟩ := bind_some hF
  refine Cx1 (l_toIntS_ok _ _ _ hx5) (fun p6 => ?_)
  refine au ?_
  refine As (.agg [p6.1.v, (.slice none 0 0), (.slice none 0 0), (.slice none 0 0), (.int .i64 0), (.slice none 0 0), (.int .i64 0), (.int .i64 0), (.slice none 0 0), (.slice none 0 0), (.int .i64 0), (.slice none 0 0)].toArray) ?_
  iterate 4 refine au ?_
  obtain ⟨r7, hx8, hF⟩ := bind_some hF
  refine Cx1 (l_toMethodS_ok _ _ _ hx8) (fun p9 => ?_)
  refine au ?_
  refine As (.agg [p6.1.v, p9.1.v, (.slice none 0 0), (.slice none 0 0), (.int .i64 0), (.slice none 0 0), (.int .i64 0), (.int .i64 0), (.slice none 0 0), (.slice none 0 0), (.int .i64 0), (.slice none 0 0)].toArray) ?_
  iterate 4 refine au ?_
  obtain ⟨r10, hx11, hF⟩ := bind_some hF
  refine Cx1 (l_toRuleS_ok _ _ _ hx11) (fun p12 => ?_)
  refine au ?_
  refine As (.agg [p6.1.v, p9.1.v, p12.1.v, (.slice none 0 0), (.int .i64 0), (.slice none 0 0), (.int .i64 0), (.int .i64 0), (.slice none 0 0), (.slice none 0 0), (.int .i64 0), (.slice none 0 0)].toArray) ?_
  iterate 3 refine au ?_
  refine C_at (.t (.t (.t (.t (.t .h))))) (fun hp => V_loadA (s := 2) (l := [v0_3.v, (.int .i64 a_a.Source.Version)]) ag27.h ty27.h.sz (.tmp rfl rfl) hp.2 rfl (by decide) (Nat.le_of_ble_eq_true rfl) rfl) ?_
  obtain ⟨r13, hx14, hF⟩ := bind_some hF
  refine Cx1 (l_toSource_ok _ _ _ hx14) (fun p15 => ?_)
  refine au ?_
  refine As (.agg [p6.1.v, p9.1.v, p12.1.v, p15.1.v, (.int .i64 r13.Version), (.slice none 0 0), (.int .i64 0), (.int .i64 0), (.slice none 0 0), (.slice none 0 0), (.int .i64 0), (.slice none 0 0)].toArray) ?_
  iterate 3 refine au ?_
  refine C_at (.t (.t (.t (.t (.t (.t .h)))))) (fun hp => V_loadA (s := 2) (l := [v0_5.v, (.int .i64 a_a.Cache.Age)]) ag30.h ty30.h.sz (.tmp rfl rfl) hp.2 rfl (by decide) (Nat.le_of_ble_eq_true rfl) rfl) ?_
  obtain ⟨r16, hx17, hF⟩ := bind_some hF
  refine Cx1 (l_toCache_ok _ _ _ hx17) (fun p18 => ?_)
  refine au ?_
  refine As (.agg [p6.1.v, p9.1.v, p12.1.v, p15.1.v, (.int .i64 r13.Version), p18.1.v, (.int .i64 r16.Age), (.int .i64 0), (.slice none 0 0), (.slice none 0 0), (.int .i64 0), (.slice none 0 0)].toArray) ?_
  iterate 5 refine au ?_
  refine As (.agg [p6.1.v, p9.1.v, p12.1.v, p15.1.v, (.int .i64 r13.Version), p18.1.v, (.int .i64 r16.Age), (.int .i64 a_a.Now), (.slice none 0 0), (.slice none 0 0), (.int .i64 0), (.slice none 0 0)].toArray) ?_
  iterate 4 refine au ?_
  obtain ⟨r19, hx20, hF⟩ := bind_some hF
  refine Cx1 (l_toAccessS_ok _ _ _ hx20) (fun p21 => ?_)
  refine au ?_
  refine As (.agg [p6.1.v, p9.1.v, p12.1.v, p15.1.v, (.int .i64 r13.Version), p18.1.v, (.int .i64 r16.Age), (.int .i64 a_a.Now), p21.1.v, (.slice none 0 0), (.int .i64 0), (.slice none 0 0)].toArray) ?_
  iterate 4 refine au ?_
  obtain ⟨r22, hx23, hF⟩ := bind_some hF
  refine Cx1 (l_toIntS_ok _ _ _ hx23) (fun p24 => ?_)
  refine au ?_
  refine As (.agg [p6.1.v, p9.1.v, p12.1.v, p15.1.v, (.int .i64 r13.Version), p18.1.v, (.int .i64 r16.Age), (.int .i64 a_a.Now), p21.1.v, p24.1.v, (.int .i64 0), (.slice none 0 0)].toArray) ?_
  iterate 5 refine au ?_
  refine As (.agg [p6.1.v, p9.1.v, p12.1.v, p15.1.v, (.int .i64 r13.Version), p18.1.v, (.int .i64 r16.Age), (.int .i64 a_a.Now), p21.1.v, p24.1.v, (.int .i64 a_a.Spent), (.slice none 0 0)].toArray) ?_
  iterate 4 refine au ?_
  obtain ⟨r25, hx26, hF⟩ := bind_some hF
  refine Cx1 (l_toIntSSS_ok _ _ _ hx26) (fun p27 => ?_)
  refine au ?_
  refine As (.agg [p6.1.v, p9.1.v, p12.1.v, p15.1.v, (.int .i64 r13.Version), p18.1.v, (.int .i64 r16.Age), (.int .i64 a_a.Now), p21.1.v, p24.1.v, (.int .i64 a_a.Spent), p27.1.v].toArray) ?_
  iterate 3 refine au ?_
  refine As (.agg [p6.1.v, p9.1.v, p12.1.v, p15.1.v, (.int .i64 r13.Version), p18.1.v, (.int .i64 r16.Age), (.int .i64 a_a.Now), p21.1.v, p24.1.v, (.int .i64 a_a.Spent), p27.1.v].toArray) ?_
  iterate 2 refine au ?_
  cases hF
  exact Er (p6.1, p6.2, p9.1, p9.2, p12.1, p12.2, p15.1, p15.2, p18.1, p18.2, p21.1, p21.2, p24.1, p24.2, p27.1, p27.2)

/-! spec.l1In -/
def s_l1In (a_x : Int) (a_low : Int) (a_high : Int) : Option (Bool) :=
  some ((decide ((a_low : Int) ≤ a_x)) && (decide ((a_x : Int) ≤ a_high)))
theorem s_l1In_ok (a_x : Int) (a_low : Int) (a_high : Int) (R : Bool) (hF : s_l1In a_x a_low a_high = some R) :
    Fw.Spec Tryz.prog 96 [(.int .i64 a_x), (.int .i64 a_low), (.int .i64 a_high)] [] (fun _ : Unit => (.bool R)) (fun _ => []) := by
  refine Spec_enter (n := 15) Tryz.func96 rfl rfl (rs := [.tmp 6]) rfl rfl rfl ?_
  intro H0 F0
  unfold s_l1In at hF
  iterate 4 refine au ?_
  refine C_cut (fun f' cs' => ∃ (g : Fr), f' = updL g [(6, (.bool ((decide ((a_low : Int) ≤ a_x)) && (decide ((a_x : Int) ≤ a_high)))))] ∧ Ent cs' []) ?_ ?_
  · iterate 4 refine au ?_
    rcases Bool.eq_false_or_eq_true (decide ((a_low : Int) ≤ a_x)) with hg1 | hg1
    · rw [hg1]
      try rw [hg1] at hF; dsimp only [cond_true, cond_false] at hF
      iterate 9 refine au ?_
      exact ⟨_, eqA, entA⟩
    rw [hg1]
    try rw [hg1] at hF; dsimp only [cond_true, cond_false] at hF
    iterate 6 refine au ?_
    exact ⟨_, eqA, entA⟩
  rintro _ _ ⟨g2, rfl, hE⟩
  refine K_ent hE ?_
  refine au ?_
  cases hF
  exact Er ()

/-! spec.IsSchema -/
def s_IsSchema_L1 (a_s : List Int) : List Int → Nat → Option (Bool)
  | [], k4 => (s_l1In (a_s.length : Int) 1 3).bind fun r13 =>
    some r13
  | x6 :: rest5, k4 => (s_l1In x6 1 3).bind fun r18 =>
    if (!r18) then (
      some false)
    else (
      s_IsSchema_L1 a_s rest5 (k4 + 1))
def s_IsSchema (a_s : List Int) : Option (Bool) :=
  s_IsSchema_L1 a_s a_s 0
theorem s_IsSchema_ok (a_s : List Int) (v0_0 : Sv) (R : Bool) (hF : s_IsSchema a_s = some R) :
    Fw.Spec Tryz.prog 91 [v0_0.v] [crd (RdS 3 rdInt) v0_0.v a_s] (fun _ : Unit => (.bool R)) (fun _ => []) := by
  refine Spec_enter (n := 19) Tryz.func91 rfl rfl (rs := [.tmp 2]) rfl rfl rfl ?_
  intro H0 F0
  unfold s_IsSchema at hF
  iterate 7 refine au ?_
  refine CW_block (CW_loop (m := a_s.length) (fun m2 f' cs' => ∃ (g : Fr) (k4 : Nat) (rest5 : List Int), m2 = rest5.length ∧ f' = updL g [(0, v0_0.v), (3, (.int .i64 (k4 : Int)))] ∧ List.drop k4 a_s = rest5 ∧ Ent cs' [crd (RdS 3 rdInt) v0_0.v a_s] ∧ s_IsSchema_L1 a_s rest5 k4 = some R) ⟨_, 0, _, rfl, eqA, rfl, entA, hF⟩ ?_)
  clear hF
  rintro m2 _ _ ⟨g3, k4, rest5, rfl, rfl, hd7, hE, hF⟩
  refine K_ent hE ?_
  clear hE
  refine K_pure (c := crd (RdS 3 rdInt) v0_0.v a_s) .h crd_bound (fun hbd12 => ?_)
  rcases rest5 with _ | ⟨x6, rest5⟩
  · have hk8 := List.drop_eq_nil_iff.1 hd7
    rw [s_IsSchema_L1] at hF
    iterate 7 refine au ?_
    refine CdF ?_
    iterate 7 refine au ?_
    obtain ⟨r13, hx14, hF⟩ := bind_some hF
    refine Cx0 (s_l1In_ok _ _ _ _ hx14) (fun _ => ?_)
    iterate 3 refine au ?_
    cases hF
    exact Er ()
  obtain ⟨hk8, hx9, hd10⟩ := drop_cons hd7
  rw [s_IsSchema_L1] at hF
  iterate 7 refine au ?_
  refine CdT ?_
  iterate 5 refine au ?_
  refine Ai hx9 (fun k16 j17 => ?_)
  refine Al ls3_0 ?_
  obtain ⟨r18, hx19, hF⟩ := bind_some hF
  refine Cx0 (s_l1In_ok _ _ _ _ hx19) (fun _ => ?_)
  iterate 2 refine au ?_
  refine Cc (fun hb22 => ?_) (fun hb22 => ?_)
  · rw [if_pos hb22] at hF
    iterate 4 refine au ?_
    cases hF
    exact Er ()
  rw [if_neg (nt hb22)] at hF
  iterate 6 refine au ?_
  rw [wk k4]
  exact ⟨_, Nat.lt_succ_self _, _, k4 + 1, rest5, rfl, eqA, hd10, entA, hF⟩

/-! spec.IsMethod -/
def s_IsMethod_L1 (a_s : List Int) (a_m : Method) : List Int → Nat → Option (Bool)
  | [], k27 => some true
  | x29 :: rest28, k27 => ((ix a_s a_m.Rel).bind fun x40 =>
      (s_l1In x29 0 (IntKind.i64.wrap (x40 - 1))).bind fun r46 =>
      bif (!r46) then (some true)
      else (bif (decide ((0 : Int) < (k27 : Int))) then ((ix a_m.Inputs (IntKind.i64.wrap ((k27 : Int) - 1))).bind fun x53 =>
          some (decide ((x29 : Int) ≤ x53)))
        else (some false))).bind fun o36 =>
    match o36 with
    | c59 => if c59 then (
        some false)
      else (
        s_IsMethod_L1 a_s a_m rest28 (k27 + 1))
def s_IsMethod (a_s : List Int) (a_m : Method) : Option (Bool) :=
  ((s_IsSchema a_s).bind fun r4 =>
    bif (!r4) then (some true)
    else ((s_l1In a_m.Rel 0 (IntKind.i64.wrap ((a_s.length : Int) - 1))).bind fun r8 =>
      bif (!r8) then (some true)
      else ((s_l1In a_m.Limit 0 9).bind fun r12 =>
        bif (!r12) then (some true)
        else ((s_l1In a_m.Cost 0 99).bind fun r16 =>
          bif (!r16) then (some true)
          else ((s_l1In a_m.Quota 1 99).bind fun r20 =>
            some (!r20)))))).bind fun o2 =>
  match o2 with
  | c23 => if c23 then (
      some false)
    else (
      s_IsMethod_L1 a_s a_m a_m.Inputs 0)
theorem s_IsMethod_ok (a_s : List Int) (v0_0 : Sv) (a_m : Method) (v1_1 : Sv) (R : Bool) (hF : s_IsMethod a_s a_m = some R) :
    Fw.Spec Tryz.prog 123 [v0_0.v, (.agg [(.int .i64 a_m.Rel), v1_1.v, (.int .i64 a_m.Limit), (.int .i64 a_m.Cost), (.int .i64 a_m.Quota)].toArray)] [crd (RdS 3 rdInt) v0_0.v a_s, crd (RdS 3 rdInt) v1_1.v a_m.Inputs] (fun _ : Unit => (.bool R)) (fun _ => []) := by
  refine Spec_enter (n := 74) Tryz.func123 rfl rfl (rs := [.tmp 4]) rfl rfl rfl ?_
  intro H0 F0
  unfold s_IsMethod at hF
  refine au ?_
  refine AbR (fun k1 => ?_)
  iterate 3 refine au ?_
  obtain ⟨o2, hio2, hO3⟩ := bind_some hF
  refine au ?_
  refine C_cut (fun f' cs' => ∃ (c23 : Bool) (g : Fr), c23 = o2 ∧ f' = updL g [(0, v0_0.v), (3, (.pointer (some ⟨k1, 0, some 0⟩))), (35, (.bool c23))] ∧ Ent cs' [crd (RdS 3 rdInt) v0_0.v a_s, cboR k1 112 (.agg [(.int .i64 a_m.Rel), v1_1.v, (.int .i64 a_m.Limit), (.int .i64 a_m.Cost), (.int .i64 a_m.Quota)].toArray), crd (RdS 3 rdInt) v1_1.v a_m.Inputs]) ?_ ?_
  · replace hF := hio2
    refine au ?_
    obtain ⟨r4, hx5, hF⟩ := bind_some hF
    refine Cx0 (s_IsSchema_ok _ _ _ hx5) (fun _ => ?_)
    iterate 2 refine au ?_
    rcases Bool.eq_false_or_eq_true (!r4) with hg7 | hg7
    · rw [hg7]
      try rw [hg7] at hF; dsimp only [cond_true, cond_false] at hF
      iterate 27 refine au ?_
      cases hF
      exact ⟨_, _, rfl, eqA, entA⟩
    rw [hg7]
    try rw [hg7] at hF; dsimp only [cond_true, cond_false] at hF
    iterate 11 refine au ?_
    obtain ⟨r8, hx9, hF⟩ := bind_some hF
    refine Cx0 (s_l1In_ok _ _ _ _ hx9) (fun _ => ?_)
    iterate 4 refine au ?_
    rcases Bool.eq_false_or_eq_true (!r8) with hg11 | hg11
    · rw [hg11]
      try rw [hg11] at hF; dsimp only [cond_true, cond_false] at hF
      iterate 18 refine au ?_
      cases hF
      exact ⟨_, _, rfl, eqA, entA⟩
    rw [hg11]
    try rw [hg11] at hF; dsimp only [cond_true, cond_false] at hF
    iterate 5 refine au ?_
    obtain ⟨r12, hx13, hF⟩ := bind_some hF
    refine Cx0 (s_l1In_ok _ _ _ _ hx13) (fun _ => ?_)
    iterate 4 refine au ?_
    rcases Bool.eq_false_or_eq_true (!r12) with hg15 | hg15
    · rw [hg15]
      try rw [hg15] at hF; dsimp only [cond_true, cond_false] at hF
      iterate 12 refine au ?_
      cases hF
      exact ⟨_, _, rfl, eqA, entA⟩
    rw [hg15]
    try rw [hg15] at hF; dsimp only [cond_true, cond_false] at hF
    iterate 5 refine au ?_
    obtain ⟨r16, hx17, hF⟩ := bind_some hF
    refine Cx0 (s_l1In_ok _ _ _ _ hx17) (fun _ => ?_)
    iterate 4 refine au ?_
    rcases Bool.eq_false_or_eq_true (!r16) with hg19 | hg19
    · rw [hg19]
      try rw [hg19] at hF; dsimp only [cond_true, cond_false] at hF
      iterate 6 refine au ?_
      cases hF
      exact ⟨_, _, rfl, eqA, entA⟩
    rw [hg19]
    try rw [hg19] at hF; dsimp only [cond_true, cond_false] at hF
    iterate 5 refine au ?_
    obtain ⟨r20, hx21, hF⟩ := bind_some hF
    refine Cx0 (s_l1In_ok _ _ _ _ hx21) (fun _ => ?_)
    iterate 4 refine au ?_
    cases hF
    exact ⟨_, _, rfl, eqA, entA⟩
  rintro _ _ ⟨c23, g64, rfl, rfl, hE⟩
  replace hF := hO3
  clear hO3
  try dsimp only at hF
  refine K_ent hE ?_
  refine Cc (fun hb63 => ?_) (fun hb63 => ?_)
  · rw [if_pos hb63] at hF
    iterate 4 refine au ?_
    cases hF
    exact Er ()
  rw [if_neg (nt hb63)] at hF
  iterate 5 refine au ?_
  refine CW_block (CW_loop (m := a_m.Inputs.length) (fun m25 f' cs' => ∃ (g : Fr) (k27 : Nat) (rest28 : List Int), m25 = rest28.length ∧ f' = updL g [(0, v0_0.v), (3, (.pointer (some ⟨k1, 0, some 0⟩))), (5, (.int .i64 (k27 : Int)))] ∧ List.drop k27 a_m.Inputs = rest28 ∧ Ent cs' [crd (RdS 3 rdInt) v0_0.v a_s, cboR k1 112 (.agg [(.int .i64 a_m.Rel), v1_1.v, (.int .i64 a_m.Limit), (.int .i64 a_m.Cost), (.int .i64 a_m.Quota)].toArray), crd (RdS 3 rdInt) v1_1.v a_m.Inputs] ∧ s_IsMethod_L1 a_s a_m rest28 k27 = some R) ⟨_, 0, _, rfl, eqA, rfl, entA, hF⟩ ?_)
  clear hF
  rintro m25 _ _ ⟨g26, k27, rest28, rfl, rfl, hd30, hE, hF⟩
  refine K_ent hE ?_
  clear hE
  refine K_pure (c := crd (RdS 3 rdInt) v1_1.v a_m.Inputs) (.t (.t .h)) crd_bound (fun hbd35 => ?_)
  rcases rest28 with _ | ⟨x29, rest28⟩
  · have hk31 := List.drop_eq_nil_iff.1 hd30
    rw [s_IsMethod_L1] at hF
    iterate 8 refine au ?_
    refine CdF ?_
    iterate 8 refine au ?_
    cases hF
    exact Er ()
  obtain ⟨hk31, hx32, hd33⟩ := drop_cons hd30
  rw [s_IsMethod_L1] at hF
  iterate 8 refine au ?_
  refine CdT ?_
  iterate 2 refine au ?_
  obtain ⟨o36, hio36, hO37⟩ := bind_some hF
  refine K_draw [0, 1, 2, 3, 4, 5, 6, 7, 8, 9, 10, 11, 12, 13, 14, 15, 16, 17, 18, 19, 20, 21, 22, 23, 24, 25, 26, 27, 28, 29, 30] [0, 1, 0, 7, 15, 0, 0, 64, 224, 480, 992, 2047, 4095, 8191, 16383, 32767, 65535, 131071, 262143, 131071, 1048575, 2097151, 131071, 4325375, 131071, 16908287, 63045631, 130154495, 268435455, 536870911, 1073741823] [11] mixed (by decide +kernel) ?_
  refine D_cut (fun f' cs' => ∃ (c59 : Bool) (g : Fr), c59 = o36 ∧ f' = updL g [(0, v0_0.v), (3, (.pointer (some ⟨k1, 0, some 0⟩))), (5, (.int .i64 (k27 : Int))), (73, (.bool c59))] ∧ Ent cs' [crd (RdS 3 rdInt) v0_0.v a_s, cboR k1 112 (.agg [(.int .i64 a_m.Rel), v1_1.v, (.int .i64 a_m.Limit), (.int .i64 a_m.Cost), (.int .i64 a_m.Quota)].toArray), crd (RdS 3 rdInt) v1_1.v a_m.Inputs]) ?_ ?_
  · replace hF := hio36
    iterate 3 refine du ?_
    refine Di hx32 (fun k38 j39 => ?_)
    refine Dl ls3_0 ?_
    iterate 3 refine du ?_
    obtain ⟨x40, hx41, hF⟩ := bind_some hF
    obtain ⟨hp42, hx43⟩ := ix_some hx41
    refine Di hx43 (fun k44 j45 => ?_)
    refine Dl ls3_0 ?_
    refine du ?_
    obtain ⟨r46, hx47, hF⟩ := bind_some hF
    refine Dx0 (s_l1In_ok _ _ _ _ hx47) (fun _ => ?_)
    iterate 2 refine du ?_
    rcases Bool.eq_false_or_eq_true (!r46) with hg49 | hg49
    · rw [hg49]
      try rw [hg49] at hF; dsimp only [cond_true, cond_false] at hF
      iterate 18 refine du ?_
      cases hF
      exact ⟨_, _, rfl, eqA, entA⟩
    rw [hg49]
    try rw [hg49] at hF; dsimp only [cond_true, cond_false] at hF
    iterate 3 refine du ?_
    rcases Bool.eq_false_or_eq_true (decide ((0 : Int) < (k27 : Int))) with hg50 | hg50
    · rw [hg50]
      try rw [hg50] at hF; dsimp only [cond_true, cond_false] at hF
      iterate 3 refine du ?_
      refine Di hx32 (fun k51 j52 => ?_)
      refine Dl ls3_0 ?_
      iterate 4 refine du ?_
      obtain ⟨x53, hx54, hF⟩ := bind_some hF
      obtain ⟨hp55, hx56⟩ := ix_some hx54
      refine Di hx56 (fun k57 j58 => ?_)
      refine Dl ls3_0 ?_
      iterate 4 refine du ?_
      cases hF
      exact ⟨_, _, rfl, eqA, entA⟩
    rw [hg50]
    try rw [hg50] at hF; dsimp only [cond_true, cond_false] at hF
    iterate 15 refine du ?_
    cases hF
    exact ⟨_, _, rfl, eqA, entA⟩
  rintro _ _ ⟨c59, g62, rfl, rfl, hE⟩
  replace hF := hO37
  clear hO37
  try dsimp only at hF
  refine K_ent hE ?_
  refine Cc (fun hb61 => ?_) (fun hb61 => ?_)
  · rw [if_pos hb61] at hF
    iterate 4 refine au ?_
    cases hF
    exact Er ()
  rw [if_neg (nt hb61)] at hF
  iterate 6 refine au ?_
  rw [wk k27]
  exact ⟨_, Nat.lt_succ_self _, _, k27 + 1, rest28, rfl, eqA, hd33, entA, hF⟩

/-! spec.AreMethods -/
def s_AreMethods_L1 (a_s : List Int) (a_l : List Method) : List Method → Nat → Option (Bool)
  | [], k4 => ((s_IsSchema a_s).bind fun r15 =>
      bif r15 then (some (decide (((a_l.length : Int) : Int) ≤ 5)))
      else (some false)).bind fun o13 =>
    match o13 with
    | c19 => some c19
  | x6 :: rest5, k4 => (s_IsMethod a_s x6).bind fun r24 =>
    if (!r24) then (
      some false)
    else (
      s_AreMethods_L1 a_s a_l rest5 (k4 + 1))
def s_AreMethods (a_s : List Int) (a_l : List Method) : Option (Bool) :=
  s_AreMethods_L1 a_s a_l a_l 0
theorem s_AreMethods_ok (a_s : List Int) (v0_0 : Sv) (a_l : List Method) (v1_0 : Sv) (R : Bool) (hF : s_AreMethods a_s a_l = some R) :
    Fw.Spec Tryz.prog 64 [v0_0.v, v1_0.v] [crd (RdS 3 rdInt) v0_0.v a_s, crd (RdS 112 rd112) v1_0.v a_l] (fun _ : Unit => (.bool R)) (fun _ => []) := by
  refine Spec_enter (n := 26) Tryz.func64 rfl rfl (rs := [.tmp 4]) rfl rfl rfl ?_
  intro H0 F0
  unfold s_AreMethods at hF
  iterate 7 refine au ?_
  refine CW_block (CW_loop (m := a_l.length) (fun m2 f' cs' => ∃ (g : Fr) (k4 : Nat) (rest5 : List Method), m2 = rest5.length ∧ f' = updL g [(0, v0_0.v), (1, v1_0.v), (5, (.int .i64 (k4 : Int)))] ∧ List.drop k4 a_l = rest5 ∧ Ent cs' [crd (RdS 3 rdInt) v0_0.v a_s, crd (RdS 112 rd112) v1_0.v a_l] ∧ s_AreMethods_L1 a_s a_l rest5 k4 = some R) ⟨_, 0, _, rfl, eqA, rfl, entA, hF⟩ ?_)
  clear hF
  rintro m2 _ _ ⟨g3, k4, rest5, rfl, rfl, hd7, hE, hF⟩
  refine K_ent hE ?_
  clear hE
  refine K_pure (c := crd (RdS 112 rd112) v1_0.v a_l) (.t .h) crd_bound (fun hbd12 => ?_)
  rcases rest5 with _ | ⟨x6, rest5⟩
  · have hk8 := List.drop_eq_nil_iff.1 hd7
    rw [s_AreMethods_L1] at hF
    iterate 7 refine au ?_
    refine CdF ?_
    iterate 4 refine au ?_
    obtain ⟨o13, hio13, hO14⟩ := bind_some hF
    refine au ?_
    refine C_cut (fun f' cs' => ∃ (c19 : Bool) (g : Fr), c19 = o13 ∧ f' = updL g [(4, (.bool c19))] ∧ Ent cs' []) ?_ ?_
    · replace hF := hio13
      refine au ?_
      obtain ⟨r15, hx16, hF⟩ := bind_some hF
      refine Cx0 (s_IsSchema_ok _ _ _ hx16) (fun _ => ?_)
      refine au ?_
      rcases Bool.eq_false_or_eq_true r15 with hg18 | hg18
      · rw [hg18]
        try rw [hg18] at hF; dsimp only [cond_true, cond_false] at hF
        iterate 9 refine au ?_
        cases hF
        exact ⟨_, _, rfl, eqA, entA⟩
      rw [hg18]
      try rw [hg18] at hF; dsimp only [cond_true, cond_false] at hF
      iterate 6 refine au ?_
      cases hF
      exact ⟨_, _, rfl, eqA, entA⟩
    rintro _ _ ⟨c19, g20, rfl, rfl, hE⟩
    replace hF := hO14
    clear hO14
    try dsimp only at hF
    refine K_ent hE ?_
    refine au ?_
    cases hF
    exact Er ()
  obtain ⟨hk8, hx9, hd10⟩ := drop_cons hd7
  rw [s_AreMethods_L1] at hF
  iterate 7 refine au ?_
  refine CdT ?_
  iterate 6 refine au ?_
  refine Ai hx9 (fun k21 j22 => ?_)
  refine AlA1 (ul112_0_112 x6) la112_0_112 (fun p23 => ?_)
  obtain ⟨r24, hx25, hF⟩ := bind_some hF
  refine Cx0 (s_IsMethod_ok _ _ _ _ _ hx25) (fun _ => ?_)
  iterate 2 refine au ?_
  refine Cc (fun hb28 => ?_) (fun hb28 => ?_)
  · rw [if_pos hb28] at hF
    iterate 4 refine au ?_
    cases hF
    exact Er ()
  rw [if_neg (nt hb28)] at hF
  iterate 6 refine au ?_
  rw [wk k4]
  exact ⟨_, Nat.lt_succ_self _, _, k4 + 1, rest5, rfl, eqA, hd10, entA, hF⟩

/-! spec.IsRule -/
def s_IsRule_L1 (a_s : List Int) (a_r : Rule) : List Int → Nat → Option (Bool)
  | [], k26 => some true
  | x28 :: rest27, k26 => (ix a_s a_r.From).bind fun x37 =>
    (s_l1In x28 0 (IntKind.i64.wrap (x37 - 1))).bind fun r43 =>
    if (!r43) then (
      some false)
    else (
      s_IsRule_L1 a_s a_r rest27 (k26 + 1))
def s_IsRule (a_s : List Int) (a_r : Rule) : Option (Bool) :=
  ((s_IsSchema a_s).bind fun r4 =>
    bif (!r4) then (some true)
    else ((s_l1In a_r.From 0 (IntKind.i64.wrap ((a_s.length : Int) - 1))).bind fun r8 =>
      bif (!r8) then (some true)
      else ((s_l1In a_r.To 0 (IntKind.i64.wrap ((a_s.length : Int) - 1))).bind fun r12 =>
        bif (!r12) then (some true)
        else ((ix a_s a_r.To).bind fun x16 =>
          some (((a_r.Map.length : Int) : Int) != x16))))).bind fun o2 =>
  match o2 with
  | c22 => if c22 then (
      some false)
    else (
      s_IsRule_L1 a_s a_r a_r.Map 0)
theorem s_IsRule_ok (a_s : List Int) (v0_0 : Sv) (a_r : Rule) (v1_2 : Sv) (R : Bool) (hF : s_IsRule a_s a_r = some R) :
    Fw.Spec Tryz.prog 147 [v0_0.v, (.agg [(.int .i64 a_r.From), (.int .i64 a_r.To), v1_2.v].toArray)] [crd (RdS 3 rdInt) v0_0.v a_s, crd (RdS 3 rdInt) v1_2.v a_r.Map] (fun _ : Unit => (.bool R)) (fun _ => []) := by
  refine Spec_enter (n := 58) Tryz.func147 rfl rfl (rs := [.tmp 4]) rfl rfl rfl ?_
  intro H0 F0
  unfold s_IsRule at hF
  refine au ?_
  refine AbR (fun k1 => ?_)
  iterate 3 refine au ?_
  obtain ⟨o2, hio2, hO3⟩ := bind_some hF
  refine K_draw [0, 1, 2, 3, 4, 5, 6, 7, 8, 9, 10, 11, 12, 13, 14, 15, 16, 17, 18, 19, 20, 21, 22, 23, 24, 25, 26, 27, 28, 29, 30, 31] [0, 1, 3, 7, 15, 31, 15, 79, 207, 511, 1023, 2047, 4095, 8191, 16383, 8191, 40959, 106495, 262143, 524287, 1048575, 2097151, 4194303, 8388607, 16777215, 4194303, 4194303, 71303167, 239075327, 507510783, 1073741823, 2147483647] [1, 9, 18] mixed (by decide +kernel) ?_
  refine D_cut (fun f' cs' => ∃ (c22 : Bool) (g : Fr), c22 = o2 ∧ f' = updL g [(0, v0_0.v), (3, (.pointer (some ⟨k1, 0, some 0⟩))), (37, (.bool c22))] ∧ Ent cs' [crd (RdS 3 rdInt) v0_0.v a_s, cboR k1 148 (.agg [(.int .i64 a_r.From), (.int .i64 a_r.To), v1_2.v].toArray), crd (RdS 3 rdInt) v1_2.v a_r.Map]) ?_ ?_
  · replace hF := hio2
    refine du ?_
    obtain ⟨r4, hx5, hF⟩ := bind_some hF
    refine Dx0 (s_IsSchema_ok _ _ _ hx5) (fun _ => ?_)
    iterate 2 refine du ?_
    rcases Bool.eq_false_or_eq_true (!r4) with hg7 | hg7
    · rw [hg7]
      try rw [hg7] at hF; dsimp only [cond_true, cond_false] at hF
      iterate 29 refine du ?_
      cases hF
      exact ⟨_, _, rfl, eqA, entA⟩
    rw [hg7]
    try rw [hg7] at hF; dsimp only [cond_true, cond_false] at hF
    iterate 5 refine du ?_
    obtain ⟨r8, hx9, hF⟩ := bind_some hF
    refine Dx0 (s_l1In_ok _ _ _ _ hx9) (fun _ => ?_)
    iterate 3 refine du ?_
    rcases Bool.eq_false_or_eq_true (!r8) with hg11 | hg11
    · rw [hg11]
      try rw [hg11] at hF; dsimp only [cond_true, cond_false] at hF
      iterate 20 refine du ?_
      cases hF
      exact ⟨_, _, rfl, eqA, entA⟩
    rw [hg11]
    try rw [hg11] at hF; dsimp only [cond_true, cond_false] at hF
    iterate 5 refine du ?_
    obtain ⟨r12, hx13, hF⟩ := bind_some hF
    refine Dx0 (s_l1In_ok _ _ _ _ hx13) (fun _ => ?_)
    iterate 3 refine du ?_
    rcases Bool.eq_false_or_eq_true (!r12) with hg15 | hg15
    · rw [hg15]
      try rw [hg15] at hF; dsimp only [cond_true, cond_false] at hF
      iterate 11 refine du ?_
      cases hF
      exact ⟨_, _, rfl, eqA, entA⟩
    rw [hg15]
    try rw [hg15] at hF; dsimp only [cond_true, cond_false] at hF
    iterate 6 refine du ?_
    obtain ⟨x16, hx17, hF⟩ := bind_some hF
    obtain ⟨hp18, hx19⟩ := ix_some hx17
    refine Di hx19 (fun k20 j21 => ?_)
    refine Dl ls3_0 ?_
    iterate 3 refine du ?_
    cases hF
    exact ⟨_, _, rfl, eqA, entA⟩
  rintro _ _ ⟨c22, g49, rfl, rfl, hE⟩
  replace hF := hO3
  clear hO3
  try dsimp only at hF
  refine K_ent hE ?_
  refine Cc (fun hb48 => ?_) (fun hb48 => ?_)
  · rw [if_pos hb48] at hF
    iterate 4 refine au ?_
    cases hF
    exact Er ()
  rw [if_neg (nt hb48)] at hF
  iterate 5 refine au ?_
  refine CW_block (CW_loop (m := a_r.Map.length) (fun m24 f' cs' => ∃ (g : Fr) (k26 : Nat) (rest27 : List Int), m24 = rest27.length ∧ f' = updL g [(0, v0_0.v), (3, (.pointer (some ⟨k1, 0, some 0⟩))), (5, (.int .i64 (k26 : Int)))] ∧ List.drop k26 a_r.Map = rest27 ∧ Ent cs' [crd (RdS 3 rdInt) v0_0.v a_s, cboR k1 148 (.agg [(.int .i64 a_r.From), (.int .i64 a_r.To), v1_2.v].toArray), crd (RdS 3 rdInt) v1_2.v a_r.Map] ∧ s_IsRule_L1 a_s a_r rest27 k26 = some R) ⟨_, 0, _, rfl, eqA, rfl, entA, hF⟩ ?_)
  clear hF
  rintro m24 _ _ ⟨g25, k26, rest27, rfl, rfl, hd29, hE, hF⟩
  refine K_ent hE ?_
  clear hE
  refine K_pure (c := crd (RdS 3 rdInt) v1_2.v a_r.Map) (.t (.t .h)) crd_bound (fun hbd34 => ?_)
  rcases rest27 with _ | ⟨x28, rest27⟩
  · have hk30 := List.drop_eq_nil_iff.1 hd29
    rw [s_IsRule_L1] at hF
    iterate 8 refine au ?_
    refine CdF ?_
    iterate 8 refine au ?_
    cases hF
    exact Er ()
  obtain ⟨hk30, hx31, hd32⟩ := drop_cons hd29
  rw [s_IsRule_L1] at hF
  iterate 8 refine au ?_
  refine CdT ?_
  iterate 2 refine au ?_
  refine K_draw [0, 1, 2, 3, 4, 5, 6, 7, 8, 9, 10, 11, 12] [0, 1, 0, 7, 15, 0, 0, 64, 224, 480, 992, 2047, 4095] [11] mixed (by decide +kernel) ?_
  iterate 3 refine du ?_
  refine Di hx31 (fun k35 j36 => ?_)
  refine Dl ls3_0 ?_
  iterate 3 refine du ?_
  obtain ⟨x37, hx38, hF⟩ := bind_some hF
  obtain ⟨hp39, hx40⟩ := ix_some hx38
  refine Di hx40 (fun k41 j42 => ?_)
  refine Dl ls3_0 ?_
  refine du ?_
  obtain ⟨r43, hx44, hF⟩ := bind_some hF
  refine Dx0 (s_l1In_ok _ _ _ _ hx44) (fun _ => ?_)
  iterate 2 refine du ?_
  refine Cc (fun hb47 => ?_) (fun hb47 => ?_)
  · rw [if_pos hb47] at hF
    iterate 4 refine au ?_
    cases hF
    exact Er ()
  rw [if_neg (nt hb47)] at hF
  iterate 6 refine au ?_
  rw [wk k26]
  exact ⟨_, Nat.lt_succ_self _, _, k26 + 1, rest27, rfl, eqA, hd32, entA, hF⟩

/-! spec.AreRules -/
def s_AreRules_L1 (a_s : List Int) (a_l : List Rule) : List Rule → Nat → Option (Bool)
  | [], k4 => ((s_IsSchema a_s).bind fun r15 =>
      bif r15 then (some (decide (((a_l.length : Int) : Int) ≤ 4)))
      else (some false)).bind fun o13 =>
    match o13 with
    | c19 => some c19
  | x6 :: rest5, k4 => (s_IsRule a_s x6).bind fun r24 =>
    if (!r24) then (
      some false)
    else (
      s_AreRules_L1 a_s a_l rest5 (k4 + 1))
def s_AreRules (a_s : List Int) (a_l : List Rule) : Option (Bool) :=
  s_AreRules_L1 a_s a_l a_l 0
theorem s_AreRules_ok (a_s : List Int) (v0_0 : Sv) (a_l : List Rule) (v1_0 : Sv) (R : Bool) (hF : s_AreRules a_s a_l = some R) :
    Fw.Spec Tryz.prog 92 [v0_0.v, v1_0.v] [crd (RdS 3 rdInt) v0_0.v a_s, crd (RdS 148 rd148) v1_0.v a_l] (fun _ : Unit => (.bool R)) (fun _ => []) := by
  refine Spec_enter (n := 26) Tryz.func92 rfl rfl (rs := [.tmp 4]) rfl rfl rfl ?_
  intro H0 F0
  unfold s_AreRules at hF
  iterate 7 refine au ?_
  refine CW_block (CW_loop (m := a_l.length) (fun m2 f' cs' => ∃ (g : Fr) (k4 : Nat) (rest5 : List Rule), m2 = rest5.length ∧ f' = updL g [(0, v0_0.v), (1, v1_0.v), (5, (.int .i64 (k4 : Int)))] ∧ List.drop k4 a_l = rest5 ∧ Ent cs' [crd (RdS 3 rdInt) v0_0.v a_s, crd (RdS 148 rd148) v1_0.v a_l] ∧ s_AreRules_L1 a_s a_l rest5 k4 = some R) ⟨_, 0, _, rfl, eqA, rfl, entA, hF⟩ ?_)
  clear hF
  rintro m2 _ _ ⟨g3, k4, rest5, rfl, rfl, hd7, hE, hF⟩
  refine K_ent hE ?_
  clear hE
  refine K_pure (c := crd (RdS 148 rd148) v1_0.v a_l) (.t .h) crd_bound (fun hbd12 => ?_)
  rcases rest5 with _ | ⟨x6, rest5⟩
  · have hk8 := List.drop_eq_nil_iff.1 hd7
    rw [s_AreRules_L1] at hF
    iterate 7 refine au ?_
    refine CdF ?_
    iterate 4 refine au ?_
    obtain ⟨o13, hio13, hO14⟩ := bind_some hF
    refine au ?_
    refine C_cut (fun f' cs' => ∃ (c19 : Bool) (g : Fr), c19 = o13 ∧ f' = updL g [(4, (.bool c19))] ∧ Ent cs' []) ?_ ?_
    · replace hF := hio13
      refine au ?_
      obtain ⟨r15, hx16, hF⟩ := bind_some hF
      refine Cx0 (s_IsSchema_ok _ _ _ hx16) (fun _ => ?_)
      refine au ?_
      rcases Bool.eq_false_or_eq_true r15 with hg18 | hg18
      · rw [hg18]
        try rw [hg18] at hF; dsimp only [cond_true, cond_false] at hF
        iterate 9 refine au ?_
        cases hF
        exact ⟨_, _, rfl, eqA, entA⟩
      rw [hg18]
      try rw [hg18] at hF; dsimp only [cond_true, cond_false] at hF
      iterate 6 refine au ?_
      cases hF
      exact ⟨_, _, rfl, eqA, entA⟩
    rintro _ _ ⟨c19, g20, rfl, rfl, hE⟩
    replace hF := hO14
    clear hO14
    try dsimp only at hF
    refine K_ent hE ?_
    refine au ?_
    cases hF
    exact Er ()
  obtain ⟨hk8, hx9, hd10⟩ := drop_cons hd7
  rw [s_AreRules_L1] at hF
  iterate 7 refine au ?_
  refine CdT ?_
  iterate 6 refine au ?_
  refine Ai hx9 (fun k21 j22 => ?_)
  refine AlA1 (ul148_0_148 x6) la148_0_148 (fun p23 => ?_)
  obtain ⟨r24, hx25, hF⟩ := bind_some hF
  refine Cx0 (s_IsRule_ok _ _ _ _ _ hx25) (fun _ => ?_)
  iterate 2 refine au ?_
  refine Cc (fun hb28 => ?_) (fun hb28 => ?_)
  · rw [if_pos hb28] at hF
    iterate 4 refine au ?_
    cases hF
    exact Er ()
  rw [if_neg (nt hb28)] at hF
  iterate 6 refine au ?_
  rw [wk k4]
  exact ⟨_, Nat.lt_succ_self _, _, k4 + 1, rest5, rfl, eqA, hd10, entA, hF⟩

/-! spec.IsFact -/
def s_IsFact_L1 : List Int → Nat → Option (Bool)
  | [], k22 => some true
  | x24 :: rest23, k22 => (s_l1In x24 0 9).bind fun r33 =>
    if (!r33) then (
      some false)
    else (
      s_IsFact_L1 rest23 (k22 + 1))
def s_IsFact (a_s : List Int) (a_f : Fact) : Option (Bool) :=
  ((s_IsSchema a_s).bind fun r4 =>
    bif (!r4) then (some true)
    else ((s_l1In a_f.Rel 0 (IntKind.i64.wrap ((a_s.length : Int) - 1))).bind fun r8 =>
      bif (!r8) then (some true)
      else ((ix a_s a_f.Rel).bind fun x12 =>
        some (((a_f.Values.length : Int) : Int) != x12)))).bind fun o2 =>
  match o2 with
  | c18 => if c18 then (
      some false)
    else (
      s_IsFact_L1 a_f.Values 0)
theorem s_IsFact_ok (a_s : List Int) (v0_0 : Sv) (a_f : Fact) (v1_1 : Sv) (R : Bool) (hF : s_IsFact a_s a_f = some R) :
    Fw.Spec Tryz.prog 124 [v0_0.v, (.agg [(.int .i64 a_f.Rel), v1_1.v].toArray)] [crd (RdS 3 rdInt) v0_0.v a_s, crd (RdS 3 rdInt) v1_1.v a_f.Values] (fun _ : Unit => (.bool R)) (fun _ => []) := by
  refine Spec_enter (n := 43) Tryz.func124 rfl rfl (rs := [.tmp 4]) rfl rfl rfl ?_
  intro H0 F0
  unfold s_IsFact at hF
  refine au ?_
  refine AbR (fun k1 => ?_)
  iterate 3 refine au ?_
  obtain ⟨o2, hio2, hO3⟩ := bind_some hF
  refine K_draw [0, 1, 2, 3, 4, 5, 6, 7, 8, 9, 10, 11, 12, 13, 14, 15, 16, 17, 18, 19, 20, 21, 22] [0, 1, 3, 7, 15, 31, 15, 79, 207, 511, 1023, 2047, 4095, 8191, 16383, 32767, 8191, 8191, 139263, 466943, 991231, 2097151, 4194303] [1, 9] mixed (by decide +kernel) ?_
  refine D_cut (fun f' cs' => ∃ (c18 : Bool) (g : Fr), c18 = o2 ∧ f' = updL g [(3, (.pointer (some ⟨k1, 0, some 0⟩))), (28, (.bool c18))] ∧ Ent cs' [cboR k1 114 (.agg [(.int .i64 a_f.Rel), v1_1.v].toArray), crd (RdS 3 rdInt) v1_1.v a_f.Values]) ?_ ?_
  · replace hF := hio2
    refine du ?_
    obtain ⟨r4, hx5, hF⟩ := bind_some hF
    refine Dx0 (s_IsSchema_ok _ _ _ hx5) (fun _ => ?_)
    iterate 2 refine du ?_
    rcases Bool.eq_false_or_eq_true (!r4) with hg7 | hg7
    · rw [hg7]
      try rw [hg7] at hF; dsimp only [cond_true, cond_false] at hF
      iterate 20 refine du ?_
      cases hF
      exact ⟨_, _, rfl, eqA, entA⟩
    rw [hg7]
    try rw [hg7] at hF; dsimp only [cond_true, cond_false] at hF
    iterate 5 refine du ?_
    obtain ⟨r8, hx9, hF⟩ := bind_some hF
    refine Dx0 (s_l1In_ok _ _ _ _ hx9) (fun _ => ?_)
    iterate 3 refine du ?_
    rcases Bool.eq_false_or_eq_true (!r8) with hg11 | hg11
    · rw [hg11]
      try rw [hg11] at hF; dsimp only [cond_true, cond_false] at hF
      iterate 11 refine du ?_
      cases hF
      exact ⟨_, _, rfl, eqA, entA⟩
    rw [hg11]
    try rw [hg11] at hF; dsimp only [cond_true, cond_false] at hF
    iterate 6 refine du ?_
    obtain ⟨x12, hx13, hF⟩ := bind_some hF
    obtain ⟨hp14, hx15⟩ := ix_some hx13
    refine Di hx15 (fun k16 j17 => ?_)
    refine Dl ls3_0 ?_
    iterate 3 refine du ?_
    cases hF
    exact ⟨_, _, rfl, eqA, entA⟩
  rintro _ _ ⟨c18, g39, rfl, rfl, hE⟩
  replace hF := hO3
  clear hO3
  try dsimp only at hF
  refine K_ent hE ?_
  refine Cc (fun hb38 => ?_) (fun hb38 => ?_)
  · rw [if_pos hb38] at hF
    iterate 4 refine au ?_
    cases hF
    exact Er ()
  rw [if_neg (nt hb38)] at hF
  iterate 5 refine au ?_
  refine CW_block (CW_loop (m := a_f.Values.length) (fun m20 f' cs' => ∃ (g : Fr) (k22 : Nat) (rest23 : List Int), m20 = rest23.length ∧ f' = updL g [(3, (.pointer (some ⟨k1, 0, some 0⟩))), (5, (.int .i64 (k22 : Int)))] ∧ List.drop k22 a_f.Values = rest23 ∧ Ent cs' [cboR k1 114 (.agg [(.int .i64 a_f.Rel), v1_1.v].toArray), crd (RdS 3 rdInt) v1_1.v a_f.Values] ∧ s_IsFact_L1 rest23 k22 = some R) ⟨_, 0, _, rfl, eqA, rfl, entA, hF⟩ ?_)
  clear hF
  rintro m20 _ _ ⟨g21, k22, rest23, rfl, rfl, hd25, hE, hF⟩
  refine K_ent hE ?_
  clear hE
  refine K_pure (c := crd (RdS 3 rdInt) v1_1.v a_f.Values) (.t .h) crd_bound (fun hbd30 => ?_)
  rcases rest23 with _ | ⟨x24, rest23⟩
  · have hk26 := List.drop_eq_nil_iff.1 hd25
    rw [s_IsFact_L1] at hF
    iterate 8 refine au ?_
    refine CdF ?_
    iterate 8 refine au ?_
    cases hF
    exact Er ()
  obtain ⟨hk26, hx27, hd28⟩ := drop_cons hd25
  rw [s_IsFact_L1] at hF
  iterate 8 refine au ?_
  refine CdT ?_
  iterate 6 refine au ?_
  refine Ai hx27 (fun k31 j32 => ?_)
  refine Al ls3_0 ?_
  obtain ⟨r33, hx34, hF⟩ := bind_some hF
  refine Cx0 (s_l1In_ok _ _ _ _ hx34) (fun _ => ?_)
  iterate 2 refine au ?_
  refine Cc (fun hb37 => ?_) (fun hb37 => ?_)
  · rw [if_pos hb37] at hF
    iterate 4 refine au ?_
    cases hF
    exact Er ()
  rw [if_neg (nt hb37)] at hF
  iterate 6 refine au ?_
  rw [wk k22]
  exact ⟨_, Nat.lt_succ_self _, _, k22 + 1, rest23, rfl, eqA, hd28, entA, hF⟩

/-! spec.CompareFacts -/
def s_CompareFacts_L1 (a_a : Fact) (a_b : Fact) : Nat → Int → Option (Int)
  | 0, _ => none
  | m5 + 1, c4 => if ((decide ((c4 : Int) < (a_a.Values.length : Int))) && (decide ((c4 : Int) < (a_b.Values.length : Int)))) then (
      (ix a_a.Values c4).bind fun x15 =>
      (ix a_b.Values c4).bind fun x21 =>
      if (decide ((x15 : Int) < x21)) then (
        some (-1))
      else (
        (ix a_a.Values c4).bind fun x27 =>
        (ix a_b.Values c4).bind fun x33 =>
        if (decide ((x33 : Int) < x27)) then (
          some 1)
        else (
          s_CompareFacts_L1 a_a a_b m5 (IntKind.i64.wrap (c4 + 1)))))
    else (
      if (decide (((a_a.Values.length : Int) : Int) < (a_b.Values.length : Int))) then (
        some (-1))
      else (
        if (decide (((a_b.Values.length : Int) : Int) < (a_a.Values.length : Int))) then (
          some 1)
        else (
          some 0)))
def s_CompareFacts (a_a : Fact) (a_b : Fact) : Option (Int) :=
  if ((a_a.Rel : Int) != a_b.Rel) then (
    if (decide ((a_a.Rel : Int) < a_b.Rel)) then (
      some (-1))
    else (
      some 1))
  else (
    s_CompareFacts_L1 a_a a_b (((a_a.Values.length : Int) - 0).toNat + 2) 0)
theorem s_CompareFacts_ok (a_a : Fact) (v0_1 : Sv) (a_b : Fact) (v1_1 : Sv) (R : Int) (hF : s_CompareFacts a_a a_b = some R) :
    Fw.Spec Tryz.prog 125 [(.agg [(.int .i64 a_a.Rel), v0_1.v].toArray), (.agg [(.int .i64 a_b.Rel), v1_1.v].toArray)] [crd (RdS 3 rdInt) v0_1.v a_a.Values, crd (RdS 3 rdInt) v1_1.v a_b.Values] (fun _ : Unit => (.int .i64 R)) (fun _ => []) := by
  refine Spec_enter (n := 66) Tryz.func125 rfl rfl (rs := [.tmp 4]) rfl rfl rfl ?_
  intro H0 F0
  unfold s_CompareFacts at hF
  refine au ?_
  refine AbR (fun k1 => ?_)
  refine AbR (fun k2 => ?_)
  iterate 10 refine au ?_
  refine Cc (fun hb44 => ?_) (fun hb44 => ?_)
  · rw [if_pos hb44] at hF
    iterate 8 refine au ?_
    refine Cc (fun hb3 => ?_) (fun hb3 => ?_)
    · rw [if_pos hb3] at hF
      iterate 4 refine au ?_
      cases hF
      exact Er ()
    rw [if_neg (nt hb3)] at hF
    iterate 5 refine au ?_
    cases hF
    exact Er ()
  rw [if_neg (nt hb44)] at hF
  iterate 5 refine au ?_
  refine CW_block (CW_loop (m := (((a_a.Values.length : Int) - 0).toNat + 2)) (fun m5 f' cs' => ∃ (g : Fr) (c4 : Int), f' = updL g [(2, (.pointer (some ⟨k1, 0, some 0⟩))), (3, (.pointer (some ⟨k2, 0, some 0⟩))), (5, (.int .i64 c4))] ∧ Ent cs' [cboR k1 114 (.agg [(.int .i64 a_a.Rel), v0_1.v].toArray), crd (RdS 3 rdInt) v0_1.v a_a.Values, cboR k2 114 (.agg [(.int .i64 a_b.Rel), v1_1.v].toArray), crd (RdS 3 rdInt) v1_1.v a_b.Values] ∧ s_CompareFacts_L1 a_a a_b m5 c4 = some R) ⟨_, _, eqA, entA, hF⟩ ?_)
  clear hF
  rintro m5 _ _ ⟨g6, c4, rfl, hE, hF⟩
  refine K_ent hE ?_
  clear hE
  rcases m5 with _ | m5
  · rw [s_CompareFacts_L1] at hF
    exact absurd hF (by simp)
  rw [s_CompareFacts_L1] at hF
  iterate 2 refine au ?_
  refine C_cut (fun f' cs' => ∃ (g : Fr), f' = updL g [(2, (.pointer (some ⟨k1, 0, some 0⟩))), (3, (.pointer (some ⟨k2, 0, some 0⟩))), (5, (.int .i64 c4)), (27, (.bool ((decide ((c4 : Int) < (a_a.Values.length : Int))) && (decide ((c4 : Int) < (a_b.Values.length : Int))))))] ∧ Ent cs' [cboR k1 114 (.agg [(.int .i64 a_a.Rel), v0_1.v].toArray), crd (RdS 3 rdInt) v0_1.v a_a.Values, cboR k2 114 (.agg [(.int .i64 a_b.Rel), v1_1.v].toArray), crd (RdS 3 rdInt) v1_1.v a_b.Values]) ?_ ?_
  · iterate 6 refine au ?_
    rcases Bool.eq_false_or_eq_true (decide ((c4 : Int) < (a_a.Values.length : Int))) with hg13 | hg13
    · rw [hg13]
      try rw [hg13] at hF; dsimp only [cond_true, cond_false] at hF
      iterate 12 refine au ?_
      exact ⟨_, eqA, entA⟩
    rw [hg13]
    try rw [hg13] at hF; dsimp only [cond_true, cond_false] at hF
    iterate 7 refine au ?_
    exact ⟨_, eqA, entA⟩
  rintro _ _ ⟨g14, rfl, hE⟩
  refine K_ent hE ?_
  refine Cc (fun hb43 => ?_) (fun hb43 => ?_)
  · rw [if_pos hb43] at hF
    iterate 3 refine au ?_
    refine K_draw [0, 1, 2, 3, 4, 5, 6, 7, 8, 9, 10] [0, 1, 0, 7, 15, 0, 32, 0, 224, 480, 1023] [] mixed (by decide +kernel) ?_
    iterate 3 refine du ?_
    obtain ⟨x15, hx16, hF⟩ := bind_some hF
    obtain ⟨hp17, hx18⟩ := ix_some hx16
    refine Di hx18 (fun k19 j20 => ?_)
    refine Dl ls3_0 ?_
    iterate 3 refine du ?_
    obtain ⟨x21, hx22, hF⟩ := bind_some hF
    obtain ⟨hp23, hx24⟩ := ix_some hx22
    refine Di hx24 (fun k25 j26 => ?_)
    refine Dl ls3_0 ?_
    iterate 2 refine du ?_
    refine Cc (fun hb40 => ?_) (fun hb40 => ?_)
    · rw [if_pos hb40] at hF
      iterate 4 refine au ?_
      cases hF
      exact Er ()
    rw [if_neg (nt hb40)] at hF
    refine au ?_
    refine K_draw [0, 1, 2, 3, 4, 5, 6, 7, 8, 9, 10] [0, 1, 0, 7, 15, 0, 32, 0, 224, 480, 1023] [] mixed (by decide +kernel) ?_
    iterate 3 refine du ?_
    obtain ⟨x27, hx28, hF⟩ := bind_some hF
    obtain ⟨hp29, hx30⟩ := ix_some hx28
    refine Di hx30 (fun k31 j32 => ?_)
    refine Dl ls3_0 ?_
    iterate 3 refine du ?_
    obtain ⟨x33, hx34, hF⟩ := bind_some hF
    obtain ⟨hp35, hx36⟩ := ix_some hx34
    refine Di hx36 (fun k37 j38 => ?_)
    refine Dl ls3_0 ?_
    iterate 2 refine du ?_
    refine Cc (fun hb39 => ?_) (fun hb39 => ?_)
    · rw [if_pos hb39] at hF
      iterate 4 refine au ?_
      cases hF
      exact Er ()
    rw [if_neg (nt hb39)] at hF
    iterate 6 refine au ?_
    exact ⟨m5, Nat.lt_succ_self _, _, _, eqA, entA, hF⟩
  rw [if_neg (nt hb43)] at hF
  iterate 14 refine au ?_
  refine Cc (fun hb42 => ?_) (fun hb42 => ?_)
  · rw [if_pos hb42] at hF
    iterate 4 refine au ?_
    cases hF
    exact Er ()
  rw [if_neg (nt hb42)] at hF
  iterate 11 refine au ?_
  refine Cc (fun hb41 => ?_) (fun hb41 => ?_)
  · rw [if_pos hb41] at hF
    iterate 4 refine au ?_
    cases hF
    exact Er ()
  rw [if_neg (nt hb41)] at hF
  iterate 5 refine au ?_
  cases hF
  exact Er ()

/-! spec.AreFacts -/
def s_AreFacts_L1 (a_s : List Int) (a_l : List Fact) : List Fact → Nat → Option (Bool)
  | [], k4 => ((s_IsSchema a_s).bind fun r15 =>
      bif r15 then (some (decide (((a_l.length : Int) : Int) ≤ 24)))
      else (some false)).bind fun o13 =>
    match o13 with
    | c19 => some c19
  | x6 :: rest5, k4 => ((s_IsFact a_s x6).bind fun r26 =>
      bif (!r26) then (some true)
      else (bif (decide ((0 : Int) < (k4 : Int))) then ((ix a_l (IntKind.i64.wrap ((k4 : Int) - 1))).bind fun x31 =>
          (s_CompareFacts x31 x6).bind fun r41 =>
          some (decide ((0 : Int) ≤ r41)))
        else (some false))).bind fun o21 =>
    match o21 with
    | c44 => if c44 then (
        some false)
      else (
        s_AreFacts_L1 a_s a_l rest5 (k4 + 1))
def s_AreFacts (a_s : List Int) (a_l : List Fact) : Option (Bool) :=
  s_AreFacts_L1 a_s a_l a_l 0
theorem s_AreFacts_ok (a_s : List Int) (v0_0 : Sv) (a_l : List Fact) (v1_0 : Sv) (R : Bool) (hF : s_AreFacts a_s a_l = some R) :
    Fw.Spec Tryz.prog 65 [v0_0.v, v1_0.v] [crd (RdS 3 rdInt) v0_0.v a_s, crd (RdS 114 rd114) v1_0.v a_l] (fun _ : Unit => (.bool R)) (fun _ => []) := by
  refine Spec_enter (n := 43) Tryz.func65 rfl rfl (rs := [.tmp 4]) rfl rfl rfl ?_
  intro H0 F0
  unfold s_AreFacts at hF
  iterate 7 refine au ?_
  refine CW_block (CW_loop (m := a_l.length) (fun m2 f' cs' => ∃ (g : Fr) (k4 : Nat) (rest5 : List Fact), m2 = rest5.length ∧ f' = updL g [(0, v0_0.v), (1, v1_0.v), (5, (.int .i64 (k4 : Int)))] ∧ List.drop k4 a_l = rest5 ∧ Ent cs' [crd (RdS 3 rdInt) v0_0.v a_s, crd (RdS 114 rd114) v1_0.v a_l] ∧ s_AreFacts_L1 a_s a_l rest5 k4 = some R) ⟨_, 0, _, rfl, eqA, rfl, entA, hF⟩ ?_)
  clear hF
  rintro m2 _ _ ⟨g3, k4, rest5, rfl, rfl, hd7, hE, hF⟩
  refine K_ent hE ?_
  clear hE
  refine K_pure (c := crd (RdS 114 rd114) v1_0.v a_l) (.t .h) crd_bound (fun hbd12 => ?_)
  rcases rest5 with _ | ⟨x6, rest5⟩
  · have hk8 := List.drop_eq_nil_iff.1 hd7
    rw [s_AreFacts_L1] at hF
    iterate 7 refine au ?_
    refine CdF ?_
    iterate 4 refine au ?_
    obtain ⟨o13, hio13, hO14⟩ := bind_some hF
    refine au ?_
    refine C_cut (fun f' cs' => ∃ (c19 : Bool) (g : Fr), c19 = o13 ∧ f' = updL g [(4, (.bool c19))] ∧ Ent cs' []) ?_ ?_
    · replace hF := hio13
      refine au ?_
      obtain ⟨r15, hx16, hF⟩ := bind_some hF
      refine Cx0 (s_IsSchema_ok _ _ _ hx16) (fun _ => ?_)
      refine au ?_
      rcases Bool.eq_false_or_eq_true r15 with hg18 | hg18
      · rw [hg18]
        try rw [hg18] at hF; dsimp only [cond_true, cond_false] at hF
        iterate 9 refine au ?_
        cases hF
        exact ⟨_, _, rfl, eqA, entA⟩
      rw [hg18]
      try rw [hg18] at hF; dsimp only [cond_true, cond_false] at hF
      iterate 6 refine au ?_
      cases hF
      exact ⟨_, _, rfl, eqA, entA⟩
    rintro _ _ ⟨c19, g20, rfl, rfl, hE⟩
    replace hF := hO14
    clear hO14
    try dsimp only at hF
    refine K_ent hE ?_
    refine au ?_
    cases hF
    exact Er ()
  obtain ⟨hk8, hx9, hd10⟩ := drop_cons hd7
  rw [s_AreFacts_L1] at hF
  iterate 7 refine au ?_
  refine CdT ?_
  iterate 2 refine au ?_
  obtain ⟨o21, hio21, hO22⟩ := bind_some hF
  refine K_draw [0, 1, 2, 3, 4, 5, 6, 7, 8, 9, 10, 11, 12, 13, 14, 15, 16, 17, 18, 19, 20, 21, 22, 23] [0, 0, 0, 6, 14, 31, 63, 127, 255, 511, 1023, 2047, 2047, 6143, 16383, 32767, 2047, 2047, 198655, 460799, 1048575, 2097151, 4194303, 8388607] [5, 20] mixed (by decide +kernel) ?_
  refine D_cut (fun f' cs' => ∃ (c44 : Bool) (g : Fr), c44 = o21 ∧ f' = updL g [(0, v0_0.v), (1, v1_0.v), (5, (.int .i64 (k4 : Int))), (35, (.bool c44))] ∧ Ent cs' [crd (RdS 3 rdInt) v0_0.v a_s, crd (RdS 114 rd114) v1_0.v a_l]) ?_ ?_
  · replace hF := hio21
    iterate 3 refine du ?_
    refine Di hx9 (fun k23 j24 => ?_)
    refine DlA1 (ul114_0_114 x6) la114_0_114 (fun p25 => ?_)
    obtain ⟨r26, hx27, hF⟩ := bind_some hF
    refine Dx0 (s_IsFact_ok _ _ _ _ _ hx27) (fun _ => ?_)
    iterate 2 refine du ?_
    rcases Bool.eq_false_or_eq_true (!r26) with hg29 | hg29
    · rw [hg29]
      try rw [hg29] at hF; dsimp only [cond_true, cond_false] at hF
      iterate 17 refine du ?_
      cases hF
      exact ⟨_, _, rfl, eqA, entA⟩
    rw [hg29]
    try rw [hg29] at hF; dsimp only [cond_true, cond_false] at hF
    iterate 3 refine du ?_
    rcases Bool.eq_false_or_eq_true (decide ((0 : Int) < (k4 : Int))) with hg30 | hg30
    · rw [hg30]
      try rw [hg30] at hF; dsimp only [cond_true, cond_false] at hF
      iterate 3 refine du ?_
      obtain ⟨x31, hx32, hF⟩ := bind_some hF
      obtain ⟨hp33, hx34⟩ := ix_some hx32
      refine Di hx34 (fun k35 j36 => ?_)
      refine DlA1 (ul114_0_114 x31) la114_0_114 (fun p37 => ?_)
      iterate 2 refine du ?_
      refine Di hx9 (fun k38 j39 => ?_)
      refine DlA1 (ul114_0_114 x6) la114_0_114 (fun p40 => ?_)
      obtain ⟨r41, hx42, hF⟩ := bind_some hF
      refine Dx0 (s_CompareFacts_ok _ _ _ _ _ hx42) (fun _ => ?_)
      iterate 4 refine du ?_
      cases hF
      exact ⟨_, _, rfl, eqA, entA⟩
    rw [hg30]
    try rw [hg30] at hF; dsimp only [cond_true, cond_false] at hF
    iterate 14 refine du ?_
    cases hF
    exact ⟨_, _, rfl, eqA, entA⟩
  rintro _ _ ⟨c44, g47, rfl, rfl, hE⟩
  replace hF := hO22
  clear hO22
  try dsimp only at hF
  refine K_ent hE ?_
  refine Cc (fun hb46 => ?_) (fun hb46 => ?_)
  · rw [if_pos hb46] at hF
    iterate 4 refine au ?_
    cases hF
    exact Er ()
  rw [if_neg (nt hb46)] at hF
  iterate 6 refine au ?_
  rw [wk k4]
  exact ⟨_, Nat.lt_succ_self _, _, k4 + 1, rest5, rfl, eqA, hd10, entA, hF⟩

/-! spec.IsSource -/
def s_IsSource (a_s : List Int) (a_x : Source) : Option (Bool) :=
  ((s_AreFacts a_s a_x.Facts).bind fun r4 =>
    bif r4 then ((s_l1In a_x.Version 0 1000).bind fun r8 =>
      some r8)
    else (some false)).bind fun o2 =>
  match o2 with
  | c11 => some c11
theorem s_IsSource_ok (a_s : List Int) (v0_0 : Sv) (a_x : Source) (v1_0 : Sv) (R : Bool) (hF : s_IsSource a_s a_x = some R) :
    Fw.Spec Tryz.prog 93 [v0_0.v, (.agg [v1_0.v, (.int .i64 a_x.Version)].toArray)] [crd (RdS 3 rdInt) v0_0.v a_s, crd (RdS 114 rd114) v1_0.v a_x.Facts] (fun _ : Unit => (.bool R)) (fun _ => []) := by
  refine Spec_enter (n := 14) Tryz.func93 rfl rfl (rs := [.tmp 4]) rfl rfl rfl ?_
  intro H0 F0
  unfold s_IsSource at hF
  refine au ?_
  refine AbR (fun k1 => ?_)
  iterate 2 refine au ?_
  obtain ⟨o2, hio2, hO3⟩ := bind_some hF
  refine au ?_
  refine C_cut (fun f' cs' => ∃ (c11 : Bool) (g : Fr), c11 = o2 ∧ f' = updL g [(4, (.bool c11))] ∧ Ent cs' []) ?_ ?_
  · replace hF := hio2
    iterate 3 refine au ?_
    obtain ⟨r4, hx5, hF⟩ := bind_some hF
    refine Cx0 (s_AreFacts_ok _ _ _ _ _ hx5) (fun _ => ?_)
    refine au ?_
    rcases Bool.eq_false_or_eq_true r4 with hg7 | hg7
    · rw [hg7]
      try rw [hg7] at hF; dsimp only [cond_true, cond_false] at hF
      iterate 5 refine au ?_
      obtain ⟨r8, hx9, hF⟩ := bind_some hF
      refine Cx0 (s_l1In_ok _ _ _ _ hx9) (fun _ => ?_)
      iterate 3 refine au ?_
      cases hF
      exact ⟨_, _, rfl, eqA, entA⟩
    rw [hg7]
    try rw [hg7] at hF; dsimp only [cond_true, cond_false] at hF
    iterate 6 refine au ?_
    cases hF
    exact ⟨_, _, rfl, eqA, entA⟩
  rintro _ _ ⟨c11, g12, rfl, rfl, hE⟩
  replace hF := hO3
  clear hO3
  try dsimp only at hF
  refine K_ent hE ?_
  refine au ?_
  cases hF
  exact Er ()

/-! spec.IsAccess -/
def s_IsAccess_L1 : List Int → Nat → Option (Bool)
  | [], k23 => some true
  | x25 :: rest24, k23 => (s_l1In x25 0 9).bind fun r34 =>
    if (!r34) then (
      some false)
    else (
      s_IsAccess_L1 rest24 (k23 + 1))
def s_IsAccess (a_s : List Int) (a_l : List Method) (a_a : Access) : Option (Bool) :=
  ((s_AreMethods a_s a_l).bind fun r4 =>
    bif (!r4) then (some true)
    else ((s_l1In a_a.Method 0 (IntKind.i64.wrap ((a_l.length : Int) - 1))).bind fun r8 =>
      bif (!r8) then (some true)
      else ((ix a_l a_a.Method).bind fun x12 =>
        some (((a_a.Values.length : Int) : Int) != (x12.Inputs.length : Int))))).bind fun o2 =>
  match o2 with
  | c19 => if c19 then (
      some false)
    else (
      s_IsAccess_L1 a_a.Values 0)
theorem s_IsAccess_ok (a_s : List Int) (v0_0 : Sv) (a_l : List Method) (v1_0 : Sv) (a_a : Access) (v2_1 : Sv) (R : Bool) (hF : s_IsAccess a_s a_l a_a = some R) :
    Fw.Spec Tryz.prog 95 [v0_0.v, v1_0.v, (.agg [(.int .i64 a_a.Method), v2_1.v].toArray)] [crd (RdS 3 rdInt) v0_0.v a_s, crd (RdS 112 rd112) v1_0.v a_l, crd (RdS 3 rdInt) v2_1.v a_a.Values] (fun _ : Unit => (.bool R)) (fun _ => []) := by
  refine Spec_enter (n := 48) Tryz.func95 rfl rfl (rs := [.tmp 6]) rfl rfl rfl ?_
  intro H0 F0
  unfold s_IsAccess at hF
  refine au ?_
  refine AbR (fun k1 => ?_)
  iterate 3 refine au ?_
  obtain ⟨o2, hio2, hO3⟩ := bind_some hF
  refine K_draw [0, 1, 2, 3, 4, 5, 6, 7, 8, 9, 10, 11, 12, 13, 14, 15, 16, 17, 18, 19, 20, 21, 22, 23, 24, 25] [0, 0, 3, 7, 15, 31, 63, 31, 159, 415, 1023, 2047, 4095, 8191, 16383, 32767, 65535, 16383, 16383, 278527, 933887, 1982463, 4079615, 8273919, 16777215, 33554431] [2, 10] mixed (by decide +kernel) ?_
  refine D_cut (fun f' cs' => ∃ (c19 : Bool) (g : Fr), c19 = o2 ∧ f' = updL g [(5, (.pointer (some ⟨k1, 0, some 0⟩))), (33, (.bool c19))] ∧ Ent cs' [cboR k1 80 (.agg [(.int .i64 a_a.Method), v2_1.v].toArray), crd (RdS 3 rdInt) v2_1.v a_a.Values]) ?_ ?_
  · replace hF := hio2
    iterate 2 refine du ?_
    obtain ⟨r4, hx5, hF⟩ := bind_some hF
    refine Dx0 (s_AreMethods_ok _ _ _ _ _ hx5) (fun _ => ?_)
    iterate 2 refine du ?_
    rcases Bool.eq_false_or_eq_true (!r4) with hg7 | hg7
    · rw [hg7]
      try rw [hg7] at hF; dsimp only [cond_true, cond_false] at hF
      iterate 22 refine du ?_
      cases hF
      exact ⟨_, _, rfl, eqA, entA⟩
    rw [hg7]
    try rw [hg7] at hF; dsimp only [cond_true, cond_false] at hF
    iterate 5 refine du ?_
    obtain ⟨r8, hx9, hF⟩ := bind_some hF
    refine Dx0 (s_l1In_ok _ _ _ _ hx9) (fun _ => ?_)
    iterate 3 refine du ?_
    rcases Bool.eq_false_or_eq_true (!r8) with hg11 | hg11
    · rw [hg11]
      try rw [hg11] at hF; dsimp only [cond_true, cond_false] at hF
      iterate 13 refine du ?_
      cases hF
      exact ⟨_, _, rfl, eqA, entA⟩
    rw [hg11]
    try rw [hg11] at hF; dsimp only [cond_true, cond_false] at hF
    iterate 6 refine du ?_
    obtain ⟨x12, hx13, hF⟩ := bind_some hF
    obtain ⟨hp14, hx15⟩ := ix_some hx13
    refine Di hx15 (fun k16 j17 => ?_)
    refine du ?_
    refine D_ldV (R' := (RdS 3 rdInt)) ag22.h rfl (.on 21 rfl rfl rfl) (.tmp rfl rfl) rfl .h lv112_1 (fun w18 => ?_)
    iterate 4 refine du ?_
    cases hF
    exact ⟨_, _, rfl, eqA, entA⟩
  rintro _ _ ⟨c19, g40, rfl, rfl, hE⟩
  replace hF := hO3
  clear hO3
  try dsimp only at hF
  refine K_ent hE ?_
  refine Cc (fun hb39 => ?_) (fun hb39 => ?_)
  · rw [if_pos hb39] at hF
    iterate 4 refine au ?_
    cases hF
    exact Er ()
  rw [if_neg (nt hb39)] at hF
  iterate 5 refine au ?_
  refine CW_block (CW_loop (m := a_a.Values.length) (fun m21 f' cs' => ∃ (g : Fr) (k23 : Nat) (rest24 : List Int), m21 = rest24.length ∧ f' = updL g [(5, (.pointer (some ⟨k1, 0, some 0⟩))), (7, (.int .i64 (k23 : Int)))] ∧ List.drop k23 a_a.Values = rest24 ∧ Ent cs' [cboR k1 80 (.agg [(.int .i64 a_a.Method), v2_1.v].toArray), crd (RdS 3 rdInt) v2_1.v a_a.Values] ∧ s_IsAccess_L1 rest24 k23 = some R) ⟨_, 0, _, rfl, eqA, rfl, entA, hF⟩ ?_)
  clear hF
  rintro m21 _ _ ⟨g22, k23, rest24, rfl, rfl, hd26, hE, hF⟩
  refine K_ent hE ?_
  clear hE
  refine K_pure (c := crd (RdS 3 rdInt) v2_1.v a_a.Values) (.t .h) crd_bound (fun hbd31 => ?_)
  rcases rest24 with _ | ⟨x25, rest24⟩
  · have hk27 := List.drop_eq_nil_iff.1 hd26
    rw [s_IsAccess_L1] at hF
    iterate 8 refine au ?_
    refine CdF ?_
    iterate 8 refine au ?_
    cases hF
    exact Er ()
  obtain ⟨hk27, hx28, hd29⟩ := drop_cons hd26
  rw [s_IsAccess_L1] at hF
  iterate 8 refine au ?_
  refine CdT ?_
  iterate 6 refine au ?_
  refine Ai hx28 (fun k32 j33 => ?_)
  refine Al ls3_0 ?_
  obtain ⟨r34, hx35, hF⟩ := bind_some hF
  refine Cx0 (s_l1In_ok _ _ _ _ hx35) (fun _ => ?_)
  iterate 2 refine au ?_
  refine Cc (fun hb38 => ?_) (fun hb38 => ?_)
  · rw [if_pos hb38] at hF
    iterate 4 refine au ?_
    cases hF
    exact Er ()
  rw [if_neg (nt hb38)] at hF
  iterate 6 refine au ?_
  rw [wk k23]
  exact ⟨_, Nat.lt_succ_self _, _, k23 + 1, rest24, rfl, eqA, hd29, entA, hF⟩

/-! spec.l4Less -/
def s_l4Less_L1 (a_a : List Int) (a_b : List Int) : Nat → Int → Option (Bool)
  | 0, _ => none
  | m2 + 1, c1 => if ((decide ((c1 : Int) < (a_a.length : Int))) && (decide ((c1 : Int) < (a_b.length : Int)))) then (
      (ix a_a c1).bind fun x12 =>
      (ix a_b c1).bind fun x18 =>
      if ((x12 : Int) != x18) then (
        (ix a_a c1).bind fun x24 =>
        (ix a_b c1).bind fun x30 =>
        some (decide ((x24 : Int) < x30)))
      else (
        s_l4Less_L1 a_a a_b m2 (IntKind.i64.wrap (c1 + 1))))
    else (
      some (decide (((a_a.length : Int) : Int) < (a_b.length : Int))))
def s_l4Less (a_a : List Int) (a_b : List Int) : Option (Bool) :=
  s_l4Less_L1 a_a a_b (((a_a.length : Int) - 0).toNat + 2) 0
theorem s_l4Less_ok (a_a : List Int) (v0_0 : Sv) (a_b : List Int) (v1_0 : Sv) (R : Bool) (hF : s_l4Less a_a a_b = some R) :
    Fw.Spec Tryz.prog 183 [v0_0.v, v1_0.v] [crd (RdS 3 rdInt) v0_0.v a_a, crd (RdS 3 rdInt) v1_0.v a_b] (fun _ : Unit => (.bool R)) (fun _ => []) := by
  refine Spec_enter (n := 41) Tryz.func183 rfl rfl (rs := [.tmp 4]) rfl rfl rfl ?_
  intro H0 F0
  unfold s_l4Less at hF
  iterate 7 refine au ?_
  refine CW_block (CW_loop (m := (((a_a.length : Int) - 0).toNat + 2)) (fun m2 f' cs' => ∃ (g : Fr) (c1 : Int), f' = updL g [(0, v0_0.v), (1, v1_0.v), (5, (.int .i64 c1))] ∧ Ent cs' [crd (RdS 3 rdInt) v0_0.v a_a, crd (RdS 3 rdInt) v1_0.v a_b] ∧ s_l4Less_L1 a_a a_b m2 c1 = some R) ⟨_, _, eqA, entA, hF⟩ ?_)
  clear hF
  rintro m2 _ _ ⟨g3, c1, rfl, hE, hF⟩
  refine K_ent hE ?_
  clear hE
  rcases m2 with _ | m2
  · rw [s_l4Less_L1] at hF
    exact absurd hF (by simp)
  rw [s_l4Less_L1] at hF
  iterate 2 refine au ?_
  refine C_cut (fun f' cs' => ∃ (g : Fr), f' = updL g [(0, v0_0.v), (1, v1_0.v), (5, (.int .i64 c1)), (15, (.bool ((decide ((c1 : Int) < (a_a.length : Int))) && (decide ((c1 : Int) < (a_b.length : Int))))))] ∧ Ent cs' [crd (RdS 3 rdInt) v0_0.v a_a, crd (RdS 3 rdInt) v1_0.v a_b]) ?_ ?_
  · iterate 5 refine au ?_
    rcases Bool.eq_false_or_eq_true (decide ((c1 : Int) < (a_a.length : Int))) with hg10 | hg10
    · rw [hg10]
      try rw [hg10] at hF; dsimp only [cond_true, cond_false] at hF
      iterate 10 refine au ?_
      exact ⟨_, eqA, entA⟩
    rw [hg10]
    try rw [hg10] at hF; dsimp only [cond_true, cond_false] at hF
    iterate 6 refine au ?_
    exact ⟨_, eqA, entA⟩
  rintro _ _ ⟨g11, rfl, hE⟩
  refine K_ent hE ?_
  refine Cc (fun hb37 => ?_) (fun hb37 => ?_)
  · rw [if_pos hb37] at hF
    iterate 2 refine au ?_
    refine K_draw [0, 1, 2, 3, 4, 5, 6, 7, 8] [0, 0, 3, 7, 0, 0, 48, 112, 255] [] mixed (by decide +kernel) ?_
    iterate 2 refine du ?_
    obtain ⟨x12, hx13, hF⟩ := bind_some hF
    obtain ⟨hp14, hx15⟩ := ix_some hx13
    refine Di hx15 (fun k16 j17 => ?_)
    refine Dl ls3_0 ?_
    iterate 2 refine du ?_
    obtain ⟨x18, hx19, hF⟩ := bind_some hF
    obtain ⟨hp20, hx21⟩ := ix_some hx19
    refine Di hx21 (fun k22 j23 => ?_)
    refine Dl ls3_0 ?_
    iterate 2 refine du ?_
    refine Cc (fun hb36 => ?_) (fun hb36 => ?_)
    · rw [if_pos hb36] at hF
      refine K_draw [0, 1, 2, 3, 4, 5, 6, 7, 8, 9] [0, 0, 3, 7, 0, 0, 48, 112, 255, 511] [] mixed (by decide +kernel) ?_
      iterate 2 refine du ?_
      obtain ⟨x24, hx25, hF⟩ := bind_some hF
      obtain ⟨hp26, hx27⟩ := ix_some hx25
      refine Di hx27 (fun k28 j29 => ?_)
      refine Dl ls3_0 ?_
      iterate 2 refine du ?_
      obtain ⟨x30, hx31, hF⟩ := bind_some hF
      obtain ⟨hp32, hx33⟩ := ix_some hx31
      refine Di hx33 (fun k34 j35 => ?_)
      refine Dl ls3_0 ?_
      iterate 3 refine du ?_
      refine au ?_
      cases hF
      exact Er ()
    rw [if_neg (nt hb36)] at hF
    iterate 6 refine au ?_
    exact ⟨m2, Nat.lt_succ_self _, _, _, eqA, entA, hF⟩
  rw [if_neg (nt hb37)] at hF
  iterate 13 refine au ?_
  cases hF
  exact Er ()

/-! spec.l22Less -/
def s_l22Less (a_a : Access) (a_b : Access) : Option (Bool) :=
  if ((a_a.Method : Int) != a_b.Method) then (
    some (decide ((a_a.Method : Int) < a_b.Method)))
  else (
    (s_l4Less a_a.Values a_b.Values).bind fun r3 =>
    some r3)
theorem s_l22Less_ok (a_a : Access) (v0_1 : Sv) (a_b : Access) (v1_1 : Sv) (R : Bool) (hF : s_l22Less a_a a_b = some R) :
    Fw.Spec Tryz.prog 148 [(.agg [(.int .i64 a_a.Method), v0_1.v].toArray), (.agg [(.int .i64 a_b.Method), v1_1.v].toArray)] [crd (RdS 3 rdInt) v0_1.v a_a.Values, crd (RdS 3 rdInt) v1_1.v a_b.Values] (fun _ : Unit => (.bool R)) (fun _ => []) := by
  refine Spec_enter (n := 20) Tryz.func148 rfl rfl (rs := [.tmp 4]) rfl rfl rfl ?_
  intro H0 F0
  unfold s_l22Less at hF
  refine au ?_
  refine AbR (fun k1 => ?_)
  refine AbR (fun k2 => ?_)
  iterate 10 refine au ?_
  refine Cc (fun hb6 => ?_) (fun hb6 => ?_)
  · rw [if_pos hb6] at hF
    iterate 9 refine au ?_
    cases hF
    exact Er ()
  rw [if_neg (nt hb6)] at hF
  iterate 6 refine au ?_
  obtain ⟨r3, hx4, hF⟩ := bind_some hF
  refine Cx0 (s_l4Less_ok _ _ _ _ _ hx4) (fun _ => ?_)
  iterate 3 refine au ?_
  cases hF
  exact Er ()

/-! spec.l5Fits -/
def s_l5Fits_L1 (a_values : List Int) (a_f : Fact) : List Int → Nat → Option (Bool)
  | [], k6 => some true
  | x8 :: rest7, k6 => (ix a_f.Values x8).bind fun x17 =>
    (ix a_values (k6 : Int)).bind fun x23 =>
    if ((x17 : Int) != x23) then (
      some false)
    else (
      s_l5Fits_L1 a_values a_f rest7 (k6 + 1))
def s_l5Fits (a_m : Method) (a_values : List Int) (a_f : Fact) : Option (Bool) :=
  if ((a_f.Rel : Int) != a_m.Rel) then (
    some false)
  else (
    s_l5Fits_L1 a_values a_f a_m.Inputs 0)
theorem s_l5Fits_ok (a_m : Method) (v0_1 : Sv) (a_values : List Int) (v1_0 : Sv) (a_f : Fact) (v2_1 : Sv) (R : Bool) (hF : s_l5Fits a_m a_values a_f = some R) :
    Fw.Spec Tryz.prog 149 [(.agg [(.int .i64 a_m.Rel), v0_1.v, (.int .i64 a_m.Limit), (.int .i64 a_m.Cost), (.int .i64 a_m.Quota)].toArray), v1_0.v, (.agg [(.int .i64 a_f.Rel), v2_1.v].toArray)] [crd (RdS 3 rdInt) v0_1.v a_m.Inputs, crd (RdS 3 rdInt) v1_0.v a_values, crd (RdS 3 rdInt) v2_1.v a_f.Values] (fun _ : Unit => (.bool R)) (fun _ => []) := by
  refine Spec_enter (n := 34) Tryz.func149 rfl rfl (rs := [.tmp 6]) rfl rfl rfl ?_
  intro H0 F0
  unfold s_l5Fits at hF
  refine au ?_
  refine AbR (fun k1 => ?_)
  refine AbR (fun k2 => ?_)
  iterate 10 refine au ?_
  refine Cc (fun hb31 => ?_) (fun hb31 => ?_)
  · rw [if_pos hb31] at hF
    iterate 4 refine au ?_
    cases hF
    exact Er ()
  rw [if_neg (nt hb31)] at hF
  iterate 5 refine au ?_
  refine CW_block (CW_loop (m := a_m.Inputs.length) (fun m4 f' cs' => ∃ (g : Fr) (k6 : Nat) (rest7 : List Int), m4 = rest7.length ∧ f' = updL g [(1, v1_0.v), (3, (.pointer (some ⟨k1, 0, some 0⟩))), (5, (.pointer (some ⟨k2, 0, some 0⟩))), (7, (.int .i64 (k6 : Int)))] ∧ List.drop k6 a_m.Inputs = rest7 ∧ Ent cs' [crd (RdS 3 rdInt) v1_0.v a_values, cboR k1 112 (.agg [(.int .i64 a_m.Rel), v0_1.v, (.int .i64 a_m.Limit), (.int .i64 a_m.Cost), (.int .i64 a_m.Quota)].toArray), crd (RdS 3 rdInt) v0_1.v a_m.Inputs, cboR k2 114 (.agg [(.int .i64 a_f.Rel), v2_1.v].toArray), crd (RdS 3 rdInt) v2_1.v a_f.Values] ∧ s_l5Fits_L1 a_values a_f rest7 k6 = some R) ⟨_, 0, _, rfl, eqA, rfl, entA, hF⟩ ?_)
  clear hF
  rintro m4 _ _ ⟨g5, k6, rest7, rfl, rfl, hd9, hE, hF⟩
  refine K_ent hE ?_
  clear hE
  refine K_pure (c := crd (RdS 3 rdInt) v0_1.v a_m.Inputs) (.t (.t .h)) crd_bound (fun hbd14 => ?_)
  rcases rest7 with _ | ⟨x8, rest7⟩
  · have hk10 := List.drop_eq_nil_iff.1 hd9
    rw [s_l5Fits_L1] at hF
    iterate 8 refine au ?_
    refine CdF ?_
    iterate 8 refine au ?_
    cases hF
    exact Er ()
  obtain ⟨hk10, hx11, hd12⟩ := drop_cons hd9
  rw [s_l5Fits_L1] at hF
  iterate 8 refine au ?_
  refine CdT ?_
  iterate 2 refine au ?_
  refine K_draw [0, 1, 2, 3, 4, 5, 6, 7, 8, 9, 10, 11, 12, 13] [0, 1, 0, 4, 0, 28, 60, 127, 255, 0, 0, 1536, 3584, 8191] [] mixed (by decide +kernel) ?_
  iterate 5 refine du ?_
  refine Di hx11 (fun k15 j16 => ?_)
  refine Dl ls3_0 ?_
  obtain ⟨x17, hx18, hF⟩ := bind_some hF
  obtain ⟨hp19, hx20⟩ := ix_some hx18
  refine Di hx20 (fun k21 j22 => ?_)
  refine Dl ls3_0 ?_
  iterate 2 refine du ?_
  obtain ⟨x23, hx24, hF⟩ := bind_some hF
  obtain ⟨hp25, hx26⟩ := ix_some hx24
  refine Di hx26 (fun k27 j28 => ?_)
  refine Dl ls3_0 ?_
  iterate 2 refine du ?_
  refine Cc (fun hb30 => ?_) (fun hb30 => ?_)
  · rw [if_pos hb30] at hF
    iterate 4 refine au ?_
    cases hF
    exact Er ()
  rw [if_neg (nt hb30)] at hF
  iterate 6 refine au ?_
  rw [wk k6]
  exact ⟨_, Nat.lt_succ_self _, _, k6 + 1, rest7, rfl, eqA, hd12, entA, hF⟩

/-! spec.IsCache -/
def s_IsCache_L2 (a_l : List Method) (x18 : Stored) : List Fact → Nat → Option (Sum (Bool) (Unit))
  | [], k60 => some (.inr ())
  | x62 :: rest61, k60 => (ix a_l x18.Access.Method).bind fun x69 =>
    (s_l5Fits x69 x18.Access.Values x62).bind fun r79 =>
    if (!r79) then (
      some (.inl false))
    else (
      s_IsCache_L2 a_l x18 rest61 (k60 + 1))
def s_IsCache_L1 (a_s : List Int) (a_l : List Method) (a_c : Cache) : List Stored → Nat → Option (Bool)
  | [], k16 => some true
  | x18 :: rest17, k16 => ((((s_IsAccess a_s a_l x18.Access).bind fun r33 =>
        bif (!r33) then (some true)
        else ((s_AreFacts a_s x18.Facts).bind fun r37 =>
          bif (!r37) then (some true)
          else ((s_l1In x18.At 0 10000).bind fun r41 =>
            bif (!r41) then (some true)
            else (bif (decide ((0 : Int) < (k16 : Int))) then ((ix a_c.Entries (IntKind.i64.wrap ((k16 : Int) - 1))).bind fun x46 =>
                (s_l22Less x46.Access x18.Access).bind fun r53 =>
                some (!r53))
              else (some false))))).bind fun o31 =>
      match o31 with
      | c56 => if c56 then (
          some (.inl false))
        else (
          s_IsCache_L2 a_l x18 x18.Facts 0)) : Option (Sum (Bool) (Unit))).bind fun o25 =>
    match o25 with
    | .inl r => some r
    | .inr _ => s_IsCache_L1 a_s a_l a_c rest17 (k16 + 1)
def s_IsCache (a_s : List Int) (a_l : List Method) (a_c : Cache) : Option (Bool) :=
  ((s_AreMethods a_s a_l).bind fun r4 =>
    bif (!r4) then (some true)
    else ((s_l1In a_c.Age 0 100).bind fun r8 =>
      bif (!r8) then (some true)
      else (some (decide ((100 : Int) < (a_c.Entries.length : Int)))))).bind fun o2 =>
  match o2 with
  | c12 => if c12 then (
      some false)
    else (
      s_IsCache_L1 a_s a_l a_c a_c.Entries 0)
theorem s_IsCache_ok (a_s : List Int) (v0_0 : Sv) (a_l : List Method) (v1_0 : Sv) (a_c : Cache) (v2_0 : Sv) (R : Bool) (hF : s_IsCache a_s a_l a_c = some R) :
    Fw.Spec Tryz.prog 94 [v0_0.v, v1_0.v, (.agg [v2_0.v, (.int .i64 a_c.Age)].toArray)] [crd (RdS 3 rdInt) v0_0.v a_s, crd (RdS 112 rd112) v1_0.v a_l, crd (RdS 82 rd82) v2_0.v a_c.Entries] (fun _ : Unit => (.bool R)) (fun _ => []) := by
  refine Spec_enter (n := 97) Tryz.func94 rfl rfl (rs := [.tmp 6]) rfl rfl rfl ?_
  intro H0 F0
  unfold s_IsCache at hF
  refine au ?_
  refine AbR (fun k1 => ?_)
  iterate 3 refine au ?_
  obtain ⟨o2, hio2, hO3⟩ := bind_some hF
  refine au ?_
  refine C_cut (fun f' cs' => ∃ (c12 : Bool) (g : Fr), c12 = o2 ∧ f' = updL g [(0, v0_0.v), (1, v1_0.v), (5, (.pointer (some ⟨k1, 0, some 0⟩))), (25, (.bool c12))] ∧ Ent cs' [crd (RdS 3 rdInt) v0_0.v a_s, crd (RdS 112 rd112) v1_0.v a_l, cboR k1 45 (.agg [v2_0.v, (.int .i64 a_c.Age)].toArray), crd (RdS 82 rd82) v2_0.v a_c.Entries]) ?_ ?_
  · replace hF := hio2
    iterate 2 refine au ?_
    obtain ⟨r4, hx5, hF⟩ := bind_some hF
    refine Cx0 (s_AreMethods_ok _ _ _ _ _ hx5) (fun _ => ?_)
    iterate 2 refine au ?_
    rcases Bool.eq_false_or_eq_true (!r4) with hg7 | hg7
    · rw [hg7]
      try rw [hg7] at hF; dsimp only [cond_true, cond_false] at hF
      iterate 12 refine au ?_
      cases hF
      exact ⟨_, _, rfl, eqA, entA⟩
    rw [hg7]
    try rw [hg7] at hF; dsimp only [cond_true, cond_false] at hF
    iterate 5 refine au ?_
    obtain ⟨r8, hx9, hF⟩ := bind_some hF
    refine Cx0 (s_l1In_ok _ _ _ _ hx9) (fun _ => ?_)
    iterate 4 refine au ?_
    rcases Bool.eq_false_or_eq_true (!r8) with hg11 | hg11
    · rw [hg11]
      try rw [hg11] at hF; dsimp only [cond_true, cond_false] at hF
      iterate 6 refine au ?_
      cases hF
      exact ⟨_, _, rfl, eqA, entA⟩
    rw [hg11]
    try rw [hg11] at hF; dsimp only [cond_true, cond_false] at hF
    iterate 10 refine au ?_
    cases hF
    exact ⟨_, _, rfl, eqA, entA⟩
  rintro _ _ ⟨c12, g89, rfl, rfl, hE⟩
  replace hF := hO3
  clear hO3
  try dsimp only at hF
  refine K_ent hE ?_
  refine Cc (fun hb88 => ?_) (fun hb88 => ?_)
  · rw [if_pos hb88] at hF
    iterate 4 refine au ?_
    cases hF
    exact Er ()
  rw [if_neg (nt hb88)] at hF
  iterate 5 refine au ?_
  refine CW_block (CW_loop (m := a_c.Entries.length) (fun m14 f' cs' => ∃ (g : Fr) (k16 : Nat) (rest17 : List Stored), m14 = rest17.length ∧ f' = updL g [(0, v0_0.v), (1, v1_0.v), (5, (.pointer (some ⟨k1, 0, some 0⟩))), (7, (.int .i64 (k16 : Int)))] ∧ List.drop k16 a_c.Entries = rest17 ∧ Ent cs' [crd (RdS 3 rdInt) v0_0.v a_s, crd (RdS 112 rd112) v1_0.v a_l, cboR k1 45 (.agg [v2_0.v, (.int .i64 a_c.Age)].toArray), crd (RdS 82 rd82) v2_0.v a_c.Entries] ∧ s_IsCache_L1 a_s a_l a_c rest17 k16 = some R) ⟨_, 0, _, rfl, eqA, rfl, entA, hF⟩ ?_)
  clear hF
  rintro m14 _ _ ⟨g15, k16, rest17, rfl, rfl, hd19, hE, hF⟩
  refine K_ent hE ?_
  clear hE
  refine K_pure (c := crd (RdS 82 rd82) v2_0.v a_c.Entries) (.t (.t (.t .h))) crd_bound (fun hbd24 => ?_)
  rcases rest17 with _ | ⟨x18, rest17⟩
  · have hk20 := List.drop_eq_nil_iff.1 hd19
    rw [s_IsCache_L1] at hF
    iterate 8 refine au ?_
    refine CdF ?_
    iterate 8 refine au ?_
    cases hF
    exact Er ()
  obtain ⟨hk20, hx21, hd22⟩ := drop_cons hd19
  rw [s_IsCache_L1] at hF
  iterate 8 refine au ?_
  refine CdT ?_
  refine au ?_
  obtain ⟨o25, hio25, hO26⟩ := bind_some hF
  refine K_cut (fun f' cs' => ∃ (g : Fr), o25 = .inr () ∧ f' = updL g [(0, v0_0.v), (1, v1_0.v), (5, (.pointer (some ⟨k1, 0, some 0⟩))), (7, (.int .i64 (k16 : Int)))] ∧ Ent cs' [crd (RdS 3 rdInt) v0_0.v a_s, crd (RdS 112 rd112) v1_0.v a_l, cboR k1 45 (.agg [v2_0.v, (.int .i64 a_c.Age)].toArray), crd (RdS 82 rd82) v2_0.v a_c.Entries]) ?_ ?_
  · replace hF := hio25
    refine CW_block (K_region (C_val (V_fieldAddr (off := 0) fd45_0.h (.tmp rfl rfl)) ?_))
    iterate 2 refine au ?_
    refine Ai hx21 (fun k27 j28 => ?_)
    refine AlA2 (ul82_0_82 x18) la82_0_82 (fun p29 => ?_)
    refine AnW (fun k30 => ?_)
    refine As (.agg [(.int .i64 x18.Access.Method), p29.1.v, p29.2.v, (.int .i64 x18.At)].toArray) ?_
    iterate 2 refine au ?_
    obtain ⟨o31, hio31, hO32⟩ := bind_some hF
    refine K_draw [0, 1, 2, 3, 4, 5, 6, 7, 8, 9, 10, 11, 12, 13, 14, 15, 16, 17, 18, 19, 20, 21, 22, 23, 24, 25, 26, 27, 28, 29, 30, 31, 32, 33, 34, 35] [0, 0, 0, 4, 15, 31, 63, 127, 127, 383, 1023, 2047, 4095, 8191, 16383, 32767, 65535, 131071, 262143, 524287, 1048575, 2097151, 4194303, 8388607, 16777215, 8388607, 41943039, 134217727, 268435455, 536870911, 8388607, 1082130431, 4294967295, 8589934591, 17179869183, 34359738367] [4, 10, 16, 32] mixed (by decide +kernel) ?_
    refine D_cut (fun f' cs' => ∃ (c56 : Bool) (g : Fr), c56 = o31 ∧ f' = updL g [(0, v0_0.v), (1, v1_0.v), (5, (.pointer (some ⟨k1, 0, some 0⟩))), (7, (.int .i64 (k16 : Int))), (8, (.pointer (some ⟨k30, 0, some 0⟩))), (73, (.bool c56))] ∧ Ent cs' [crd (RdS 3 rdInt) v0_0.v a_s, crd (RdS 112 rd112) v1_0.v a_l, cboR k1 45 (.agg [v2_0.v, (.int .i64 a_c.Age)].toArray), crd (RdS 82 rd82) v2_0.v a_c.Entries, cbox k30 82 (.agg [(.int .i64 x18.Access.Method), p29.1.v, p29.2.v, (.int .i64 x18.At)].toArray), crd (RdS 3 rdInt) p29.1.v x18.Access.Values, crd (RdS 114 rd114) p29.2.v x18.Facts]) ?_ ?_
    · replace hF := hio31
      iterate 3 refine du ?_
      refine D_atO rfl .no .h (fun ha hp => V_loadA (s := 2) (l := [(.int .i64 x18.Access.Method), p29.1.v]) ag80.h ty80.h.sz (EN ha (.tmp rfl rfl) rfl) hp.2 rfl (by decide) (Nat.le_of_ble_eq_true rfl) rfl) ?_
      obtain ⟨r33, hx34, hF⟩ := bind_some hF
      refine Dx0 (s_IsAccess_ok _ _ _ _ _ _ _ hx34) (fun _ => ?_)
      iterate 2 refine du ?_
      rcases Bool.eq_false_or_eq_true (!r33) with hg36 | hg36
      · rw [hg36]
        try rw [hg36] at hF; dsimp only [cond_true, cond_false] at hF
        iterate 30 refine du ?_
        cases hF
        exact ⟨_, _, rfl, eqA, entA⟩
      rw [hg36]
      try rw [hg36] at hF; dsimp only [cond_true, cond_false] at hF
      iterate 2 refine du ?_
      refine D_atO rfl (.on 44 rfl rfl rfl) .h (fun ha hp => V_load (v := p29.2.v) ag40.h (EN ha (.tmp rfl rfl) rfl) hp.2 rfl rfl) ?_
      obtain ⟨r37, hx38, hF⟩ := bind_some hF
      refine Dx0 (s_AreFacts_ok _ _ _ _ _ hx38) (fun _ => ?_)
      iterate 3 refine du ?_
      rcases Bool.eq_false_or_eq_true (!r37) with hg40 | hg40
      · rw [hg40]
        try rw [hg40] at hF; dsimp only [cond_true, cond_false] at hF
        iterate 23 refine du ?_
        cases hF
        exact ⟨_, _, rfl, eqA, entA⟩
      rw [hg40]
      try rw [hg40] at hF; dsimp only [cond_true, cond_false] at hF
      refine du ?_
      refine D_atO rfl (.on 51 rfl rfl rfl) .h (fun ha hp => V_load (v := (.int .i64 x18.At)) ag3.h (EN ha (.tmp rfl rfl) rfl) hp.2 rfl rfl) ?_
      obtain ⟨r41, hx42, hF⟩ := bind_some hF
      refine Dx0 (s_l1In_ok _ _ _ _ hx42) (fun _ => ?_)
      iterate 3 refine du ?_
      rcases Bool.eq_false_or_eq_true (!r41) with hg44 | hg44
      · rw [hg44]
        try rw [hg44] at hF; dsimp only [cond_true, cond_false] at hF
        iterate 17 refine du ?_
        cases hF
        exact ⟨_, _, rfl, eqA, entA⟩
      rw [hg44]
      try rw [hg44] at hF; dsimp only [cond_true, cond_false] at hF
      iterate 3 refine du ?_
      rcases Bool.eq_false_or_eq_true (decide ((0 : Int) < (k16 : Int))) with hg45 | hg45
      · rw [hg45]
        try rw [hg45] at hF; dsimp only [cond_true, cond_false] at hF
        iterate 4 refine du ?_
        obtain ⟨x46, hx47, hF⟩ := bind_some hF
        obtain ⟨hp48, hx49⟩ := ix_some hx47
        refine Di hx49 (fun k50 j51 => ?_)
        refine du ?_
        refine DlA1 (ul82_0_80 x46) la82_0_80 (fun p52 => ?_)
        refine du ?_
        refine D_atO rfl (.on 60 rfl rfl rfl) (.t (.t .h)) (fun ha hp => V_loadA (s := 2) (l := [(.int .i64 x18.Access.Method), p29.1.v]) ag80.h ty80.h.sz (EN ha (.tmp rfl rfl) rfl) hp.2 rfl (by decide) (Nat.le_of_ble_eq_true rfl) rfl) ?_
        obtain ⟨r53, hx54, hF⟩ := bind_some hF
        refine Dx0 (s_l22Less_ok _ _ _ _ _ hx54) (fun _ => ?_)
        iterate 4 refine du ?_
        cases hF
        exact ⟨_, _, rfl, eqA, entA⟩
      rw [hg45]
      try rw [hg45] at hF; dsimp only [cond_true, cond_false] at hF
      iterate 14 refine du ?_
      cases hF
      exact ⟨_, _, rfl, eqA, entA⟩
    rintro _ _ ⟨c56, g85, rfl, rfl, hE⟩
    replace hF := hO32
    clear hO32
    try dsimp only at hF
    refine K_ent hE ?_
    refine Cc (fun hb84 => ?_) (fun hb84 => ?_)
    · rw [if_pos hb84] at hF
      iterate 4 refine au ?_
      cases hF
      replace hF := hO26
      try dsimp only at hF
      cases hF
      exact Er ()
    rw [if_neg (nt hb84)] at hF
    iterate 4 refine au ?_
    refine CW_block (CW_loop (m := x18.Facts.length) (fun m58 f' cs' => ∃ (g : Fr) (k60 : Nat) (rest61 : List Fact), m58 = rest61.length ∧ f' = updL g [(0, v0_0.v), (1, v1_0.v), (5, (.pointer (some ⟨k1, 0, some 0⟩))), (7, (.int .i64 (k16 : Int))), (8, (.pointer (some ⟨k30, 0, some 0⟩))), (9, (.int .i64 (k60 : Int)))] ∧ List.drop k60 x18.Facts = rest61 ∧ Ent cs' [crd (RdS 3 rdInt) v0_0.v a_s, crd (RdS 112 rd112) v1_0.v a_l, cboR k1 45 (.agg [v2_0.v, (.int .i64 a_c.Age)].toArray), crd (RdS 82 rd82) v2_0.v a_c.Entries, cbox k30 82 (.agg [(.int .i64 x18.Access.Method), p29.1.v, p29.2.v, (.int .i64 x18.At)].toArray), crd (RdS 3 rdInt) p29.1.v x18.Access.Values, crd (RdS 114 rd114) p29.2.v x18.Facts] ∧ s_IsCache_L2 a_l x18 rest61 k60 = some o25) ⟨_, 0, _, rfl, eqA, rfl, entA, hF⟩ ?_)
    clear hF
    rintro m58 _ _ ⟨g59, k60, rest61, rfl, rfl, hd63, hE, hF⟩
    refine K_ent hE ?_
    clear hE
    refine K_pure (c := crd (RdS 114 rd114) p29.2.v x18.Facts) (.t (.t (.t (.t (.t (.t .h)))))) crd_bound (fun hbd68 => ?_)
    rcases rest61 with _ | ⟨x62, rest61⟩
    · have hk64 := List.drop_eq_nil_iff.1 hd63
      rw [s_IsCache_L2] at hF
      iterate 8 refine au ?_
      refine CdF ?_
      iterate 4 refine au ?_
      cases hF
      exact ⟨_, rfl, eqA, entA⟩
    obtain ⟨hk64, hx65, hd66⟩ := drop_cons hd63
    rw [s_IsCache_L2] at hF
    iterate 8 refine au ?_
    refine CdT ?_
    iterate 2 refine au ?_
    refine K_draw [0, 1, 2, 3, 4, 5, 6, 7, 8, 9, 10, 11, 12, 13, 14, 15] [0, 0, 2, 6, 15, 31, 0, 64, 192, 0, 512, 0, 3584, 7680, 16383, 32767] [14] mixed (by decide +kernel) ?_
    iterate 3 refine du ?_
    refine D_atO rfl .no (.t (.t (.t (.t .h)))) (fun ha hp => V_load (v := (.int .i64 x18.Access.Method)) ag3.h (EN ha (.tmp rfl rfl) rfl) hp.2 rfl rfl) ?_
    obtain ⟨x69, hx70, hF⟩ := bind_some hF
    obtain ⟨hp71, hx72⟩ := ix_some hx70
    refine Di hx72 (fun k73 j74 => ?_)
    refine DlA1 (ul112_0_112 x69) la112_0_112 (fun p75 => ?_)
    iterate 2 refine du ?_
    refine D_atO rfl .no (.t (.t (.t (.t (.t (.t .h)))))) (fun ha hp => V_load (v := p29.1.v) ag22.h (EN ha (.tmp rfl rfl) rfl) hp.2 rfl rfl) ?_
    refine du ?_
    refine D_atO rfl .no (.t (.t (.t (.t (.t (.t .h)))))) (fun ha hp => V_load (v := p29.2.v) ag40.h (EN ha (.tmp rfl rfl) rfl) hp.2 rfl rfl) ?_
    refine du ?_
    refine Di hx65 (fun k76 j77 => ?_)
    refine DlA1 (ul114_0_114 x62) la114_0_114 (fun p78 => ?_)
    obtain ⟨r79, hx80, hF⟩ := bind_some hF
    refine Dx0 (s_l5Fits_ok _ _ _ _ _ _ _ hx80) (fun _ => ?_)
    iterate 2 refine du ?_
    refine Cc (fun hb83 => ?_) (fun hb83 => ?_)
    · rw [if_pos hb83] at hF
      iterate 4 refine au ?_
      cases hF
      replace hF := hO26
      try dsimp only at hF
      cases hF
      exact Er ()
    rw [if_neg (nt hb83)] at hF
    iterate 6 refine au ?_
    rw [wk k60]
    exact ⟨_, Nat.lt_succ_self _, _, k60 + 1, rest61, rfl, eqA, hd66, entA, hF⟩
  rintro _ _ ⟨g87, rfl, rfl, hE⟩
  replace hF := hO26
  clear hO26
  try dsimp only at hF
  refine K_ent hE ?_
  iterate 5 refine au ?_
  rw [wk k16]
  exact ⟨_, Nat.lt_succ_self _, _, k16 + 1, rest17, rfl, eqA, hd22, entA, hF⟩

/-! spec.l18Times -/
def s_l18Times_L1 (a_times : List Int) : List Int → Nat → Option (Bool)
  | [], k4 => some (decide (((a_times.length : Int) : Int) ≤ 1000))
  | x6 :: rest5, k4 => ((s_l1In x6 0 10000).bind fun r17 =>
      bif (!r17) then (some true)
      else (bif (decide ((0 : Int) < (k4 : Int))) then ((ix a_times (IntKind.i64.wrap ((k4 : Int) - 1))).bind fun x24 =>
          some (decide ((x6 : Int) < x24)))
        else (some false))).bind fun o13 =>
    match o13 with
    | c30 => if c30 then (
        some false)
      else (
        s_l18Times_L1 a_times rest5 (k4 + 1))
def s_l18Times (a_times : List Int) : Option (Bool) :=
  s_l18Times_L1 a_times a_times 0
theorem s_l18Times_ok (a_times : List Int) (v0_0 : Sv) (R : Bool) (hF : s_l18Times a_times = some R) :
    Fw.Spec Tryz.prog 97 [v0_0.v] [crd (RdS 3 rdInt) v0_0.v a_times] (fun _ : Unit => (.bool R)) (fun _ => []) := by
  refine Spec_enter (n := 35) Tryz.func97 rfl rfl (rs := [.tmp 2]) rfl rfl rfl ?_
  intro H0 F0
  unfold s_l18Times at hF
  iterate 7 refine au ?_
  refine CW_block (CW_loop (m := a_times.length) (fun m2 f' cs' => ∃ (g : Fr) (k4 : Nat) (rest5 : List Int), m2 = rest5.length ∧ f' = updL g [(0, v0_0.v), (3, (.int .i64 (k4 : Int)))] ∧ List.drop k4 a_times = rest5 ∧ Ent cs' [crd (RdS 3 rdInt) v0_0.v a_times] ∧ s_l18Times_L1 a_times rest5 k4 = some R) ⟨_, 0, _, rfl, eqA, rfl, entA, hF⟩ ?_)
  clear hF
  rintro m2 _ _ ⟨g3, k4, rest5, rfl, rfl, hd7, hE, hF⟩
  refine K_ent hE ?_
  clear hE
  refine K_pure (c := crd (RdS 3 rdInt) v0_0.v a_times) .h crd_bound (fun hbd12 => ?_)
  rcases rest5 with _ | ⟨x6, rest5⟩
  · have hk8 := List.drop_eq_nil_iff.1 hd7
    rw [s_l18Times_L1] at hF
    iterate 7 refine au ?_
    refine CdF ?_
    iterate 11 refine au ?_
    cases hF
    exact Er ()
  obtain ⟨hk8, hx9, hd10⟩ := drop_cons hd7
  rw [s_l18Times_L1] at hF
  iterate 7 refine au ?_
  refine CdT ?_
  iterate 2 refine au ?_
  obtain ⟨o13, hio13, hO14⟩ := bind_some hF
  refine K_draw [0, 1, 2, 3, 4, 5, 6, 7, 8, 9, 10, 11, 12, 13, 14, 15, 16, 17, 18, 19, 20, 21] [0, 0, 3, 7, 15, 31, 63, 127, 255, 511, 1023, 1023, 4095, 8191, 1023, 1023, 33791, 115711, 246783, 524287, 1048575, 2097151] [4] mixed (by decide +kernel) ?_
  refine D_cut (fun f' cs' => ∃ (c30 : Bool) (g : Fr), c30 = o13 ∧ f' = updL g [(0, v0_0.v), (3, (.int .i64 (k4 : Int))), (31, (.bool c30))] ∧ Ent cs' [crd (RdS 3 rdInt) v0_0.v a_times]) ?_ ?_
  · replace hF := hio13
    iterate 2 refine du ?_
    refine Di hx9 (fun k15 j16 => ?_)
    refine Dl ls3_0 ?_
    obtain ⟨r17, hx18, hF⟩ := bind_some hF
    refine Dx0 (s_l1In_ok _ _ _ _ hx18) (fun _ => ?_)
    iterate 2 refine du ?_
    rcases Bool.eq_false_or_eq_true (!r17) with hg20 | hg20
    · rw [hg20]
      try rw [hg20] at hF; dsimp only [cond_true, cond_false] at hF
      iterate 16 refine du ?_
      cases hF
      exact ⟨_, _, rfl, eqA, entA⟩
    rw [hg20]
    try rw [hg20] at hF; dsimp only [cond_true, cond_false] at hF
    iterate 3 refine du ?_
    rcases Bool.eq_false_or_eq_true (decide ((0 : Int) < (k4 : Int))) with hg21 | hg21
    · rw [hg21]
      try rw [hg21] at hF; dsimp only [cond_true, cond_false] at hF
      iterate 2 refine du ?_
      refine Di hx9 (fun k22 j23 => ?_)
      refine Dl ls3_0 ?_
      iterate 3 refine du ?_
      obtain ⟨x24, hx25, hF⟩ := bind_some hF
      obtain ⟨hp26, hx27⟩ := ix_some hx25
      refine Di hx27 (fun k28 j29 => ?_)
      refine Dl ls3_0 ?_
      iterate 4 refine du ?_
      cases hF
      exact ⟨_, _, rfl, eqA, entA⟩
    rw [hg21]
    try rw [hg21] at hF; dsimp only [cond_true, cond_false] at hF
    iterate 13 refine du ?_
    cases hF
    exact ⟨_, _, rfl, eqA, entA⟩
  rintro _ _ ⟨c30, g33, rfl, rfl, hE⟩
  replace hF := hO14
  clear hO14
  try dsimp only at hF
  refine K_ent hE ?_
  refine Cc (fun hb32 => ?_) (fun hb32 => ?_)
  · rw [if_pos hb32] at hF
    iterate 4 refine au ?_
    cases hF
    exact Er ()
  rw [if_neg (nt hb32)] at hF
  iterate 6 refine au ?_
  rw [wk k4]
  exact ⟨_, Nat.lt_succ_self _, _, k4 + 1, rest5, rfl, eqA, hd10, entA, hF⟩

/-! spec.IsMediator -/
def s_IsMediator_L1 (a_m : Mediator) : List Access → Nat → Option (Bool)
  | [], k27 => ((s_l1In a_m.Now 0 10000).bind fun r38 =>
      bif r38 then (bif (decide (((a_m.Log.length : Int) : Int) ≤ 1000)) then (bif (((a_m.Times.length : Int) : Int) == (a_m.Log.length : Int)) then ((s_l18Times a_m.Times).bind fun r44 =>
            bif r44 then ((s_l1In a_m.Spent 0 1000000).bind fun r48 =>
              bif r48 then (some (decide (((a_m.Results.length : Int) : Int) ≤ 100)))
              else (some false))
            else (some false))
          else (some false))
        else (some false))
      else (some false)).bind fun o36 =>
    match o36 with
    | c52 => some c52
  | x29 :: rest28, k27 => (s_IsAccess a_m.Schema a_m.Methods x29).bind fun r57 =>
    if (!r57) then (
      some false)
    else (
      s_IsMediator_L1 a_m rest28 (k27 + 1))
def s_IsMediator (a_m : Mediator) : Option (Bool) :=
  ((s_IsSchema a_m.Schema).bind fun r4 =>
    bif (!r4) then (some true)
    else ((s_AreMethods a_m.Schema a_m.Methods).bind fun r8 =>
      bif (!r8) then (some true)
      else ((s_AreRules a_m.Schema a_m.Rules).bind fun r12 =>
        bif (!r12) then (some true)
        else ((s_IsSource a_m.Schema a_m.Source).bind fun r16 =>
          bif (!r16) then (some true)
          else ((s_IsCache a_m.Schema a_m.Methods a_m.Cache).bind fun r20 =>
            some (!r20)))))).bind fun o2 =>
  match o2 with
  | c23 => if c23 then (
      some false)
    else (
      s_IsMediator_L1 a_m a_m.Log 0)
theorem s_IsMediator_ok (a_m : Mediator) (v0_0 : Sv) (v0_1 : Sv) (v0_2 : Sv) (v0_3 : Sv) (v0_5 : Sv) (v0_8 : Sv) (v0_9 : Sv) (v0_11 : Sv) (R : Bool) (hF : s_IsMediator a_m = some R) :
    Fw.Spec Tryz.prog 36 [(.agg [v0_0.v, v0_1.v, v0_2.v, v0_3.v, (.int .i64 a_m.Source.Version), v0_5.v, (.int .i64 a_m.Cache.Age), (.int .i64 a_m.Now), v0_8.v, v0_9.v, (.int .i64 a_m.Spent), v0_11.v].toArray)] [crd (RdS 3 rdInt) v0_0.v a_m.Schema, crd (RdS 112 rd112) v0_1.v a_m.Methods, crd (RdS 148 rd148) v0_2.v a_m.Rules, crd (RdS 114 rd114) v0_3.v a_m.Source.Facts, crd (RdS 82 rd82) v0_5.v a_m.Cache.Entries, crd (RdS 80 rd80) v0_8.v a_m.Log, crd (RdS 3 rdInt) v0_9.v a_m.Times, crd (RdS 139 (RdS 22 (RdS 3 rdInt))) v0_11.v a_m.Results] (fun _ : Unit => (.bool R)) (fun _ => []) := by
  refine Spec_enter (n := 94) Tryz.func36 rfl rfl (rs := [.tmp 2]) rfl rfl rfl ?_
  intro H0 F0
  unfold s_IsMediator at hF
  refine au ?_
  refine AbR (fun k1 => ?_)
  iterate 3 refine au ?_
  obtain ⟨o2, hio2, hO3⟩ := bind_some hF
  refine au ?_
  refine C_cut (fun f' cs' => ∃ (c23 : Bool) (g : Fr), c23 = o2 ∧ f' = updL g [(1, (.pointer (some ⟨k1, 0, some 0⟩))), (41, (.bool c23))] ∧ Ent cs' [cboR k1 48 (.agg [v0_0.v, v0_1.v, v0_2.v, v0_3.v, (.int .i64 a_m.Source.Version), v0_5.v, (.int .i64 a_m.Cache.Age), (.int .i64 a_m.Now), v0_8.v, v0_9.v, (.int .i64 a_m.Spent), v0_11.v].toArray), crd (RdS 3 rdInt) v0_0.v a_m.Schema, crd (RdS 112 rd112) v0_1.v a_m.Methods, crd (RdS 148 rd148) v0_2.v a_m.Rules, crd (RdS 114 rd114) v0_3.v a_m.Source.Facts, crd (RdS 82 rd82) v0_5.v a_m.Cache.Entries, crd (RdS 80 rd80) v0_8.v a_m.Log, crd (RdS 3 rdInt) v0_9.v a_m.Times, crd (RdS 139 (RdS 22 (RdS 3 rdInt))) v0_11.v a_m.Results]) ?_ ?_
  · replace hF := hio2
    iterate 2 refine au ?_
    obtain ⟨r4, hx5, hF⟩ := bind_some hF
    refine Cx0 (s_IsSchema_ok _ _ _ hx5) (fun _ => ?_)
    iterate 2 refine au ?_
    rcases Bool.eq_false_or_eq_true (!r4) with hg7 | hg7
    · rw [hg7]
      try rw [hg7] at hF; dsimp only [cond_true, cond_false] at hF
      iterate 34 refine au ?_
      cases hF
      exact ⟨_, _, rfl, eqA, entA⟩
    rw [hg7]
    try rw [hg7] at hF; dsimp only [cond_true, cond_false] at hF
    iterate 9 refine au ?_
    obtain ⟨r8, hx9, hF⟩ := bind_some hF
    refine Cx0 (s_AreMethods_ok _ _ _ _ _ hx9) (fun _ => ?_)
    iterate 4 refine au ?_
    rcases Bool.eq_false_or_eq_true (!r8) with hg11 | hg11
    · rw [hg11]
      try rw [hg11] at hF; dsimp only [cond_true, cond_false] at hF
      iterate 26 refine au ?_
      cases hF
      exact ⟨_, _, rfl, eqA, entA⟩
    rw [hg11]
    try rw [hg11] at hF; dsimp only [cond_true, cond_false] at hF
    iterate 9 refine au ?_
    obtain ⟨r12, hx13, hF⟩ := bind_some hF
    refine Cx0 (s_AreRules_ok _ _ _ _ _ hx13) (fun _ => ?_)
    iterate 4 refine au ?_
    rcases Bool.eq_false_or_eq_true (!r12) with hg15 | hg15
    · rw [hg15]
      try rw [hg15] at hF; dsimp only [cond_true, cond_false] at hF
      iterate 18 refine au ?_
      cases hF
      exact ⟨_, _, rfl, eqA, entA⟩
    rw [hg15]
    try rw [hg15] at hF; dsimp only [cond_true, cond_false] at hF
    iterate 7 refine au ?_
    refine C_at .h (fun hp => V_loadA (s := 2) (l := [v0_3.v, (.int .i64 a_m.Source.Version)]) ag42.h ty42.h.sz (.tmp rfl rfl) hp.2 rfl (by decide) (Nat.le_of_ble_eq_true rfl) rfl) ?_
    refine au ?_
    obtain ⟨r16, hx17, hF⟩ := bind_some hF
    refine Cx0 (s_IsSource_ok _ _ _ _ _ hx17) (fun _ => ?_)
    iterate 4 refine au ?_
    rcases Bool.eq_false_or_eq_true (!r16) with hg19 | hg19
    · rw [hg19]
      try rw [hg19] at hF; dsimp only [cond_true, cond_false] at hF
      iterate 10 refine au ?_
      cases hF
      exact ⟨_, _, rfl, eqA, entA⟩
    rw [hg19]
    try rw [hg19] at hF; dsimp only [cond_true, cond_false] at hF
    iterate 11 refine au ?_
    refine C_at .h (fun hp => V_loadA (s := 2) (l := [v0_5.v, (.int .i64 a_m.Cache.Age)]) ag45.h ty45.h.sz (.tmp rfl rfl) hp.2 rfl (by decide) (Nat.le_of_ble_eq_true rfl) rfl) ?_
    refine au ?_
    obtain ⟨r20, hx21, hF⟩ := bind_some hF
    refine Cx0 (s_IsCache_ok _ _ _ _ _ _ _ hx21) (fun _ => ?_)
    iterate 4 refine au ?_
    cases hF
    exact ⟨_, _, rfl, eqA, entA⟩
  rintro _ _ ⟨c23, g63, rfl, rfl, hE⟩
  replace hF := hO3
  clear hO3
  try dsimp only at hF
  refine K_ent hE ?_
  refine Cc (fun hb62 => ?_) (fun hb62 => ?_)
  · rw [if_pos hb62] at hF
    iterate 4 refine au ?_
    cases hF
    exact Er ()
  rw [if_neg (nt hb62)] at hF
  iterate 5 refine au ?_
  refine CW_block (CW_loop (m := a_m.Log.length) (fun m25 f' cs' => ∃ (g : Fr) (k27 : Nat) (rest28 : List Access), m25 = rest28.length ∧ f' = updL g [(1, (.pointer (some ⟨k1, 0, some 0⟩))), (3, (.int .i64 (k27 : Int)))] ∧ List.drop k27 a_m.Log = rest28 ∧ Ent cs' [cboR k1 48 (.agg [v0_0.v, v0_1.v, v0_2.v, v0_3.v, (.int .i64 a_m.Source.Version), v0_5.v, (.int .i64 a_m.Cache.Age), (.int .i64 a_m.Now), v0_8.v, v0_9.v, (.int .i64 a_m.Spent), v0_11.v].toArray), crd (RdS 3 rdInt) v0_0.v a_m.Schema, crd (RdS 112 rd112) v0_1.v a_m.Methods, crd (RdS 148 rd148) v0_2.v a_m.Rules, crd (RdS 114 rd114) v0_3.v a_m.Source.Facts, crd (RdS 82 rd82) v0_5.v a_m.Cache.Entries, crd (RdS 80 rd80) v0_8.v a_m.Log, crd (RdS 3 rdInt) v0_9.v a_m.Times, crd (RdS 139 (RdS 22 (RdS 3 rdInt))) v0_11.v a_m.Results] ∧ s_IsMediator_L1 a_m rest28 k27 = some R) ⟨_, 0, _, rfl, eqA, rfl, entA, hF⟩ ?_)
  clear hF
  rintro m25 _ _ ⟨g26, k27, rest28, rfl, rfl, hd30, hE, hF⟩
  refine K_ent hE ?_
  clear hE
  refine K_pure (c := crd (RdS 80 rd80) v0_8.v a_m.Log) (.t (.t (.t (.t (.t (.t .h)))))) crd_bound (fun hbd35 => ?_)
  rcases rest28 with _ | ⟨x29, rest28⟩
  · have hk31 := List.drop_eq_nil_iff.1 hd30
    rw [s_IsMediator_L1] at hF
    iterate 8 refine au ?_
    refine CdF ?_
    iterate 4 refine au ?_
    obtain ⟨o36, hio36, hO37⟩ := bind_some hF
    refine au ?_
    refine C_cut (fun f' cs' => ∃ (c52 : Bool) (g : Fr), c52 = o36 ∧ f' = updL g [(2, (.bool c52))] ∧ Ent cs' []) ?_ ?_
    · replace hF := hio36
      iterate 2 refine au ?_
      obtain ⟨r38, hx39, hF⟩ := bind_some hF
      refine Cx0 (s_l1In_ok _ _ _ _ hx39) (fun _ => ?_)
      refine au ?_
      rcases Bool.eq_false_or_eq_true r38 with hg41 | hg41
      · rw [hg41]
        try rw [hg41] at hF; dsimp only [cond_true, cond_false] at hF
        iterate 10 refine au ?_
        rcases Bool.eq_false_or_eq_true (decide (((a_m.Log.length : Int) : Int) ≤ 1000)) with hg42 | hg42
        · rw [hg42]
          try rw [hg42] at hF; dsimp only [cond_true, cond_false] at hF
          iterate 16 refine au ?_
          rcases Bool.eq_false_or_eq_true (((a_m.Times.length : Int) : Int) == (a_m.Log.length : Int)) with hg43 | hg43
          · rw [hg43]
            try rw [hg43] at hF; dsimp only [cond_true, cond_false] at hF
            iterate 5 refine au ?_
            obtain ⟨r44, hx45, hF⟩ := bind_some hF
            refine Cx0 (s_l18Times_ok _ _ _ hx45) (fun _ => ?_)
            iterate 2 refine au ?_
            rcases Bool.eq_false_or_eq_true r44 with hg47 | hg47
            · rw [hg47]
              try rw [hg47] at hF; dsimp only [cond_true, cond_false] at hF
              iterate 5 refine au ?_
              obtain ⟨r48, hx49, hF⟩ := bind_some hF
              refine Cx0 (s_l1In_ok _ _ _ _ hx49) (fun _ => ?_)
              iterate 2 refine au ?_
              rcases Bool.eq_false_or_eq_true r48 with hg51 | hg51
              · rw [hg51]
                try rw [hg51] at hF; dsimp only [cond_true, cond_false] at hF
                iterate 11 refine au ?_
                cases hF
                exact ⟨_, _, rfl, eqA, entA⟩
              rw [hg51]
              try rw [hg51] at hF; dsimp only [cond_true, cond_false] at hF
              iterate 7 refine au ?_
              cases hF
              exact ⟨_, _, rfl, eqA, entA⟩
            rw [hg47]
            try rw [hg47] at hF; dsimp only [cond_true, cond_false] at hF
            iterate 12 refine au ?_
            cases hF
            exact ⟨_, _, rfl, eqA, entA⟩
          rw [hg43]
          try rw [hg43] at hF; dsimp only [cond_true, cond_false] at hF
          iterate 17 refine au ?_
          cases hF
          exact ⟨_, _, rfl, eqA, entA⟩
        rw [hg42]
        try rw [hg42] at hF; dsimp only [cond_true, cond_false] at hF
        iterate 26 refine au ?_
        cases hF
        exact ⟨_, _, rfl, eqA, entA⟩
      rw [hg41]
      try rw [hg41] at hF; dsimp only [cond_true, cond_false] at hF
      iterate 32 refine au ?_
      cases hF
      exact ⟨_, _, rfl, eqA, entA⟩
    rintro _ _ ⟨c52, g53, rfl, rfl, hE⟩
    replace hF := hO37
    clear hO37
    try dsimp only at hF
    refine K_ent hE ?_
    refine au ?_
    cases hF
    exact Er ()
  obtain ⟨hk31, hx32, hd33⟩ := drop_cons hd30
  rw [s_IsMediator_L1] at hF
  iterate 8 refine au ?_
  refine CdT ?_
  iterate 2 refine au ?_
  refine K_draw [0, 1, 2, 3, 4, 5, 6, 7, 8, 9, 10] [0, 1, 0, 4, 0, 16, 0, 112, 240, 511, 1023] [9] mixed (by decide +kernel) ?_
  iterate 7 refine du ?_
  refine Di hx32 (fun k54 j55 => ?_)
  refine DlA1 (ul80_0_80 x29) la80_0_80 (fun p56 => ?_)
  obtain ⟨r57, hx58, hF⟩ := bind_some hF
  refine Dx0 (s_IsAccess_ok _ _ _ _ _ _ _ hx58) (fun _ => ?_)
  iterate 2 refine du ?_
  refine Cc (fun hb61 => ?_) (fun hb61 => ?_)
  · rw [if_pos hb61] at hF
    iterate 4 refine au ?_
    cases hF
    exact Er ()
  rw [if_neg (nt hb61)] at hF
  iterate 6 refine au ?_
  rw [wk k27]
  exact ⟨_, Nat.lt_succ_self _, _, k27 + 1, rest28, rfl, eqA, hd33, entA, hF⟩

end Go.Proofs.YtekdaagipplhhaaGreatDoor
