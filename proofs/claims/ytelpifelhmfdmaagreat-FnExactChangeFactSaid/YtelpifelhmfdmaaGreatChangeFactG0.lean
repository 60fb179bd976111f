/-
  Functions of the program as Lean functions, and that the calls return what these say: part 1. No conditions.
-/
import Derived.Test.YtelpifelhmfdmaaGreatFcChangeFact
import Derived.Test.YtelpifelhmfdmaaGreatProg
import Derived.KernelRfl
set_option maxRecDepth 100000
set_option maxHeartbeats 1000000
set_option linter.unusedVariables false
namespace Go.Proofs.YtelpifelhmfdmaaGreat
open Go Go.Fw

instance : LaidP Tryz.prog := ⟨fun _ => True⟩

structure Method where
  Rel : Int
  Inputs : List Int
  Limit : Int
  Cost : Int
  Quota : Int
structure Rule where
  From : Int
  To : Int
  Map : List Int
structure Fact where
  Rel : Int
  Values : List Int
structure Source where
  Facts : List Fact
  Version : Int
structure Access where
  Method : Int
  Values : List Int
structure Stored where
  Access : Access
  Facts : List Fact
  At : Int
structure Cache where
  Entries : List Stored
  Age : Int
structure Mediator where
  Schema : List Int
  Methods : List Method
  Rules : List Rule
  Source : Source
  Cache : Cache
  Now : Int
  Log : List Access
  Times : List Int
  Spent : Int
  Results : List (List (List Int))
structure Change where
  Add : Bool
  Fact : Fact
instance ty34 : ITY Tryz.prog 34 12 224 (.agg [(.slice none 0 0), (.slice none 0 0), (.slice none 0 0), (.slice none 0 0), (.int .i64 0), (.slice none 0 0), (.int .i64 0), (.int .i64 0), (.slice none 0 0), (.slice none 0 0), (.int .i64 0), (.slice none 0 0)].toArray) := ⟨by unfold TY; kernel_rfl⟩
instance ty38 : ITY Tryz.prog 38 3 40 (.agg [(.bool false), (.int .i64 0), (.slice none 0 0)].toArray) := ⟨by unfold TY; kernel_rfl⟩
instance ag34 : IAG Tryz.prog 34 true := ⟨by unfold AG; kernel_rfl⟩
instance cf4 : ICF Tryz.prog 4 := ⟨fun _ _ => Tryz.call4 _ _⟩
instance fd34_0 : IFD Tryz.prog 34 0 0 := ⟨by unfold FD; kernel_rfl⟩
instance ag22 : IAG Tryz.prog 22 false := ⟨by unfold AG; kernel_rfl⟩
instance cf15 : ICF Tryz.prog 15 := ⟨fun _ _ => Tryz.call15 _ _⟩
instance sl22 : ISL Tryz.prog 22 3 := ⟨by unfold SL; kernel_rfl⟩
instance fd34_1 : IFD Tryz.prog 34 1 1 := ⟨by unfold FD; kernel_rfl⟩
instance ag23 : IAG Tryz.prog 23 false := ⟨by unfold AG; kernel_rfl⟩
instance cf16 : ICF Tryz.prog 16 := ⟨fun _ _ => Tryz.call16 _ _⟩
instance sl23 : ISL Tryz.prog 23 100 := ⟨by unfold SL; kernel_rfl⟩
def rd100 (H : AHeap) (v : Value) (a : Method) : Prop := ∃ v0 : Sv, v = .agg [(.int .i64 a.Rel), v0.v, (.int .i64 a.Limit), (.int .i64 a.Cost), (.int .i64 a.Quota)].toArray ∧ (RdS 3 rdInt) H v0.v a.Inputs
instance : Mono rd100 := ⟨fun h hi => by
  obtain ⟨v0, h, h0⟩ := h
  exact ⟨v0, h, Mono.up h0 hi⟩⟩
instance : Cells rd100 5 := ⟨fun h => by
  obtain ⟨v0, rfl, h0⟩ := h
  exact ⟨rfl, rfl⟩⟩
instance ty100 : ITY Tryz.prog 100 5 56 (.agg [(.int .i64 0), (.slice none 0 0), (.int .i64 0), (.int .i64 0), (.int .i64 0)].toArray) := ⟨by unfold TY; kernel_rfl⟩
def ul100_0_100 (a : Method) (p : Sv) : List Value := [(.int .i64 a.Rel), p.v, (.int .i64 a.Limit), (.int .i64 a.Cost), (.int .i64 a.Quota)]
theorem la100_0_100 {a : Method} : ∀ H e, rd100 H e a → ∃ i : Sv, 0 + 5 ≤ e.cells.size ∧ (e.cells.toList.drop 0).take 5 = ul100_0_100 a i ∧ ∀ c ∈ ([crd (RdS 3 rdInt) i.v a.Inputs] : List Comp), c.P H ∧ c.F = [] := by
  intro H e h
  obtain ⟨v0, rfl, h0⟩ := h
  refine ⟨v0, Nat.le_of_ble_eq_true rfl, rfl, fun c hc => by
    simp only [List.mem_cons, List.not_mem_nil, or_false] at hc
    rcases hc with rfl
    · exact ⟨h0, rfl⟩
⟩
instance ag100 : IAG Tryz.prog 100 true := ⟨by unfold AG; kernel_rfl⟩
instance cf60 : ICF Tryz.prog 60 := ⟨fun _ _ => Tryz.call60 _ _⟩
instance fd100_1 : IFD Tryz.prog 100 1 1 := ⟨by unfold FD; kernel_rfl⟩
instance fd34_2 : IFD Tryz.prog 34 2 2 := ⟨by unfold FD; kernel_rfl⟩
instance ag24 : IAG Tryz.prog 24 false := ⟨by unfold AG; kernel_rfl⟩
instance cf17 : ICF Tryz.prog 17 := ⟨fun _ _ => Tryz.call17 _ _⟩
instance sl24 : ISL Tryz.prog 24 103 := ⟨by unfold SL; kernel_rfl⟩
def rd103 (H : AHeap) (v : Value) (a : Rule) : Prop := ∃ v0 : Sv, v = .agg [(.int .i64 a.From), (.int .i64 a.To), v0.v].toArray ∧ (RdS 3 rdInt) H v0.v a.Map
instance : Mono rd103 := ⟨fun h hi => by
  obtain ⟨v0, h, h0⟩ := h
  exact ⟨v0, h, Mono.up h0 hi⟩⟩
instance : Cells rd103 3 := ⟨fun h => by
  obtain ⟨v0, rfl, h0⟩ := h
  exact ⟨rfl, rfl⟩⟩
instance ty103 : ITY Tryz.prog 103 3 40 (.agg [(.int .i64 0), (.int .i64 0), (.slice none 0 0)].toArray) := ⟨by unfold TY; kernel_rfl⟩
def ul103_0_103 (a : Rule) (p : Sv) : List Value := [(.int .i64 a.From), (.int .i64 a.To), p.v]
theorem la103_0_103 {a : Rule} : ∀ H e, rd103 H e a → ∃ i : Sv, 0 + 3 ≤ e.cells.size ∧ (e.cells.toList.drop 0).take 3 = ul103_0_103 a i ∧ ∀ c ∈ ([crd (RdS 3 rdInt) i.v a.Map] : List Comp), c.P H ∧ c.F = [] := by
  intro H e h
  obtain ⟨v0, rfl, h0⟩ := h
  refine ⟨v0, Nat.le_of_ble_eq_true rfl, rfl, fun c hc => by
    simp only [List.mem_cons, List.not_mem_nil, or_false] at hc
    rcases hc with rfl
    · exact ⟨h0, rfl⟩
⟩
instance ag103 : IAG Tryz.prog 103 true := ⟨by unfold AG; kernel_rfl⟩
instance cf61 : ICF Tryz.prog 61 := ⟨fun _ _ => Tryz.call61 _ _⟩
instance fd103_2 : IFD Tryz.prog 103 2 2 := ⟨by unfold FD; kernel_rfl⟩
instance fd34_3 : IFD Tryz.prog 34 3 3 := ⟨by unfold FD; kernel_rfl⟩
instance ag27 : IAG Tryz.prog 27 true := ⟨by unfold AG; kernel_rfl⟩
instance ty27 : ITY Tryz.prog 27 2 32 (.agg [(.slice none 0 0), (.int .i64 0)].toArray) := ⟨by unfold TY; kernel_rfl⟩
instance cf18 : ICF Tryz.prog 18 := ⟨fun _ _ => Tryz.call18 _ _⟩
instance fd27_0 : IFD Tryz.prog 27 0 0 := ⟨by unfold FD; kernel_rfl⟩
instance ag25 : IAG Tryz.prog 25 false := ⟨by unfold AG; kernel_rfl⟩
instance cf62 : ICF Tryz.prog 62 := ⟨fun _ _ => Tryz.call62 _ _⟩
instance sl25 : ISL Tryz.prog 25 36 := ⟨by unfold SL; kernel_rfl⟩
def rd36 (H : AHeap) (v : Value) (a : Fact) : Prop := ∃ v0 : Sv, v = .agg [(.int .i64 a.Rel), v0.v].toArray ∧ (RdS 3 rdInt) H v0.v a.Values
instance : Mono rd36 := ⟨fun h hi => by
  obtain ⟨v0, h, h0⟩ := h
  exact ⟨v0, h, Mono.up h0 hi⟩⟩
instance : Cells rd36 2 := ⟨fun h => by
  obtain ⟨v0, rfl, h0⟩ := h
  exact ⟨rfl, rfl⟩⟩
instance ty36 : ITY Tryz.prog 36 2 32 (.agg [(.int .i64 0), (.slice none 0 0)].toArray) := ⟨by unfold TY; kernel_rfl⟩
def ul36_0_36 (a : Fact) (p : Sv) : List Value := [(.int .i64 a.Rel), p.v]
theorem la36_0_36 {a : Fact} : ∀ H e, rd36 H e a → ∃ i : Sv, 0 + 2 ≤ e.cells.size ∧ (e.cells.toList.drop 0).take 2 = ul36_0_36 a i ∧ ∀ c ∈ ([crd (RdS 3 rdInt) i.v a.Values] : List Comp), c.P H ∧ c.F = [] := by
  intro H e h
  obtain ⟨v0, rfl, h0⟩ := h
  refine ⟨v0, Nat.le_of_ble_eq_true rfl, rfl, fun c hc => by
    simp only [List.mem_cons, List.not_mem_nil, or_false] at hc
    rcases hc with rfl
    · exact ⟨h0, rfl⟩
⟩
instance ag36 : IAG Tryz.prog 36 true := ⟨by unfold AG; kernel_rfl⟩
instance cf22 : ICF Tryz.prog 22 := ⟨fun _ _ => Tryz.call22 _ _⟩
instance fd36_1 : IFD Tryz.prog 36 1 1 := ⟨by unfold FD; kernel_rfl⟩
instance fd34_4 : IFD Tryz.prog 34 4 5 := ⟨by unfold FD; kernel_rfl⟩
instance ag30 : IAG Tryz.prog 30 true := ⟨by unfold AG; kernel_rfl⟩
instance ty30 : ITY Tryz.prog 30 2 32 (.agg [(.slice none 0 0), (.int .i64 0)].toArray) := ⟨by unfold TY; kernel_rfl⟩
instance cf19 : ICF Tryz.prog 19 := ⟨fun _ _ => Tryz.call19 _ _⟩
instance fd30_0 : IFD Tryz.prog 30 0 0 := ⟨by unfold FD; kernel_rfl⟩
instance ag28 : IAG Tryz.prog 28 false := ⟨by unfold AG; kernel_rfl⟩
instance cf63 : ICF Tryz.prog 63 := ⟨fun _ _ => Tryz.call63 _ _⟩
instance sl28 : ISL Tryz.prog 28 153 := ⟨by unfold SL; kernel_rfl⟩
def rd153 (H : AHeap) (v : Value) (a : Stored) : Prop := ∃ v0 v1 : Sv, v = .agg [(.int .i64 a.Access.Method), v0.v, v1.v, (.int .i64 a.At)].toArray ∧ (RdS 3 rdInt) H v0.v a.Access.Values ∧ (RdS 36 rd36) H v1.v a.Facts
instance : Mono rd153 := ⟨fun h hi => by
  obtain ⟨v0, v1, h, h0, h1⟩ := h
  exact ⟨v0, v1, h, Mono.up h0 hi, Mono.up h1 hi⟩⟩
instance : Cells rd153 4 := ⟨fun h => by
  obtain ⟨v0, v1, rfl, h0, h1⟩ := h
  exact ⟨rfl, rfl⟩⟩
instance ty153 : ITY Tryz.prog 153 4 64 (.agg [(.int .i64 0), (.slice none 0 0), (.slice none 0 0), (.int .i64 0)].toArray) := ⟨by unfold TY; kernel_rfl⟩
def ul153_0_153 (a : Stored) (p : Sv × Sv) : List Value := [(.int .i64 a.Access.Method), p.1.v, p.2.v, (.int .i64 a.At)]
theorem la153_0_153 {a : Stored} : ∀ H e, rd153 H e a → ∃ i : Sv × Sv, 0 + 4 ≤ e.cells.size ∧ (e.cells.toList.drop 0).take 4 = ul153_0_153 a i ∧ ∀ c ∈ ([crd (RdS 3 rdInt) i.1.v a.Access.Values, crd (RdS 36 rd36) i.2.v a.Facts] : List Comp), c.P H ∧ c.F = [] := by
  intro H e h
  obtain ⟨v0, v1, rfl, h0, h1⟩ := h
  refine ⟨(v0, v1), Nat.le_of_ble_eq_true rfl, rfl, fun c hc => by
    simp only [List.mem_cons, List.not_mem_nil, or_false] at hc
    rcases hc with rfl | rfl
    · exact ⟨h0, rfl⟩
    · exact ⟨h1, rfl⟩
⟩
instance ag153 : IAG Tryz.prog 153 true := ⟨by unfold AG; kernel_rfl⟩
instance cf125 : ICF Tryz.prog 125 := ⟨fun _ _ => Tryz.call125 _ _⟩
instance fd153_0 : IFD Tryz.prog 153 0 0 := ⟨by unfold FD; kernel_rfl⟩
instance ag108 : IAG Tryz.prog 108 true := ⟨by unfold AG; kernel_rfl⟩
instance ty108 : ITY Tryz.prog 108 2 32 (.agg [(.int .i64 0), (.slice none 0 0)].toArray) := ⟨by unfold TY; kernel_rfl⟩
instance cf64 : ICF Tryz.prog 64 := ⟨fun _ _ => Tryz.call64 _ _⟩
instance fd108_1 : IFD Tryz.prog 108 1 1 := ⟨by unfold FD; kernel_rfl⟩
instance fd153_1 : IFD Tryz.prog 153 1 2 := ⟨by unfold FD; kernel_rfl⟩
instance fd34_6 : IFD Tryz.prog 34 6 8 := ⟨by unfold FD; kernel_rfl⟩
instance ag31 : IAG Tryz.prog 31 false := ⟨by unfold AG; kernel_rfl⟩
instance cf20 : ICF Tryz.prog 20 := ⟨fun _ _ => Tryz.call20 _ _⟩
instance sl31 : ISL Tryz.prog 31 108 := ⟨by unfold SL; kernel_rfl⟩
def rd108 (H : AHeap) (v : Value) (a : Access) : Prop := ∃ v0 : Sv, v = .agg [(.int .i64 a.Method), v0.v].toArray ∧ (RdS 3 rdInt) H v0.v a.Values
instance : Mono rd108 := ⟨fun h hi => by
  obtain ⟨v0, h, h0⟩ := h
  exact ⟨v0, h, Mono.up h0 hi⟩⟩
instance : Cells rd108 2 := ⟨fun h => by
  obtain ⟨v0, rfl, h0⟩ := h
  exact ⟨rfl, rfl⟩⟩
def ul108_0_108 (a : Access) (p : Sv) : List Value := [(.int .i64 a.Method), p.v]
theorem la108_0_108 {a : Access} : ∀ H e, rd108 H e a → ∃ i : Sv, 0 + 2 ≤ e.cells.size ∧ (e.cells.toList.drop 0).take 2 = ul108_0_108 a i ∧ ∀ c ∈ ([crd (RdS 3 rdInt) i.v a.Values] : List Comp), c.P H ∧ c.F = [] := by
  intro H e h
  obtain ⟨v0, rfl, h0⟩ := h
  refine ⟨v0, Nat.le_of_ble_eq_true rfl, rfl, fun c hc => by
    simp only [List.mem_cons, List.not_mem_nil, or_false] at hc
    rcases hc with rfl
    · exact ⟨h0, rfl⟩
⟩
instance fd34_7 : IFD Tryz.prog 34 7 9 := ⟨by unfold FD; kernel_rfl⟩
instance fd34_9 : IFD Tryz.prog 34 9 11 := ⟨by unfold FD; kernel_rfl⟩
instance ag32 : IAG Tryz.prog 32 false := ⟨by unfold AG; kernel_rfl⟩
instance cf21 : ICF Tryz.prog 21 := ⟨fun _ _ => Tryz.call21 _ _⟩
instance sl32 : ISL Tryz.prog 32 110 := ⟨by unfold SL; kernel_rfl⟩
instance ty110 : ITY Tryz.prog 110 1 24 (.slice none 0 0) := ⟨by unfold TY; kernel_rfl⟩
theorem lv110_0 {a : List (List Int)} : ∀ H e, (RdS 22 (RdS 3 rdInt)) H e a → ∃ w : Sv, e.cells.toList[0]? = some w.v ∧ (RdS 22 (RdS 3 rdInt)) H w.v a := by
  intro H e h
  obtain ⟨a0, m, rfl⟩ := RdS.len h
  exact ⟨⟨a0, _, m⟩, rfl, h⟩
instance ag110 : IAG Tryz.prog 110 false := ⟨by unfold AG; kernel_rfl⟩
instance cf65 : ICF Tryz.prog 65 := ⟨fun _ _ => Tryz.call65 _ _⟩
instance sl110 : ISL Tryz.prog 110 22 := ⟨by unfold SL; kernel_rfl⟩
instance ty22 : ITY Tryz.prog 22 1 24 (.slice none 0 0) := ⟨by unfold TY; kernel_rfl⟩
theorem lv22_0 {a : List Int} : ∀ H e, (RdS 3 rdInt) H e a → ∃ w : Sv, e.cells.toList[0]? = some w.v ∧ (RdS 3 rdInt) H w.v a := by
  intro H e h
  obtain ⟨a0, m, rfl⟩ := RdS.len h
  exact ⟨⟨a0, _, m⟩, rfl, h⟩
instance ag38 : IAG Tryz.prog 38 true := ⟨by unfold AG; kernel_rfl⟩
instance cf5 : ICF Tryz.prog 5 := ⟨fun _ _ => Tryz.call5 _ _⟩
instance fd38_1 : IFD Tryz.prog 38 1 1 := ⟨by unfold FD; kernel_rfl⟩
theorem mixed : Tryz.prog.follows .mixedOrders = true := by kernel_rfl
instance ty51 : ITY Tryz.prog 51 12 224 (.agg [(.slice none 0 0), (.slice none 0 0), (.slice none 0 0), (.slice none 0 0), (.int .i64 0), (.slice none 0 0), (.int .i64 0), (.int .i64 0), (.slice none 0 0), (.slice none 0 0), (.int .i64 0), (.slice none 0 0)].toArray) := ⟨by unfold TY; kernel_rfl⟩
instance cf7 : ICF Tryz.prog 7 := ⟨fun _ _ => Tryz.call7 _ _⟩
instance cf26 : ICF Tryz.prog 26 := ⟨fun _ _ => Tryz.call26 _ _⟩
instance ty3 : ITY Tryz.prog 3 1 8 (.int .i64 0) := ⟨by unfold TY; kernel_rfl⟩
theorem ls3_0 {a : Int} : ∀ H e, rdInt H e a → e.cells.toList[0]? = some (.int .i64 a) := by
  intro H e h
  subst h
  rfl
instance ag3 : IAG Tryz.prog 3 false := ⟨by unfold AG; kernel_rfl⟩
instance fd51_0 : IFD Tryz.prog 51 0 0 := ⟨by unfold FD; kernel_rfl⟩
instance cf27 : ICF Tryz.prog 27 := ⟨fun _ _ => Tryz.call27 _ _⟩
instance sl41 : ISL Tryz.prog 41 114 := ⟨by unfold SL; kernel_rfl⟩
instance ty114 : ITY Tryz.prog 114 5 56 (.agg [(.int .i64 0), (.slice none 0 0), (.int .i64 0), (.int .i64 0), (.int .i64 0)].toArray) := ⟨by unfold TY; kernel_rfl⟩
def rd114 (H : AHeap) (v : Value) (a : Method) : Prop := ∃ v0 : Sv, v = .agg [(.int .i64 a.Rel), v0.v, (.int .i64 a.Limit), (.int .i64 a.Cost), (.int .i64 a.Quota)].toArray ∧ (RdS 3 rdInt) H v0.v a.Inputs
instance : Mono rd114 := ⟨fun h hi => by
  obtain ⟨v0, h, h0⟩ := h
  exact ⟨v0, h, Mono.up h0 hi⟩⟩
instance : Cells rd114 5 := ⟨fun h => by
  obtain ⟨v0, rfl, h0⟩ := h
  exact ⟨rfl, rfl⟩⟩
def ow114 : ORel Method := fun F H v a => ∃ (v0 : Sv) (F0 : List Nat), v = .agg [(.int .i64 a.Rel), v0.v, (.int .i64 a.Limit), (.int .i64 a.Cost), (.int .i64 a.Quota)].toArray ∧ F0 = F ∧ (OwnS 3 (roE rdInt)) F0 H v0.v a.Inputs
instance : Keep ow114 := ⟨fun h hi hg => by
  obtain ⟨v0, F0, rfl, rfl, h0⟩ := h
  exact ⟨v0, F0, rfl, rfl, Keep.keep h0 hi (fun k hk => hg k (by simp [hk]))⟩⟩
instance : Local ow114 := ⟨fun h hg => by
  obtain ⟨v0, F0, rfl, rfl, h0⟩ := h
  exact ⟨v0, F0, rfl, rfl, Local.keep h0 (fun k hk => hg k (by simp [hk]))⟩⟩
instance : Owns ow114 := ⟨fun h k hk => by
  obtain ⟨v0, F0, rfl, rfl, h0⟩ := h
  exact Owns.owns h0 k hk
⟩
instance : OCells ow114 5 := ⟨fun h => by
  obtain ⟨v0, F0, rfl, rfl, h0⟩ := h
  exact ⟨rfl, rfl⟩⟩
instance : Frz ow114 rd114 := ⟨fun h hg => by
  obtain ⟨v0, F0, rfl, rfl, h0⟩ := h
  exact ⟨v0, rfl, Frz.frz h0 (fun k hk => hg k (by simp [hk]))⟩⟩
instance cf84 : ICF Tryz.prog 84 := ⟨fun _ _ => Tryz.call84 _ _⟩
instance fd100_0 : IFD Tryz.prog 100 0 0 := ⟨by unfold FD; kernel_rfl⟩
instance fd114_0 : IFD Tryz.prog 114 0 0 := ⟨by unfold FD; kernel_rfl⟩
instance fd114_1 : IFD Tryz.prog 114 1 1 := ⟨by unfold FD; kernel_rfl⟩
instance fd100_2 : IFD Tryz.prog 100 2 2 := ⟨by unfold FD; kernel_rfl⟩
instance fd114_2 : IFD Tryz.prog 114 2 2 := ⟨by unfold FD; kernel_rfl⟩
instance fd100_3 : IFD Tryz.prog 100 3 3 := ⟨by unfold FD; kernel_rfl⟩
instance fd114_3 : IFD Tryz.prog 114 3 3 := ⟨by unfold FD; kernel_rfl⟩
instance fd100_4 : IFD Tryz.prog 100 4 4 := ⟨by unfold FD; kernel_rfl⟩
instance fd114_4 : IFD Tryz.prog 114 4 4 := ⟨by unfold FD; kernel_rfl⟩
instance ag114 : IAG Tryz.prog 114 true := ⟨by unfold AG; kernel_rfl⟩
theorem mk114 {a : Method} {v0 : Sv} {F0 : List Nat} : Mk ow114 F0 (.agg [(.int .i64 a.Rel), v0.v, (.int .i64 a.Limit), (.int .i64 a.Cost), (.int .i64 a.Quota)].toArray) a [cown (OwnS 3 (roE rdInt)) F0 v0.v a.Inputs] :=
  ⟨fun H h => ⟨v0, F0, rfl, rfl, h (cown (OwnS 3 (roE rdInt)) F0 v0.v a.Inputs) (by simp)⟩, by simp [cown]⟩
instance fd51_1 : IFD Tryz.prog 51 1 1 := ⟨by unfold FD; kernel_rfl⟩
instance ty41 : ITY Tryz.prog 41 1 24 (.slice none 0 0) := ⟨by unfold TY; kernel_rfl⟩
instance cf28 : ICF Tryz.prog 28 := ⟨fun _ _ => Tryz.call28 _ _⟩
instance sl42 : ISL Tryz.prog 42 116 := ⟨by unfold SL; kernel_rfl⟩
instance ty116 : ITY Tryz.prog 116 3 40 (.agg [(.int .i64 0), (.int .i64 0), (.slice none 0 0)].toArray) := ⟨by unfold TY; kernel_rfl⟩
def rd116 (H : AHeap) (v : Value) (a : Rule) : Prop := ∃ v0 : Sv, v = .agg [(.int .i64 a.From), (.int .i64 a.To), v0.v].toArray ∧ (RdS 3 rdInt) H v0.v a.Map
instance : Mono rd116 := ⟨fun h hi => by
  obtain ⟨v0, h, h0⟩ := h
  exact ⟨v0, h, Mono.up h0 hi⟩⟩
instance : Cells rd116 3 := ⟨fun h => by
  obtain ⟨v0, rfl, h0⟩ := h
  exact ⟨rfl, rfl⟩⟩
def ow116 : ORel Rule := fun F H v a => ∃ (v0 : Sv) (F0 : List Nat), v = .agg [(.int .i64 a.From), (.int .i64 a.To), v0.v].toArray ∧ F0 = F ∧ (OwnS 3 (roE rdInt)) F0 H v0.v a.Map
instance : Keep ow116 := ⟨fun h hi hg => by
  obtain ⟨v0, F0, rfl, rfl, h0⟩ := h
  exact ⟨v0, F0, rfl, rfl, Keep.keep h0 hi (fun k hk => hg k (by simp [hk]))⟩⟩
instance : Local ow116 := ⟨fun h hg => by
  obtain ⟨v0, F0, rfl, rfl, h0⟩ := h
  exact ⟨v0, F0, rfl, rfl, Local.keep h0 (fun k hk => hg k (by simp [hk]))⟩⟩
instance : Owns ow116 := ⟨fun h k hk => by
  obtain ⟨v0, F0, rfl, rfl, h0⟩ := h
  exact Owns.owns h0 k hk
⟩
instance : OCells ow116 3 := ⟨fun h => by
  obtain ⟨v0, F0, rfl, rfl, h0⟩ := h
  exact ⟨rfl, rfl⟩⟩
instance : Frz ow116 rd116 := ⟨fun h hg => by
  obtain ⟨v0, F0, rfl, rfl, h0⟩ := h
  exact ⟨v0, rfl, Frz.frz h0 (fun k hk => hg k (by simp [hk]))⟩⟩
instance cf85 : ICF Tryz.prog 85 := ⟨fun _ _ => Tryz.call85 _ _⟩
instance fd103_0 : IFD Tryz.prog 103 0 0 := ⟨by unfold FD; kernel_rfl⟩
instance fd116_0 : IFD Tryz.prog 116 0 0 := ⟨by unfold FD; kernel_rfl⟩
instance fd103_1 : IFD Tryz.prog 103 1 1 := ⟨by unfold FD; kernel_rfl⟩
instance fd116_1 : IFD Tryz.prog 116 1 1 := ⟨by unfold FD; kernel_rfl⟩
instance fd116_2 : IFD Tryz.prog 116 2 2 := ⟨by unfold FD; kernel_rfl⟩
instance ag116 : IAG Tryz.prog 116 true := ⟨by unfold AG; kernel_rfl⟩
theorem mk116 {a : Rule} {v0 : Sv} {F0 : List Nat} : Mk ow116 F0 (.agg [(.int .i64 a.From), (.int .i64 a.To), v0.v].toArray) a [cown (OwnS 3 (roE rdInt)) F0 v0.v a.Map] :=
  ⟨fun H h => ⟨v0, F0, rfl, rfl, h (cown (OwnS 3 (roE rdInt)) F0 v0.v a.Map) (by simp)⟩, by simp [cown]⟩
instance fd51_2 : IFD Tryz.prog 51 2 2 := ⟨by unfold FD; kernel_rfl⟩
instance ty42 : ITY Tryz.prog 42 1 24 (.slice none 0 0) := ⟨by unfold TY; kernel_rfl⟩
instance cf29 : ICF Tryz.prog 29 := ⟨fun _ _ => Tryz.call29 _ _⟩
instance ty45 : ITY Tryz.prog 45 2 32 (.agg [(.slice none 0 0), (.int .i64 0)].toArray) := ⟨by unfold TY; kernel_rfl⟩
instance cf86 : ICF Tryz.prog 86 := ⟨fun _ _ => Tryz.call86 _ _⟩
instance sl43 : ISL Tryz.prog 43 55 := ⟨by unfold SL; kernel_rfl⟩
instance ty55 : ITY Tryz.prog 55 2 32 (.agg [(.int .i64 0), (.slice none 0 0)].toArray) := ⟨by unfold TY; kernel_rfl⟩
def rd55 (H : AHeap) (v : Value) (a : Fact) : Prop := ∃ v0 : Sv, v = .agg [(.int .i64 a.Rel), v0.v].toArray ∧ (RdS 3 rdInt) H v0.v a.Values
instance : Mono rd55 := ⟨fun h hi => by
  obtain ⟨v0, h, h0⟩ := h
  exact ⟨v0, h, Mono.up h0 hi⟩⟩
instance : Cells rd55 2 := ⟨fun h => by
  obtain ⟨v0, rfl, h0⟩ := h
  exact ⟨rfl, rfl⟩⟩
def ow55 : ORel Fact := fun F H v a => ∃ (v0 : Sv) (F0 : List Nat), v = .agg [(.int .i64 a.Rel), v0.v].toArray ∧ F0 = F ∧ (OwnS 3 (roE rdInt)) F0 H v0.v a.Values
instance : Keep ow55 := ⟨fun h hi hg => by
  obtain ⟨v0, F0, rfl, rfl, h0⟩ := h
  exact ⟨v0, F0, rfl, rfl, Keep.keep h0 hi (fun k hk => hg k (by simp [hk]))⟩⟩
instance : Local ow55 := ⟨fun h hg => by
  obtain ⟨v0, F0, rfl, rfl, h0⟩ := h
  exact ⟨v0, F0, rfl, rfl, Local.keep h0 (fun k hk => hg k (by simp [hk]))⟩⟩
instance : Owns ow55 := ⟨fun h k hk => by
  obtain ⟨v0, F0, rfl, rfl, h0⟩ := h
  exact Owns.owns h0 k hk
⟩
instance : OCells ow55 2 := ⟨fun h => by
  obtain ⟨v0, F0, rfl, rfl, h0⟩ := h
  exact ⟨rfl, rfl⟩⟩
instance : Frz ow55 rd55 := ⟨fun h hg => by
  obtain ⟨v0, F0, rfl, rfl, h0⟩ := h
  exact ⟨v0, rfl, Frz.frz h0 (fun k hk => hg k (by simp [hk]))⟩⟩
instance cf33 : ICF Tryz.prog 33 := ⟨fun _ _ => Tryz.call33 _ _⟩
instance fd36_0 : IFD Tryz.prog 36 0 0 := ⟨by unfold FD; kernel_rfl⟩
instance fd55_0 : IFD Tryz.prog 55 0 0 := ⟨by unfold FD; kernel_rfl⟩
instance fd55_1 : IFD Tryz.prog 55 1 1 := ⟨by unfold FD; kernel_rfl⟩
instance ag55 : IAG Tryz.prog 55 true := ⟨by unfold AG; kernel_rfl⟩
theorem mk55 {a : Fact} {v0 : Sv} {F0 : List Nat} : Mk ow55 F0 (.agg [(.int .i64 a.Rel), v0.v].toArray) a [cown (OwnS 3 (roE rdInt)) F0 v0.v a.Values] :=
  ⟨fun H h => ⟨v0, F0, rfl, rfl, h (cown (OwnS 3 (roE rdInt)) F0 v0.v a.Values) (by simp)⟩, by simp [cown]⟩
instance fd45_0 : IFD Tryz.prog 45 0 0 := ⟨by unfold FD; kernel_rfl⟩
instance ty43 : ITY Tryz.prog 43 1 24 (.slice none 0 0) := ⟨by unfold TY; kernel_rfl⟩
instance fd27_1 : IFD Tryz.prog 27 1 1 := ⟨by unfold FD; kernel_rfl⟩
instance fd45_1 : IFD Tryz.prog 45 1 1 := ⟨by unfold FD; kernel_rfl⟩
instance ag45 : IAG Tryz.prog 45 true := ⟨by unfold AG; kernel_rfl⟩
instance fd51_3 : IFD Tryz.prog 51 3 3 := ⟨by unfold FD; kernel_rfl⟩
instance cf30 : ICF Tryz.prog 30 := ⟨fun _ _ => Tryz.call30 _ _⟩
instance ty48 : ITY Tryz.prog 48 2 32 (.agg [(.slice none 0 0), (.int .i64 0)].toArray) := ⟨by unfold TY; kernel_rfl⟩
instance cf87 : ICF Tryz.prog 87 := ⟨fun _ _ => Tryz.call87 _ _⟩
instance sl46 : ISL Tryz.prog 46 156 := ⟨by unfold SL; kernel_rfl⟩
instance ty156 : ITY Tryz.prog 156 4 64 (.agg [(.int .i64 0), (.slice none 0 0), (.slice none 0 0), (.int .i64 0)].toArray) := ⟨by unfold TY; kernel_rfl⟩
def rd156 (H : AHeap) (v : Value) (a : Stored) : Prop := ∃ v0 v1 : Sv, v = .agg [(.int .i64 a.Access.Method), v0.v, v1.v, (.int .i64 a.At)].toArray ∧ (RdS 3 rdInt) H v0.v a.Access.Values ∧ (RdS 55 rd55) H v1.v a.Facts
instance : Mono rd156 := ⟨fun h hi => by
  obtain ⟨v0, v1, h, h0, h1⟩ := h
  exact ⟨v0, v1, h, Mono.up h0 hi, Mono.up h1 hi⟩⟩
instance : Cells rd156 4 := ⟨fun h => by
  obtain ⟨v0, v1, rfl, h0, h1⟩ := h
  exact ⟨rfl, rfl⟩⟩
def ow156 : ORel Stored := fun F H v a => ∃ (v0 v1 : Sv) (F0 F1 : List Nat), v = .agg [(.int .i64 a.Access.Method), v0.v, v1.v, (.int .i64 a.At)].toArray ∧ F = (F0 ++ F1) ∧ (OwnS 3 (roE rdInt)) F0 H v0.v a.Access.Values ∧ (OwnS 55 ow55) F1 H v1.v a.Facts
instance : Keep ow156 := ⟨fun h hi hg => by
  obtain ⟨v0, v1, F0, F1, rfl, rfl, h0, h1⟩ := h
  exact ⟨v0, v1, F0, F1, rfl, rfl, Keep.keep h0 hi (fun k hk => hg k (by simp [hk])), Keep.keep h1 hi (fun k hk => hg k (by simp [hk]))⟩⟩
instance : Local ow156 := ⟨fun h hg => by
  obtain ⟨v0, v1, F0, F1, rfl, rfl, h0, h1⟩ := h
  exact ⟨v0, v1, F0, F1, rfl, rfl, Local.keep h0 (fun k hk => hg k (by simp [hk])), Local.keep h1 (fun k hk => hg k (by simp [hk]))⟩⟩
instance : Owns ow156 := ⟨fun h k hk => by
  obtain ⟨v0, v1, F0, F1, rfl, rfl, h0, h1⟩ := h
  simp only [List.mem_append] at hk
  rcases hk with hk | hk
  · exact Owns.owns h0 k hk
  · exact Owns.owns h1 k hk
⟩
instance : OCells ow156 4 := ⟨fun h => by
  obtain ⟨v0, v1, F0, F1, rfl, rfl, h0, h1⟩ := h
  exact ⟨rfl, rfl⟩⟩
instance : Frz ow156 rd156 := ⟨fun h hg => by
  obtain ⟨v0, v1, F0, F1, rfl, rfl, h0, h1⟩ := h
  exact ⟨v0, v1, rfl, Frz.frz h0 (fun k hk => hg k (by simp [hk])), Frz.frz h1 (fun k hk => hg k (by simp [hk]))⟩⟩
instance cf134 : ICF Tryz.prog 134 := ⟨fun _ _ => Tryz.call134 _ _⟩
instance cf88 : ICF Tryz.prog 88 := ⟨fun _ _ => Tryz.call88 _ _⟩
instance ty124 : ITY Tryz.prog 124 2 32 (.agg [(.int .i64 0), (.slice none 0 0)].toArray) := ⟨by unfold TY; kernel_rfl⟩
instance fd108_0 : IFD Tryz.prog 108 0 0 := ⟨by unfold FD; kernel_rfl⟩
instance fd124_0 : IFD Tryz.prog 124 0 0 := ⟨by unfold FD; kernel_rfl⟩
instance fd124_1 : IFD Tryz.prog 124 1 1 := ⟨by unfold FD; kernel_rfl⟩
instance ag124 : IAG Tryz.prog 124 true := ⟨by unfold AG; kernel_rfl⟩
instance fd156_0 : IFD Tryz.prog 156 0 0 := ⟨by unfold FD; kernel_rfl⟩
instance fd156_1 : IFD Tryz.prog 156 1 2 := ⟨by unfold FD; kernel_rfl⟩
instance fd153_2 : IFD Tryz.prog 153 2 3 := ⟨by unfold FD; kernel_rfl⟩
instance fd156_2 : IFD Tryz.prog 156 2 3 := ⟨by unfold FD; kernel_rfl⟩
instance ag156 : IAG Tryz.prog 156 true := ⟨by unfold AG; kernel_rfl⟩
theorem mk156 {a : Stored} {v0 v1 : Sv} {F0 F1 : List Nat} : Mk ow156 (F0 ++ F1) (.agg [(.int .i64 a.Access.Method), v0.v, v1.v, (.int .i64 a.At)].toArray) a [cown (OwnS 3 (roE rdInt)) F0 v0.v a.Access.Values, cown (OwnS 55 ow55) F1 v1.v a.Facts] :=
  ⟨fun H h => ⟨v0, v1, F0, F1, rfl, rfl, h (cown (OwnS 3 (roE rdInt)) F0 v0.v a.Access.Values) (by simp), h (cown (OwnS 55 ow55) F1 v1.v a.Facts) (by simp)⟩, by simp [cown]⟩
instance fd48_0 : IFD Tryz.prog 48 0 0 := ⟨by unfold FD; kernel_rfl⟩
instance ty46 : ITY Tryz.prog 46 1 24 (.slice none 0 0) := ⟨by unfold TY; kernel_rfl⟩
instance fd30_1 : IFD Tryz.prog 30 1 1 := ⟨by unfold FD; kernel_rfl⟩
instance fd48_1 : IFD Tryz.prog 48 1 1 := ⟨by unfold FD; kernel_rfl⟩
instance ag48 : IAG Tryz.prog 48 true := ⟨by unfold AG; kernel_rfl⟩
instance fd51_4 : IFD Tryz.prog 51 4 5 := ⟨by unfold FD; kernel_rfl⟩
instance fd34_5 : IFD Tryz.prog 34 5 7 := ⟨by unfold FD; kernel_rfl⟩
instance fd51_5 : IFD Tryz.prog 51 5 7 := ⟨by unfold FD; kernel_rfl⟩
instance cf31 : ICF Tryz.prog 31 := ⟨fun _ _ => Tryz.call31 _ _⟩
instance sl49 : ISL Tryz.prog 49 124 := ⟨by unfold SL; kernel_rfl⟩
def rd124 (H : AHeap) (v : Value) (a : Access) : Prop := ∃ v0 : Sv, v = .agg [(.int .i64 a.Method), v0.v].toArray ∧ (RdS 3 rdInt) H v0.v a.Values
instance : Mono rd124 := ⟨fun h hi => by
  obtain ⟨v0, h, h0⟩ := h
  exact ⟨v0, h, Mono.up h0 hi⟩⟩
instance : Cells rd124 2 := ⟨fun h => by
  obtain ⟨v0, rfl, h0⟩ := h
  exact ⟨rfl, rfl⟩⟩
def ow124 : ORel Access := fun F H v a => ∃ (v0 : Sv) (F0 : List Nat), v = .agg [(.int .i64 a.Method), v0.v].toArray ∧ F0 = F ∧ (OwnS 3 (roE rdInt)) F0 H v0.v a.Values
instance : Keep ow124 := ⟨fun h hi hg => by
  obtain ⟨v0, F0, rfl, rfl, h0⟩ := h
  exact ⟨v0, F0, rfl, rfl, Keep.keep h0 hi (fun k hk => hg k (by simp [hk]))⟩⟩
instance : Local ow124 := ⟨fun h hg => by
  obtain ⟨v0, F0, rfl, rfl, h0⟩ := h
  exact ⟨v0, F0, rfl, rfl, Local.keep h0 (fun k hk => hg k (by simp [hk]))⟩⟩
instance : Owns ow124 := ⟨fun h k hk => by
  obtain ⟨v0, F0, rfl, rfl, h0⟩ := h
  exact Owns.owns h0 k hk
⟩
instance : OCells ow124 2 := ⟨fun h => by
  obtain ⟨v0, F0, rfl, rfl, h0⟩ := h
  exact ⟨rfl, rfl⟩⟩
instance : Frz ow124 rd124 := ⟨fun h hg => by
  obtain ⟨v0, F0, rfl, rfl, h0⟩ := h
  exact ⟨v0, rfl, Frz.frz h0 (fun k hk => hg k (by simp [hk]))⟩⟩
theorem mk124 {a : Access} {v0 : Sv} {F0 : List Nat} : Mk ow124 F0 (.agg [(.int .i64 a.Method), v0.v].toArray) a [cown (OwnS 3 (roE rdInt)) F0 v0.v a.Values] :=
  ⟨fun H h => ⟨v0, F0, rfl, rfl, h (cown (OwnS 3 (roE rdInt)) F0 v0.v a.Values) (by simp)⟩, by simp [cown]⟩
instance fd51_6 : IFD Tryz.prog 51 6 8 := ⟨by unfold FD; kernel_rfl⟩
instance ty49 : ITY Tryz.prog 49 1 24 (.slice none 0 0) := ⟨by unfold TY; kernel_rfl⟩
instance fd51_7 : IFD Tryz.prog 51 7 9 := ⟨by unfold FD; kernel_rfl⟩
instance fd34_8 : IFD Tryz.prog 34 8 10 := ⟨by unfold FD; kernel_rfl⟩
instance fd51_8 : IFD Tryz.prog 51 8 10 := ⟨by unfold FD; kernel_rfl⟩
instance cf32 : ICF Tryz.prog 32 := ⟨fun _ _ => Tryz.call32 _ _⟩
instance cf89 : ICF Tryz.prog 89 := ⟨fun _ _ => Tryz.call89 _ _⟩
instance fd51_9 : IFD Tryz.prog 51 9 11 := ⟨by unfold FD; kernel_rfl⟩
instance ty32 : ITY Tryz.prog 32 1 24 (.slice none 0 0) := ⟨by unfold TY; kernel_rfl⟩
instance ag51 : IAG Tryz.prog 51 true := ⟨by unfold AG; kernel_rfl⟩
instance cf8 : ICF Tryz.prog 8 := ⟨fun _ _ => Tryz.call8 _ _⟩
instance ty57 : ITY Tryz.prog 57 3 40 (.agg [(.bool false), (.int .i64 0), (.slice none 0 0)].toArray) := ⟨by unfold TY; kernel_rfl⟩
instance fd38_0 : IFD Tryz.prog 38 0 0 := ⟨by unfold FD; kernel_rfl⟩
instance ag4 : IAG Tryz.prog 4 false := ⟨by unfold AG; kernel_rfl⟩
instance fd57_0 : IFD Tryz.prog 57 0 0 := ⟨by unfold FD; kernel_rfl⟩
instance ty4 : ITY Tryz.prog 4 1 1 (.bool false) := ⟨by unfold TY; kernel_rfl⟩
instance fd57_1 : IFD Tryz.prog 57 1 1 := ⟨by unfold FD; kernel_rfl⟩
instance ag57 : IAG Tryz.prog 57 true := ⟨by unfold AG; kernel_rfl⟩
instance cf6 : ICF Tryz.prog 6 := ⟨fun _ _ => Tryz.call6 _ _⟩
instance cf23 : ICF Tryz.prog 23 := ⟨fun _ _ => Tryz.call23 _ _⟩
instance ag49 : IAG Tryz.prog 49 false := ⟨by unfold AG; kernel_rfl⟩
theorem ni22 : NotInt Tryz.prog 22 := .inr ⟨3, by kernel_rfl⟩
instance cf66 : ICF Tryz.prog 66 := ⟨fun _ _ => Tryz.call66 _ _⟩
instance ag43 : IAG Tryz.prog 43 false := ⟨by unfold AG; kernel_rfl⟩
instance cf126 : ICF Tryz.prog 126 := ⟨fun _ _ => Tryz.call126 _ _⟩
theorem ls55_0 {a : Fact} : ∀ H e, rd55 H e a → e.cells.toList[0]? = some (.int .i64 a.Rel) := by
  intro H e h
  obtain ⟨_, rfl, _⟩ := h
  rfl
theorem lv55_1 {a : Fact} : ∀ H e, rd55 H e a → ∃ w : Sv, e.cells.toList[1]? = some w.v ∧ (RdS 3 rdInt) H w.v a.Values := by
  intro H e h
  obtain ⟨v0, rfl, h0⟩ := h
  exact ⟨v0, rfl, h0⟩
instance cf83 : ICF Tryz.prog 83 := ⟨fun _ _ => Tryz.call83 _ _⟩
theorem ni43 : NotInt Tryz.prog 43 := .inr ⟨55, by kernel_rfl⟩
instance cf67 : ICF Tryz.prog 67 := ⟨fun _ _ => Tryz.call67 _ _⟩
instance ag46 : IAG Tryz.prog 46 false := ⟨by unfold AG; kernel_rfl⟩
def ul156_0_156 (a : Stored) (p : Sv × Sv) : List Value := [(.int .i64 a.Access.Method), p.1.v, p.2.v, (.int .i64 a.At)]
theorem la156_0_156 {a : Stored} : ∀ H e, rd156 H e a → ∃ i : Sv × Sv, 0 + 4 ≤ e.cells.size ∧ (e.cells.toList.drop 0).take 4 = ul156_0_156 a i ∧ ∀ c ∈ ([crd (RdS 3 rdInt) i.1.v a.Access.Values, crd (RdS 55 rd55) i.2.v a.Facts] : List Comp), c.P H ∧ c.F = [] := by
  intro H e h
  obtain ⟨v0, v1, rfl, h0, h1⟩ := h
  refine ⟨(v0, v1), Nat.le_of_ble_eq_true rfl, rfl, fun c hc => by
    simp only [List.mem_cons, List.not_mem_nil, or_false] at hc
    rcases hc with rfl | rfl
    · exact ⟨h0, rfl⟩
    · exact ⟨h1, rfl⟩
⟩
instance cf127 : ICF Tryz.prog 127 := ⟨fun _ _ => Tryz.call127 _ _⟩
instance cf128 : ICF Tryz.prog 128 := ⟨fun _ _ => Tryz.call128 _ _⟩
theorem ni46 : NotInt Tryz.prog 46 := .inr ⟨156, by kernel_rfl⟩
instance cf68 : ICF Tryz.prog 68 := ⟨fun _ _ => Tryz.call68 _ _⟩
theorem ls124_0 {a : Access} : ∀ H e, rd124 H e a → e.cells.toList[0]? = some (.int .i64 a.Method) := by
  intro H e h
  obtain ⟨_, rfl, _⟩ := h
  rfl
theorem lv124_1 {a : Access} : ∀ H e, rd124 H e a → ∃ w : Sv, e.cells.toList[1]? = some w.v ∧ (RdS 3 rdInt) H w.v a.Values := by
  intro H e h
  obtain ⟨v0, rfl, h0⟩ := h
  exact ⟨v0, rfl, h0⟩
theorem ni49 : NotInt Tryz.prog 49 := .inr ⟨124, by kernel_rfl⟩
instance ag41 : IAG Tryz.prog 41 false := ⟨by unfold AG; kernel_rfl⟩
instance ag42 : IAG Tryz.prog 42 false := ⟨by unfold AG; kernel_rfl⟩
instance cf70 : ICF Tryz.prog 70 := ⟨fun _ _ => Tryz.call70 _ _⟩
theorem ni110 : NotInt Tryz.prog 110 := .inr ⟨22, by kernel_rfl⟩
theorem ni32 : NotInt Tryz.prog 32 := .inr ⟨110, by kernel_rfl⟩
theorem ls116_0 {a : Rule} : ∀ H e, rd116 H e a → e.cells.toList[0]? = some (.int .i64 a.From) := by
  intro H e h
  obtain ⟨_, rfl, _⟩ := h
  rfl
theorem ls116_1 {a : Rule} : ∀ H e, rd116 H e a → e.cells.toList[1]? = some (.int .i64 a.To) := by
  intro H e h
  obtain ⟨_, rfl, _⟩ := h
  rfl
theorem lv116_2 {a : Rule} : ∀ H e, rd116 H e a → ∃ w : Sv, e.cells.toList[2]? = some w.v ∧ (RdS 3 rdInt) H w.v a.Map := by
  intro H e h
  obtain ⟨v0, rfl, h0⟩ := h
  exact ⟨v0, rfl, h0⟩
theorem ni42 : NotInt Tryz.prog 42 := .inr ⟨116, by kernel_rfl⟩
def ul114_0_114 (a : Method) (p : Sv) : List Value := [(.int .i64 a.Rel), p.v, (.int .i64 a.Limit), (.int .i64 a.Cost), (.int .i64 a.Quota)]
theorem la114_0_114 {a : Method} : ∀ H e, rd114 H e a → ∃ i : Sv, 0 + 5 ≤ e.cells.size ∧ (e.cells.toList.drop 0).take 5 = ul114_0_114 a i ∧ ∀ c ∈ ([crd (RdS 3 rdInt) i.v a.Inputs] : List Comp), c.P H ∧ c.F = [] := by
  intro H e h
  obtain ⟨v0, rfl, h0⟩ := h
  refine ⟨v0, Nat.le_of_ble_eq_true rfl, rfl, fun c hc => by
    simp only [List.mem_cons, List.not_mem_nil, or_false] at hc
    rcases hc with rfl
    · exact ⟨h0, rfl⟩
⟩
instance cf69 : ICF Tryz.prog 69 := ⟨fun _ _ => Tryz.call69 _ _⟩
theorem ni41 : NotInt Tryz.prog 41 := .inr ⟨114, by kernel_rfl⟩
instance cf24 : ICF Tryz.prog 24 := ⟨fun _ _ => Tryz.call24 _ _⟩
instance cf71 : ICF Tryz.prog 71 := ⟨fun _ _ => Tryz.call71 _ _⟩
instance cf77 : ICF Tryz.prog 77 := ⟨fun _ _ => Tryz.call77 _ _⟩
instance cf72 : ICF Tryz.prog 72 := ⟨fun _ _ => Tryz.call72 _ _⟩
instance cf129 : ICF Tryz.prog 129 := ⟨fun _ _ => Tryz.call129 _ _⟩
instance cf73 : ICF Tryz.prog 73 := ⟨fun _ _ => Tryz.call73 _ _⟩
def ul116_0_116 (a : Rule) (p : Sv) : List Value := [(.int .i64 a.From), (.int .i64 a.To), p.v]
theorem la116_0_116 {a : Rule} : ∀ H e, rd116 H e a → ∃ i : Sv, 0 + 3 ≤ e.cells.size ∧ (e.cells.toList.drop 0).take 3 = ul116_0_116 a i ∧ ∀ c ∈ ([crd (RdS 3 rdInt) i.v a.Map] : List Comp), c.P H ∧ c.F = [] := by
  intro H e h
  obtain ⟨v0, rfl, h0⟩ := h
  refine ⟨v0, Nat.le_of_ble_eq_true rfl, rfl, fun c hc => by
    simp only [List.mem_cons, List.not_mem_nil, or_false] at hc
    rcases hc with rfl
    · exact ⟨h0, rfl⟩
⟩
instance cf130 : ICF Tryz.prog 130 := ⟨fun _ _ => Tryz.call130 _ _⟩
instance cf74 : ICF Tryz.prog 74 := ⟨fun _ _ => Tryz.call74 _ _⟩
instance cf131 : ICF Tryz.prog 131 := ⟨fun _ _ => Tryz.call131 _ _⟩
def ul55_0_55 (a : Fact) (p : Sv) : List Value := [(.int .i64 a.Rel), p.v]
theorem la55_0_55 {a : Fact} : ∀ H e, rd55 H e a → ∃ i : Sv, 0 + 2 ≤ e.cells.size ∧ (e.cells.toList.drop 0).take 2 = ul55_0_55 a i ∧ ∀ c ∈ ([crd (RdS 3 rdInt) i.v a.Values] : List Comp), c.P H ∧ c.F = [] := by
  intro H e h
  obtain ⟨v0, rfl, h0⟩ := h
  refine ⟨v0, Nat.le_of_ble_eq_true rfl, rfl, fun c hc => by
    simp only [List.mem_cons, List.not_mem_nil, or_false] at hc
    rcases hc with rfl
    · exact ⟨h0, rfl⟩
⟩
instance cf79 : ICF Tryz.prog 79 := ⟨fun _ _ => Tryz.call79 _ _⟩
instance cf82 : ICF Tryz.prog 82 := ⟨fun _ _ => Tryz.call82 _ _⟩
instance cf75 : ICF Tryz.prog 75 := ⟨fun _ _ => Tryz.call75 _ _⟩
instance cf76 : ICF Tryz.prog 76 := ⟨fun _ _ => Tryz.call76 _ _⟩
theorem lv114_1 {a : Method} : ∀ H e, rd114 H e a → ∃ w : Sv, e.cells.toList[1]? = some w.v ∧ (RdS 3 rdInt) H w.v a.Inputs := by
  intro H e h
  obtain ⟨v0, rfl, h0⟩ := h
  exact ⟨v0, rfl, h0⟩
def ul156_0_124 (a : Stored) (p : Sv) : List Value := [(.int .i64 a.Access.Method), p.v]
theorem la156_0_124 {a : Stored} : ∀ H e, rd156 H e a → ∃ i : Sv, 0 + 2 ≤ e.cells.size ∧ (e.cells.toList.drop 0).take 2 = ul156_0_124 a i ∧ ∀ c ∈ ([crd (RdS 3 rdInt) i.v a.Access.Values] : List Comp), c.P H ∧ c.F = [] := by
  intro H e h
  obtain ⟨v0, v1, rfl, h0, h1⟩ := h
  refine ⟨v0, Nat.le_of_ble_eq_true rfl, rfl, fun c hc => by
    simp only [List.mem_cons, List.not_mem_nil, or_false] at hc
    rcases hc with rfl
    · exact ⟨h0, rfl⟩
⟩
instance cf132 : ICF Tryz.prog 132 := ⟨fun _ _ => Tryz.call132 _ _⟩
instance cf165 : ICF Tryz.prog 165 := ⟨fun _ _ => Tryz.call165 _ _⟩
instance cf133 : ICF Tryz.prog 133 := ⟨fun _ _ => Tryz.call133 _ _⟩
instance cf78 : ICF Tryz.prog 78 := ⟨fun _ _ => Tryz.call78 _ _⟩
def ul124_0_124 (a : Access) (p : Sv) : List Value := [(.int .i64 a.Method), p.v]
theorem la124_0_124 {a : Access} : ∀ H e, rd124 H e a → ∃ i : Sv, 0 + 2 ≤ e.cells.size ∧ (e.cells.toList.drop 0).take 2 = ul124_0_124 a i ∧ ∀ c ∈ ([crd (RdS 3 rdInt) i.v a.Values] : List Comp), c.P H ∧ c.F = [] := by
  intro H e h
  obtain ⟨v0, rfl, h0⟩ := h
  refine ⟨v0, Nat.le_of_ble_eq_true rfl, rfl, fun c hc => by
    simp only [List.mem_cons, List.not_mem_nil, or_false] at hc
    rcases hc with rfl
    · exact ⟨h0, rfl⟩
⟩
instance cf25 : ICF Tryz.prog 25 := ⟨fun _ _ => Tryz.call25 _ _⟩
instance cf80 : ICF Tryz.prog 80 := ⟨fun _ _ => Tryz.call80 _ _⟩
instance cf81 : ICF Tryz.prog 81 := ⟨fun _ _ => Tryz.call81 _ _⟩
instance cf9 : ICF Tryz.prog 9 := ⟨fun _ _ => Tryz.call9 _ _⟩
instance cf34 : ICF Tryz.prog 34 := ⟨fun _ _ => Tryz.call34 _ _⟩
instance cf90 : ICF Tryz.prog 90 := ⟨fun _ _ => Tryz.call90 _ _⟩
instance cf91 : ICF Tryz.prog 91 := ⟨fun _ _ => Tryz.call91 _ _⟩
instance cf92 : ICF Tryz.prog 92 := ⟨fun _ _ => Tryz.call92 _ _⟩
instance cf135 : ICF Tryz.prog 135 := ⟨fun _ _ => Tryz.call135 _ _⟩
instance cf160 : ICF Tryz.prog 160 := ⟨fun _ _ => Tryz.call160 _ _⟩
instance cf93 : ICF Tryz.prog 93 := ⟨fun _ _ => Tryz.call93 _ _⟩
instance cf136 : ICF Tryz.prog 136 := ⟨fun _ _ => Tryz.call136 _ _⟩
instance cf137 : ICF Tryz.prog 137 := ⟨fun _ _ => Tryz.call137 _ _⟩
instance cf166 : ICF Tryz.prog 166 := ⟨fun _ _ => Tryz.call166 _ _⟩
instance cf138 : ICF Tryz.prog 138 := ⟨fun _ _ => Tryz.call138 _ _⟩
instance cf94 : ICF Tryz.prog 94 := ⟨fun _ _ => Tryz.call94 _ _⟩
instance cf96 : ICF Tryz.prog 96 := ⟨fun _ _ => Tryz.call96 _ _⟩
instance cf95 : ICF Tryz.prog 95 := ⟨fun _ _ => Tryz.call95 _ _⟩
instance cf35 : ICF Tryz.prog 35 := ⟨fun _ _ => Tryz.call35 _ _⟩
instance cf97 : ICF Tryz.prog 97 := ⟨fun _ _ => Tryz.call97 _ _⟩
instance cf139 : ICF Tryz.prog 139 := ⟨fun _ _ => Tryz.call139 _ _⟩
instance cf106 : ICF Tryz.prog 106 := ⟨fun _ _ => Tryz.call106 _ _⟩
instance cf152 : ICF Tryz.prog 152 := ⟨fun _ _ => Tryz.call152 _ _⟩
instance cf176 : ICF Tryz.prog 176 := ⟨fun _ _ => Tryz.call176 _ _⟩
instance cf167 : ICF Tryz.prog 167 := ⟨fun _ _ => Tryz.call167 _ _⟩
instance cf140 : ICF Tryz.prog 140 := ⟨fun _ _ => Tryz.call140 _ _⟩
instance cf168 : ICF Tryz.prog 168 := ⟨fun _ _ => Tryz.call168 _ _⟩
instance cf141 : ICF Tryz.prog 141 := ⟨fun _ _ => Tryz.call141 _ _⟩
instance cf142 : ICF Tryz.prog 142 := ⟨fun _ _ => Tryz.call142 _ _⟩
instance cf156 : ICF Tryz.prog 156 := ⟨fun _ _ => Tryz.call156 _ _⟩
instance cf169 : ICF Tryz.prog 169 := ⟨fun _ _ => Tryz.call169 _ _⟩
instance cf180 : ICF Tryz.prog 180 := ⟨fun _ _ => Tryz.call180 _ _⟩
instance cf181 : ICF Tryz.prog 181 := ⟨fun _ _ => Tryz.call181 _ _⟩
instance cf182 : ICF Tryz.prog 182 := ⟨fun _ _ => Tryz.call182 _ _⟩
instance cf98 : ICF Tryz.prog 98 := ⟨fun _ _ => Tryz.call98 _ _⟩
instance cf143 : ICF Tryz.prog 143 := ⟨fun _ _ => Tryz.call143 _ _⟩
instance cf170 : ICF Tryz.prog 170 := ⟨fun _ _ => Tryz.call170 _ _⟩
instance cf144 : ICF Tryz.prog 144 := ⟨fun _ _ => Tryz.call144 _ _⟩
instance cf145 : ICF Tryz.prog 145 := ⟨fun _ _ => Tryz.call145 _ _⟩
instance cf171 : ICF Tryz.prog 171 := ⟨fun _ _ => Tryz.call171 _ _⟩
instance cf183 : ICF Tryz.prog 183 := ⟨fun _ _ => Tryz.call183 _ _⟩
instance cf99 : ICF Tryz.prog 99 := ⟨fun _ _ => Tryz.call99 _ _⟩
instance cf146 : ICF Tryz.prog 146 := ⟨fun _ _ => Tryz.call146 _ _⟩
instance cf108 : ICF Tryz.prog 108 := ⟨fun _ _ => Tryz.call108 _ _⟩
instance cf150 : ICF Tryz.prog 150 := ⟨fun _ _ => Tryz.call150 _ _⟩
instance cf173 : ICF Tryz.prog 173 := ⟨fun _ _ => Tryz.call173 _ _⟩
instance cf174 : ICF Tryz.prog 174 := ⟨fun _ _ => Tryz.call174 _ _⟩
instance cf112 : ICF Tryz.prog 112 := ⟨fun _ _ => Tryz.call112 _ _⟩
instance cf162 : ICF Tryz.prog 162 := ⟨fun _ _ => Tryz.call162 _ _⟩
instance cf179 : ICF Tryz.prog 179 := ⟨fun _ _ => Tryz.call179 _ _⟩
instance cf163 : ICF Tryz.prog 163 := ⟨fun _ _ => Tryz.call163 _ _⟩
instance cf161 : ICF Tryz.prog 161 := ⟨fun _ _ => Tryz.call161 _ _⟩
instance cf100 : ICF Tryz.prog 100 := ⟨fun _ _ => Tryz.call100 _ _⟩
instance cf147 : ICF Tryz.prog 147 := ⟨fun _ _ => Tryz.call147 _ _⟩
instance cf104 : ICF Tryz.prog 104 := ⟨fun _ _ => Tryz.call104 _ _⟩
instance cf172 : ICF Tryz.prog 172 := ⟨fun _ _ => Tryz.call172 _ _⟩
instance cf110 : ICF Tryz.prog 110 := ⟨fun _ _ => Tryz.call110 _ _⟩
instance cf184 : ICF Tryz.prog 184 := ⟨fun _ _ => Tryz.call184 _ _⟩
instance cf157 : ICF Tryz.prog 157 := ⟨fun _ _ => Tryz.call157 _ _⟩
instance cf101 : ICF Tryz.prog 101 := ⟨fun _ _ => Tryz.call101 _ _⟩
instance cf148 : ICF Tryz.prog 148 := ⟨fun _ _ => Tryz.call148 _ _⟩
instance cf102 : ICF Tryz.prog 102 := ⟨fun _ _ => Tryz.call102 _ _⟩
instance cf149 : ICF Tryz.prog 149 := ⟨fun _ _ => Tryz.call149 _ _⟩
instance cf103 : ICF Tryz.prog 103 := ⟨fun _ _ => Tryz.call103 _ _⟩
instance cf105 : ICF Tryz.prog 105 := ⟨fun _ _ => Tryz.call105 _ _⟩
instance cf151 : ICF Tryz.prog 151 := ⟨fun _ _ => Tryz.call151 _ _⟩
instance cf175 : ICF Tryz.prog 175 := ⟨fun _ _ => Tryz.call175 _ _⟩
instance cf153 : ICF Tryz.prog 153 := ⟨fun _ _ => Tryz.call153 _ _⟩
instance cf36 : ICF Tryz.prog 36 := ⟨fun _ _ => Tryz.call36 _ _⟩
instance cf107 : ICF Tryz.prog 107 := ⟨fun _ _ => Tryz.call107 _ _⟩
instance cf154 : ICF Tryz.prog 154 := ⟨fun _ _ => Tryz.call154 _ _⟩
instance cf155 : ICF Tryz.prog 155 := ⟨fun _ _ => Tryz.call155 _ _⟩
instance cf109 : ICF Tryz.prog 109 := ⟨fun _ _ => Tryz.call109 _ _⟩
instance cf158 : ICF Tryz.prog 158 := ⟨fun _ _ => Tryz.call158 _ _⟩
instance cf159 : ICF Tryz.prog 159 := ⟨fun _ _ => Tryz.call159 _ _⟩
theorem hov177 : ∀ args w, (callFunc 177 args).run Tryz.prog w = ((Extern.SlicesOverlaps.overlaps #[43, 43] #[4] args).run Tryz.prog w).andThen fun v w' => .ok (.value v) w' := fun args w => run_callFunc_extern Tryz.func177 (by kernel_rfl) (by kernel_rfl) (by kernel_rfl) (e := Extern.SlicesOverlaps.overlaps #[43, 43] #[4]) (by kernel_rfl) args w
theorem ik3 : IK Tryz.prog 3 .i64 := by unfold IK; kernel_rfl
instance cf111 : ICF Tryz.prog 111 := ⟨fun _ _ => Tryz.call111 _ _⟩
instance cf10 : ICF Tryz.prog 10 := ⟨fun _ _ => Tryz.call10 _ _⟩
instance cf37 : ICF Tryz.prog 37 := ⟨fun _ _ => Tryz.call37 _ _⟩
instance cf38 : ICF Tryz.prog 38 := ⟨fun _ _ => Tryz.call38 _ _⟩
instance cf113 : ICF Tryz.prog 113 := ⟨fun _ _ => Tryz.call113 _ _⟩
instance cf39 : ICF Tryz.prog 39 := ⟨fun _ _ => Tryz.call39 _ _⟩
instance cf114 : ICF Tryz.prog 114 := ⟨fun _ _ => Tryz.call114 _ _⟩
instance cf40 : ICF Tryz.prog 40 := ⟨fun _ _ => Tryz.call40 _ _⟩
instance cf115 : ICF Tryz.prog 115 := ⟨fun _ _ => Tryz.call115 _ _⟩
instance cf44 : ICF Tryz.prog 44 := ⟨fun _ _ => Tryz.call44 _ _⟩
instance cf41 : ICF Tryz.prog 41 := ⟨fun _ _ => Tryz.call41 _ _⟩
instance cf116 : ICF Tryz.prog 116 := ⟨fun _ _ => Tryz.call116 _ _⟩
instance cf164 : ICF Tryz.prog 164 := ⟨fun _ _ => Tryz.call164 _ _⟩
instance cf117 : ICF Tryz.prog 117 := ⟨fun _ _ => Tryz.call117 _ _⟩
instance cf42 : ICF Tryz.prog 42 := ⟨fun _ _ => Tryz.call42 _ _⟩
instance cf43 : ICF Tryz.prog 43 := ⟨fun _ _ => Tryz.call43 _ _⟩
instance cf118 : ICF Tryz.prog 118 := ⟨fun _ _ => Tryz.call118 _ _⟩
instance cf11 : ICF Tryz.prog 11 := ⟨fun _ _ => Tryz.call11 _ _⟩
instance cf12 : ICF Tryz.prog 12 := ⟨fun _ _ => Tryz.call12 _ _⟩
instance cf45 : ICF Tryz.prog 45 := ⟨fun _ _ => Tryz.call45 _ _⟩
instance cf46 : ICF Tryz.prog 46 := ⟨fun _ _ => Tryz.call46 _ _⟩
theorem sf114_0 {a : Method} {d : Int} : ∀ F H e, ow114 F H e a → ow114 F H (setPart e 0 (Value.cells (.int .i64 d)).toList) { a with Rel := d } := by
  intro F H e h
  obtain ⟨v0, F0, rfl, rfl, h0⟩ := h
  exact ⟨v0, F0, rfl, rfl, h0⟩
theorem fsf114_0 {a : Method} : ∀ F H e, ow114 F H e a → 0 + 1 ≤ e.cells.size := by
  intro F H e h
  obtain ⟨v0, F0, rfl, rfl, h0⟩ := h
  exact Nat.le_of_ble_eq_true rfl
theorem pt114_1 : Part ow114 1 (OwnS 3 (roE rdInt)) (fun a : Method => a.Inputs) (fun a d => { a with Inputs := d }) := ⟨fun {F H e a} h => by
  obtain ⟨v0, F0, rfl, rfl, h0⟩ := h
  exact ⟨v0, [], F0, [], rfl, by simp, h0, fun hi hk h' => ⟨v0, _, rfl, by simp, h'⟩⟩⟩
theorem sf114_2 {a : Method} {d : Int} : ∀ F H e, ow114 F H e a → ow114 F H (setPart e 2 (Value.cells (.int .i64 d)).toList) { a with Limit := d } := by
  intro F H e h
  obtain ⟨v0, F0, rfl, rfl, h0⟩ := h
  exact ⟨v0, F0, rfl, rfl, h0⟩
theorem fsf114_2 {a : Method} : ∀ F H e, ow114 F H e a → 2 + 1 ≤ e.cells.size := by
  intro F H e h
  obtain ⟨v0, F0, rfl, rfl, h0⟩ := h
  exact Nat.le_of_ble_eq_true rfl
theorem sf114_3 {a : Method} {d : Int} : ∀ F H e, ow114 F H e a → ow114 F H (setPart e 3 (Value.cells (.int .i64 d)).toList) { a with Cost := d } := by
  intro F H e h
  obtain ⟨v0, F0, rfl, rfl, h0⟩ := h
  exact ⟨v0, F0, rfl, rfl, h0⟩
theorem fsf114_3 {a : Method} : ∀ F H e, ow114 F H e a → 3 + 1 ≤ e.cells.size := by
  intro F H e h
  obtain ⟨v0, F0, rfl, rfl, h0⟩ := h
  exact Nat.le_of_ble_eq_true rfl
theorem sf114_4 {a : Method} {d : Int} : ∀ F H e, ow114 F H e a → ow114 F H (setPart e 4 (Value.cells (.int .i64 d)).toList) { a with Quota := d } := by
  intro F H e h
  obtain ⟨v0, F0, rfl, rfl, h0⟩ := h
  exact ⟨v0, F0, rfl, rfl, h0⟩
theorem fsf114_4 {a : Method} : ∀ F H e, ow114 F H e a → 4 + 1 ≤ e.cells.size := by
  intro F H e h
  obtain ⟨v0, F0, rfl, rfl, h0⟩ := h
  exact Nat.le_of_ble_eq_true rfl
instance cf47 : ICF Tryz.prog 47 := ⟨fun _ _ => Tryz.call47 _ _⟩
theorem sf116_0 {a : Rule} {d : Int} : ∀ F H e, ow116 F H e a → ow116 F H (setPart e 0 (Value.cells (.int .i64 d)).toList) { a with From := d } := by
  intro F H e h
  obtain ⟨v0, F0, rfl, rfl, h0⟩ := h
  exact ⟨v0, F0, rfl, rfl, h0⟩
theorem fsf116_0 {a : Rule} : ∀ F H e, ow116 F H e a → 0 + 1 ≤ e.cells.size := by
  intro F H e h
  obtain ⟨v0, F0, rfl, rfl, h0⟩ := h
  exact Nat.le_of_ble_eq_true rfl
theorem sf116_1 {a : Rule} {d : Int} : ∀ F H e, ow116 F H e a → ow116 F H (setPart e 1 (Value.cells (.int .i64 d)).toList) { a with To := d } := by
  intro F H e h
  obtain ⟨v0, F0, rfl, rfl, h0⟩ := h
  exact ⟨v0, F0, rfl, rfl, h0⟩
theorem fsf116_1 {a : Rule} : ∀ F H e, ow116 F H e a → 1 + 1 ≤ e.cells.size := by
  intro F H e h
  obtain ⟨v0, F0, rfl, rfl, h0⟩ := h
  exact Nat.le_of_ble_eq_true rfl
theorem pt116_2 : Part ow116 2 (OwnS 3 (roE rdInt)) (fun a : Rule => a.Map) (fun a d => { a with Map := d }) := ⟨fun {F H e a} h => by
  obtain ⟨v0, F0, rfl, rfl, h0⟩ := h
  exact ⟨v0, [], F0, [], rfl, by simp, h0, fun hi hk h' => ⟨v0, _, rfl, by simp, h'⟩⟩⟩
instance cf48 : ICF Tryz.prog 48 := ⟨fun _ _ => Tryz.call48 _ _⟩
instance cf119 : ICF Tryz.prog 119 := ⟨fun _ _ => Tryz.call119 _ _⟩
theorem sf55_0 {a : Fact} {d : Int} : ∀ F H e, ow55 F H e a → ow55 F H (setPart e 0 (Value.cells (.int .i64 d)).toList) { a with Rel := d } := by
  intro F H e h
  obtain ⟨v0, F0, rfl, rfl, h0⟩ := h
  exact ⟨v0, F0, rfl, rfl, h0⟩
theorem fsf55_0 {a : Fact} : ∀ F H e, ow55 F H e a → 0 + 1 ≤ e.cells.size := by
  intro F H e h
  obtain ⟨v0, F0, rfl, rfl, h0⟩ := h
  exact Nat.le_of_ble_eq_true rfl
theorem pt55_1 : Part ow55 1 (OwnS 3 (roE rdInt)) (fun a : Fact => a.Values) (fun a d => { a with Values := d }) := ⟨fun {F H e a} h => by
  obtain ⟨v0, F0, rfl, rfl, h0⟩ := h
  exact ⟨v0, [], F0, [], rfl, by simp, h0, fun hi hk h' => ⟨v0, _, rfl, by simp, h'⟩⟩⟩
instance cf49 : ICF Tryz.prog 49 := ⟨fun _ _ => Tryz.call49 _ _⟩
instance cf120 : ICF Tryz.prog 120 := ⟨fun _ _ => Tryz.call120 _ _⟩
theorem sf156_0 {a : Stored} {d : Int} : ∀ F H e, ow156 F H e a → ow156 F H (setPart e 0 (Value.cells (.int .i64 d)).toList) { a with Access := { a.Access with Method := d } } := by
  intro F H e h
  obtain ⟨v0, v1, F0, F1, rfl, rfl, h0, h1⟩ := h
  exact ⟨v0, v1, F0, F1, rfl, rfl, h0, h1⟩
theorem fsf156_0 {a : Stored} : ∀ F H e, ow156 F H e a → 0 + 1 ≤ e.cells.size := by
  intro F H e h
  obtain ⟨v0, v1, F0, F1, rfl, rfl, h0, h1⟩ := h
  exact Nat.le_of_ble_eq_true rfl
theorem pt156_1 : Part ow156 1 (OwnS 3 (roE rdInt)) (fun a : Stored => a.Access.Values) (fun a d => { a with Access := { a.Access with Values := d } }) := ⟨fun {F H e a} h => by
  obtain ⟨v0, v1, F0, F1, rfl, rfl, h0, h1⟩ := h
  exact ⟨v0, [], F0, F1, rfl, by simp, h0, fun hi hk h' => ⟨v0, v1, _, F1, rfl, by simp, h', Keep.keep h1 hi (fun k hm => hk k (by simp [hm]))⟩⟩⟩
theorem pt156_2 : Part ow156 2 (OwnS 55 ow55) (fun a : Stored => a.Facts) (fun a d => { a with Facts := d }) := ⟨fun {F H e a} h => by
  obtain ⟨v0, v1, F0, F1, rfl, rfl, h0, h1⟩ := h
  exact ⟨v1, F0, F1, [], rfl, by simp, h1, fun hi hk h' => ⟨v0, v1, F0, _, rfl, by simp, Keep.keep h0 hi (fun k hm => hk k (by simp [hm])), h'⟩⟩⟩
theorem sf156_3 {a : Stored} {d : Int} : ∀ F H e, ow156 F H e a → ow156 F H (setPart e 3 (Value.cells (.int .i64 d)).toList) { a with At := d } := by
  intro F H e h
  obtain ⟨v0, v1, F0, F1, rfl, rfl, h0, h1⟩ := h
  exact ⟨v0, v1, F0, F1, rfl, rfl, h0, h1⟩
theorem fsf156_3 {a : Stored} : ∀ F H e, ow156 F H e a → 3 + 1 ≤ e.cells.size := by
  intro F H e h
  obtain ⟨v0, v1, F0, F1, rfl, rfl, h0, h1⟩ := h
  exact Nat.le_of_ble_eq_true rfl
instance cf50 : ICF Tryz.prog 50 := ⟨fun _ _ => Tryz.call50 _ _⟩
theorem sf124_0 {a : Access} {d : Int} : ∀ F H e, ow124 F H e a → ow124 F H (setPart e 0 (Value.cells (.int .i64 d)).toList) { a with Method := d } := by
  intro F H e h
  obtain ⟨v0, F0, rfl, rfl, h0⟩ := h
  exact ⟨v0, F0, rfl, rfl, h0⟩
theorem fsf124_0 {a : Access} : ∀ F H e, ow124 F H e a → 0 + 1 ≤ e.cells.size := by
  intro F H e h
  obtain ⟨v0, F0, rfl, rfl, h0⟩ := h
  exact Nat.le_of_ble_eq_true rfl
theorem pt124_1 : Part ow124 1 (OwnS 3 (roE rdInt)) (fun a : Access => a.Values) (fun a d => { a with Values := d }) := ⟨fun {F H e a} h => by
  obtain ⟨v0, F0, rfl, rfl, h0⟩ := h
  exact ⟨v0, [], F0, [], rfl, by simp, h0, fun hi hk h' => ⟨v0, _, rfl, by simp, h'⟩⟩⟩
instance cf51 : ICF Tryz.prog 51 := ⟨fun _ _ => Tryz.call51 _ _⟩
theorem pt110_0 : Part (OwnS 22 (OwnS 3 (roE rdInt))) 0 (OwnS 22 (OwnS 3 (roE rdInt))) (fun a => a) (fun _ b => b) := Part.self (fun h => by obtain ⟨a, m, rfl⟩ := OwnS.len h; exact ⟨⟨a, _, m⟩, rfl⟩)
instance cf121 : ICF Tryz.prog 121 := ⟨fun _ _ => Tryz.call121 _ _⟩
theorem pt22_0 : Part (OwnS 3 (roE rdInt)) 0 (OwnS 3 (roE rdInt)) (fun a => a) (fun _ b => b) := Part.self (fun h => by obtain ⟨a, m, rfl⟩ := OwnS.len h; exact ⟨⟨a, _, m⟩, rfl⟩)
instance cf13 : ICF Tryz.prog 13 := ⟨fun _ _ => Tryz.call13 _ _⟩
instance cf52 : ICF Tryz.prog 52 := ⟨fun _ _ => Tryz.call52 _ _⟩
instance cf14 : ICF Tryz.prog 14 := ⟨fun _ _ => Tryz.call14 _ _⟩
instance cf53 : ICF Tryz.prog 53 := ⟨fun _ _ => Tryz.call53 _ _⟩
instance cf54 : ICF Tryz.prog 54 := ⟨fun _ _ => Tryz.call54 _ _⟩
theorem ls114_0 {a : Method} : ∀ H e, rd114 H e a → e.cells.toList[0]? = some (.int .i64 a.Rel) := by
  intro H e h
  obtain ⟨_, rfl, _⟩ := h
  rfl
theorem ls114_2 {a : Method} : ∀ H e, rd114 H e a → e.cells.toList[2]? = some (.int .i64 a.Limit) := by
  intro H e h
  obtain ⟨_, rfl, _⟩ := h
  rfl
theorem ls114_3 {a : Method} : ∀ H e, rd114 H e a → e.cells.toList[3]? = some (.int .i64 a.Cost) := by
  intro H e h
  obtain ⟨_, rfl, _⟩ := h
  rfl
theorem ls114_4 {a : Method} : ∀ H e, rd114 H e a → e.cells.toList[4]? = some (.int .i64 a.Quota) := by
  intro H e h
  obtain ⟨_, rfl, _⟩ := h
  rfl
instance cf55 : ICF Tryz.prog 55 := ⟨fun _ _ => Tryz.call55 _ _⟩
instance cf56 : ICF Tryz.prog 56 := ⟨fun _ _ => Tryz.call56 _ _⟩
instance cf122 : ICF Tryz.prog 122 := ⟨fun _ _ => Tryz.call122 _ _⟩
instance cf57 : ICF Tryz.prog 57 := ⟨fun _ _ => Tryz.call57 _ _⟩
instance cf123 : ICF Tryz.prog 123 := ⟨fun _ _ => Tryz.call123 _ _⟩
theorem ls156_0 {a : Stored} : ∀ H e, rd156 H e a → e.cells.toList[0]? = some (.int .i64 a.Access.Method) := by
  intro H e h
  obtain ⟨_, _, rfl, _, _⟩ := h
  rfl
theorem lv156_1 {a : Stored} : ∀ H e, rd156 H e a → ∃ w : Sv, e.cells.toList[1]? = some w.v ∧ (RdS 3 rdInt) H w.v a.Access.Values := by
  intro H e h
  obtain ⟨v0, v1, rfl, h0, h1⟩ := h
  exact ⟨v0, rfl, h0⟩
theorem lv156_2 {a : Stored} : ∀ H e, rd156 H e a → ∃ w : Sv, e.cells.toList[2]? = some w.v ∧ (RdS 55 rd55) H w.v a.Facts := by
  intro H e h
  obtain ⟨v0, v1, rfl, h0, h1⟩ := h
  exact ⟨v1, rfl, h1⟩
theorem ls156_3 {a : Stored} : ∀ H e, rd156 H e a → e.cells.toList[3]? = some (.int .i64 a.At) := by
  intro H e h
  obtain ⟨_, _, rfl, _, _⟩ := h
  rfl
instance cf58 : ICF Tryz.prog 58 := ⟨fun _ _ => Tryz.call58 _ _⟩
instance cf59 : ICF Tryz.prog 59 := ⟨fun _ _ => Tryz.call59 _ _⟩
instance cf124 : ICF Tryz.prog 124 := ⟨fun _ _ => Tryz.call124 _ _⟩
def rd34 (H : AHeap) (v : Value) (a : Mediator) : Prop := ∃ v0 v1 v2 v3 v4 v5 v6 v7 : Sv, v = .agg [v0.v, v1.v, v2.v, v3.v, (.int .i64 a.Source.Version), v4.v, (.int .i64 a.Cache.Age), (.int .i64 a.Now), v5.v, v6.v, (.int .i64 a.Spent), v7.v].toArray ∧ (RdS 3 rdInt) H v0.v a.Schema ∧ (RdS 100 rd100) H v1.v a.Methods ∧ (RdS 103 rd103) H v2.v a.Rules ∧ (RdS 36 rd36) H v3.v a.Source.Facts ∧ (RdS 153 rd153) H v4.v a.Cache.Entries ∧ (RdS 108 rd108) H v5.v a.Log ∧ (RdS 3 rdInt) H v6.v a.Times ∧ (RdS 110 (RdS 22 (RdS 3 rdInt))) H v7.v a.Results
instance : Mono rd34 := ⟨fun h hi => by
  obtain ⟨v0, v1, v2, v3, v4, v5, v6, v7, h, h0, h1, h2, h3, h4, h5, h6, h7⟩ := h
  exact ⟨v0, v1, v2, v3, v4, v5, v6, v7, h, Mono.up h0 hi, Mono.up h1 hi, Mono.up h2 hi, Mono.up h3 hi, Mono.up h4 hi, Mono.up h5 hi, Mono.up h6 hi, Mono.up h7 hi⟩⟩
instance : Cells rd34 12 := ⟨fun h => by
  obtain ⟨v0, v1, v2, v3, v4, v5, v6, v7, rfl, h0, h1, h2, h3, h4, h5, h6, h7⟩ := h
  exact ⟨rfl, rfl⟩⟩
theorem fa100_0 : fieldAt Tryz.prog 100 0 = some (3, 0, 1) := by kernel_rfl
theorem fa100_1 : fieldAt Tryz.prog 100 1 = some (22, 1, 1) := by kernel_rfl
theorem fa100_2 : fieldAt Tryz.prog 100 2 = some (3, 2, 1) := by kernel_rfl
theorem fa100_3 : fieldAt Tryz.prog 100 3 = some (3, 3, 1) := by kernel_rfl
theorem fa100_4 : fieldAt Tryz.prog 100 4 = some (3, 4, 1) := by kernel_rfl
def wf100 (a : Method) : Prop := wfInt a.Rel ∧ (wfSl wfInt) a.Inputs ∧ wfInt a.Limit ∧ wfInt a.Cost ∧ wfInt a.Quota
theorem sh100 : ∀ H v a, rd100 H v a → isAgV v = aggT Tryz.prog 100 := by
  intro H v a h
  obtain ⟨v1, rfl, _⟩ := h
  kernel_rfl
theorem op100 : Opn Tryz.prog 100 rd100 wf100 := by
  intro T enc w fuel cs x h hw ρ H hr hF
  have hl := opn_len fa100_0 h (n := 5) ty100.h.sz.cells
  obtain ⟨ρ0, H0, av0, a0, r0, f0, u0, i0, v0, q0, w0⟩ := opn_field fa100_0 h hw (Opn.int (by kernel_rfl)) hr hF
  obtain ⟨ρ1, H1, av1, a1, r1, f1, u1, i1, v1, q1, w1⟩ := opn_field fa100_1 h hw (Opn.slice (s := 1) (by kernel_rfl) (by kernel_rfl) (by decide) (Nat.lt_of_lt_of_le (by decide) (Nat.le_of_eq (show 8 = _ from by kernel_rfl))) (Opn.int (by kernel_rfl))) r0 f0
  obtain ⟨ρ2, H2, av2, a2, r2, f2, u2, i2, v2, q2, w2⟩ := opn_field fa100_2 h hw (Opn.int (by kernel_rfl)) r1 f1
  obtain ⟨ρ3, H3, av3, a3, r3, f3, u3, i3, v3, q3, w3⟩ := opn_field fa100_3 h hw (Opn.int (by kernel_rfl)) r2 f2
  obtain ⟨ρ4, H4, av4, a4, r4, f4, u4, i4, v4, q4, w4⟩ := opn_field fa100_4 h hw (Opn.int (by kernel_rfl)) r3 f3
  obtain rfl : av0 = (.int .i64 a0) := q0
  replace v0 := v0.up (((u1.trans u2).trans u3).trans u4)
  obtain ⟨sa1, sm1, rfl⟩ := RdS.len q1
  replace v1 := v1.one rfl
  replace v1 := v1.up ((u2.trans u3).trans u4)
  obtain rfl : av2 = (.int .i64 a2) := q2
  replace v2 := v2.up (u3.trans u4)
  obtain rfl : av3 = (.int .i64 a3) := q3
  replace v3 := v3.up u4
  obtain rfl : av4 = (.int .i64 a4) := q4
  have hv := RelVs.field (o := 0) v0 (RelVs.field (o := 1) v1 (RelVs.field (o := 2) v2 (RelVs.field (o := 3) v3 (RelVs.field (o := 4) v4 (RelVs.end hl)))))
  rw [List.drop_zero] at hv
  refine ⟨ρ4, H4, (.agg [(.int .i64 a0), (.slice sa1 a1.length sm1), (.int .i64 a2), (.int .i64 a3), (.int .i64 a4)].toArray : Value), ({ Rel := a0, Inputs := a1, Limit := a2, Cost := a3, Quota := a4 } : Method), r4, f4, ((((u0.trans u1).trans u2).trans u3).trans u4), ((((i0.trans i1).trans i2).trans i3).trans i4), ?_, ?_, w0, w1, w2, w3, w4⟩
  · exact hv
  · exact ⟨⟨sa1, _, sm1⟩, rfl, (Mono.up q1 ((i2.trans i3).trans i4))⟩
theorem fa103_0 : fieldAt Tryz.prog 103 0 = some (3, 0, 1) := by kernel_rfl
theorem fa103_1 : fieldAt Tryz.prog 103 1 = some (3, 1, 1) := by kernel_rfl
theorem fa103_2 : fieldAt Tryz.prog 103 2 = some (22, 2, 1) := by kernel_rfl
def wf103 (a : Rule) : Prop := wfInt a.From ∧ wfInt a.To ∧ (wfSl wfInt) a.Map
theorem sh103 : ∀ H v a, rd103 H v a → isAgV v = aggT Tryz.prog 103 := by
  intro H v a h
  obtain ⟨v2, rfl, _⟩ := h
  kernel_rfl
theorem op103 : Opn Tryz.prog 103 rd103 wf103 := by
  intro T enc w fuel cs x h hw ρ H hr hF
  have hl := opn_len fa103_0 h (n := 3) ty103.h.sz.cells
  obtain ⟨ρ0, H0, av0, a0, r0, f0, u0, i0, v0, q0, w0⟩ := opn_field fa103_0 h hw (Opn.int (by kernel_rfl)) hr hF
  obtain ⟨ρ1, H1, av1, a1, r1, f1, u1, i1, v1, q1, w1⟩ := opn_field fa103_1 h hw (Opn.int (by kernel_rfl)) r0 f0
  obtain ⟨ρ2, H2, av2, a2, r2, f2, u2, i2, v2, q2, w2⟩ := opn_field fa103_2 h hw (Opn.slice (s := 1) (by kernel_rfl) (by kernel_rfl) (by decide) (Nat.lt_of_lt_of_le (by decide) (Nat.le_of_eq (show 8 = _ from by kernel_rfl))) (Opn.int (by kernel_rfl))) r1 f1
  obtain rfl : av0 = (.int .i64 a0) := q0
  replace v0 := v0.up (u1.trans u2)
  obtain rfl : av1 = (.int .i64 a1) := q1
  replace v1 := v1.up u2
  obtain ⟨sa2, sm2, rfl⟩ := RdS.len q2
  replace v2 := v2.one rfl
  have hv := RelVs.field (o := 0) v0 (RelVs.field (o := 1) v1 (RelVs.field (o := 2) v2 (RelVs.end hl)))
  rw [List.drop_zero] at hv
  refine ⟨ρ2, H2, (.agg [(.int .i64 a0), (.int .i64 a1), (.slice sa2 a2.length sm2)].toArray : Value), ({ From := a0, To := a1, Map := a2 } : Rule), r2, f2, ((u0.trans u1).trans u2), ((i0.trans i1).trans i2), ?_, ?_, w0, w1, w2⟩
  · exact hv
  · exact ⟨⟨sa2, _, sm2⟩, rfl, q2⟩
def rd27 (H : AHeap) (v : Value) (a : Source) : Prop := ∃ v0 : Sv, v = .agg [v0.v, (.int .i64 a.Version)].toArray ∧ (RdS 36 rd36) H v0.v a.Facts
instance : Mono rd27 := ⟨fun h hi => by
  obtain ⟨v0, h, h0⟩ := h
  exact ⟨v0, h, Mono.up h0 hi⟩⟩
instance : Cells rd27 2 := ⟨fun h => by
  obtain ⟨v0, rfl, h0⟩ := h
  exact ⟨rfl, rfl⟩⟩
theorem fa36_0 : fieldAt Tryz.prog 36 0 = some (3, 0, 1) := by kernel_rfl
theorem fa36_1 : fieldAt Tryz.prog 36 1 = some (22, 1, 1) := by kernel_rfl
def wf36 (a : Fact) : Prop := wfInt a.Rel ∧ (wfSl wfInt) a.Values
theorem sh36 : ∀ H v a, rd36 H v a → isAgV v = aggT Tryz.prog 36 := by
  intro H v a h
  obtain ⟨v1, rfl, _⟩ := h
  kernel_rfl
theorem op36 : Opn Tryz.prog 36 rd36 wf36 := by
  intro T enc w fuel cs x h hw ρ H hr hF
  have hl := opn_len fa36_0 h (n := 2) ty36.h.sz.cells
  obtain ⟨ρ0, H0, av0, a0, r0, f0, u0, i0, v0, q0, w0⟩ := opn_field fa36_0 h hw (Opn.int (by kernel_rfl)) hr hF
  obtain ⟨ρ1, H1, av1, a1, r1, f1, u1, i1, v1, q1, w1⟩ := opn_field fa36_1 h hw (Opn.slice (s := 1) (by kernel_rfl) (by kernel_rfl) (by decide) (Nat.lt_of_lt_of_le (by decide) (Nat.le_of_eq (show 8 = _ from by kernel_rfl))) (Opn.int (by kernel_rfl))) r0 f0
  obtain rfl : av0 = (.int .i64 a0) := q0
  replace v0 := v0.up u1
  obtain ⟨sa1, sm1, rfl⟩ := RdS.len q1
  replace v1 := v1.one rfl
  have hv := RelVs.field (o := 0) v0 (RelVs.field (o := 1) v1 (RelVs.end hl))
  rw [List.drop_zero] at hv
  refine ⟨ρ1, H1, (.agg [(.int .i64 a0), (.slice sa1 a1.length sm1)].toArray : Value), ({ Rel := a0, Values := a1 } : Fact), r1, f1, (u0.trans u1), (i0.trans i1), ?_, ?_, w0, w1⟩
  · exact hv
  · exact ⟨⟨sa1, _, sm1⟩, rfl, q1⟩
theorem fa27_0 : fieldAt Tryz.prog 27 0 = some (25, 0, 1) := by kernel_rfl
theorem fa27_1 : fieldAt Tryz.prog 27 1 = some (3, 1, 1) := by kernel_rfl
def wf27 (a : Source) : Prop := (wfSl wf36) a.Facts ∧ wfInt a.Version
theorem sh27 : ∀ H v a, rd27 H v a → isAgV v = aggT Tryz.prog 27 := by
  intro H v a h
  obtain ⟨v0, rfl, _⟩ := h
  kernel_rfl
theorem op27 : Opn Tryz.prog 27 rd27 wf27 := by
  intro T enc w fuel cs x h hw ρ H hr hF
  have hl := opn_len fa27_0 h (n := 2) ty27.h.sz.cells
  obtain ⟨ρ0, H0, av0, a0, r0, f0, u0, i0, v0, q0, w0⟩ := opn_field fa27_0 h hw (Opn.slice (s := 2) (by kernel_rfl) (by kernel_rfl) (by decide) (Nat.lt_of_lt_of_le (by decide) (Nat.le_of_eq (show 32 = _ from by kernel_rfl))) op36) hr hF
  obtain ⟨ρ1, H1, av1, a1, r1, f1, u1, i1, v1, q1, w1⟩ := opn_field fa27_1 h hw (Opn.int (by kernel_rfl)) r0 f0
  obtain ⟨sa0, sm0, rfl⟩ := RdS.len q0
  replace v0 := v0.one rfl
  replace v0 := v0.up u1
  obtain rfl : av1 = (.int .i64 a1) := q1
  have hv := RelVs.field (o := 0) v0 (RelVs.field (o := 1) v1 (RelVs.end hl))
  rw [List.drop_zero] at hv
  refine ⟨ρ1, H1, (.agg [(.slice sa0 a0.length sm0), (.int .i64 a1)].toArray : Value), ({ Facts := a0, Version := a1 } : Source), r1, f1, (u0.trans u1), (i0.trans i1), ?_, ?_, w0, w1⟩
  · exact hv
  · exact ⟨⟨sa0, _, sm0⟩, rfl, (Mono.up q0 i1)⟩
def rd30 (H : AHeap) (v : Value) (a : Cache) : Prop := ∃ v0 : Sv, v = .agg [v0.v, (.int .i64 a.Age)].toArray ∧ (RdS 153 rd153) H v0.v a.Entries
instance : Mono rd30 := ⟨fun h hi => by
  obtain ⟨v0, h, h0⟩ := h
  exact ⟨v0, h, Mono.up h0 hi⟩⟩
instance : Cells rd30 2 := ⟨fun h => by
  obtain ⟨v0, rfl, h0⟩ := h
  exact ⟨rfl, rfl⟩⟩
theorem fa108_0 : fieldAt Tryz.prog 108 0 = some (3, 0, 1) := by kernel_rfl
theorem fa108_1 : fieldAt Tryz.prog 108 1 = some (22, 1, 1) := by kernel_rfl
def wf108 (a : Access) : Prop := wfInt a.Method ∧ (wfSl wfInt) a.Values
theorem sh108 : ∀ H v a, rd108 H v a → isAgV v = aggT Tryz.prog 108 := by
  intro H v a h
  obtain ⟨v1, rfl, _⟩ := h
  kernel_rfl
theorem op108 : Opn Tryz.prog 108 rd108 wf108 := by
  intro T enc w fuel cs x h hw ρ H hr hF
  have hl := opn_len fa108_0 h (n := 2) ty108.h.sz.cells
  obtain ⟨ρ0, H0, av0, a0, r0, f0, u0, i0, v0, q0, w0⟩ := opn_field fa108_0 h hw (Opn.int (by kernel_rfl)) hr hF
  obtain ⟨ρ1, H1, av1, a1, r1, f1, u1, i1, v1, q1, w1⟩ := opn_field fa108_1 h hw (Opn.slice (s := 1) (by kernel_rfl) (by kernel_rfl) (by decide) (Nat.lt_of_lt_of_le (by decide) (Nat.le_of_eq (show 8 = _ from by kernel_rfl))) (Opn.int (by kernel_rfl))) r0 f0
  obtain rfl : av0 = (.int .i64 a0) := q0
  replace v0 := v0.up u1
  obtain ⟨sa1, sm1, rfl⟩ := RdS.len q1
  replace v1 := v1.one rfl
  have hv := RelVs.field (o := 0) v0 (RelVs.field (o := 1) v1 (RelVs.end hl))
  rw [List.drop_zero] at hv
  refine ⟨ρ1, H1, (.agg [(.int .i64 a0), (.slice sa1 a1.length sm1)].toArray : Value), ({ Method := a0, Values := a1 } : Access), r1, f1, (u0.trans u1), (i0.trans i1), ?_, ?_, w0, w1⟩
  · exact hv
  · exact ⟨⟨sa1, _, sm1⟩, rfl, q1⟩
theorem fa153_0 : fieldAt Tryz.prog 153 0 = some (108, 0, 2) := by kernel_rfl
theorem fa153_1 : fieldAt Tryz.prog 153 1 = some (25, 2, 1) := by kernel_rfl
theorem fa153_2 : fieldAt Tryz.prog 153 2 = some (3, 3, 1) := by kernel_rfl
def wf153 (a : Stored) : Prop := wf108 a.Access ∧ (wfSl wf36) a.Facts ∧ wfInt a.At
theorem sh153 : ∀ H v a, rd153 H v a → isAgV v = aggT Tryz.prog 153 := by
  intro H v a h
  obtain ⟨v1, v2, rfl, _, _⟩ := h
  kernel_rfl
theorem op153 : Opn Tryz.prog 153 rd153 wf153 := by
  intro T enc w fuel cs x h hw ρ H hr hF
  have hl := opn_len fa153_0 h (n := 4) ty153.h.sz.cells
  obtain ⟨ρ0, H0, av0, a0, r0, f0, u0, i0, v0, q0, w0⟩ := opn_field fa153_0 h hw op108 hr hF
  obtain ⟨ρ1, H1, av1, a1, r1, f1, u1, i1, v1, q1, w1⟩ := opn_field fa153_1 h hw (Opn.slice (s := 2) (by kernel_rfl) (by kernel_rfl) (by decide) (Nat.lt_of_lt_of_le (by decide) (Nat.le_of_eq (show 32 = _ from by kernel_rfl))) op36) r0 f0
  obtain ⟨ρ2, H2, av2, a2, r2, f2, u2, i2, v2, q2, w2⟩ := opn_field fa153_2 h hw (Opn.int (by kernel_rfl)) r1 f1
  obtain ⟨xav0_0, rfl, gav0_0⟩ := q0
  replace v0 := v0.up (u1.trans u2)
  obtain ⟨sa1, sm1, rfl⟩ := RdS.len q1
  replace v1 := v1.one rfl
  replace v1 := v1.up u2
  obtain rfl : av2 = (.int .i64 a2) := q2
  have hv := RelVs.field (o := 0) v0 (RelVs.field (o := 2) v1 (RelVs.field (o := 3) v2 (RelVs.end hl)))
  rw [List.drop_zero] at hv
  refine ⟨ρ2, H2, (.agg [(.int .i64 a0.Method), xav0_0.v, (.slice sa1 a1.length sm1), (.int .i64 a2)].toArray : Value), ({ Access := a0, Facts := a1, At := a2 } : Stored), r2, f2, ((u0.trans u1).trans u2), ((i0.trans i1).trans i2), ?_, ?_, w0, w1, w2⟩
  · exact hv
  · exact ⟨xav0_0, ⟨sa1, _, sm1⟩, rfl, (Mono.up gav0_0 (i1.trans i2)), (Mono.up q1 i2)⟩
theorem fa30_0 : fieldAt Tryz.prog 30 0 = some (28, 0, 1) := by kernel_rfl
theorem fa30_1 : fieldAt Tryz.prog 30 1 = some (3, 1, 1) := by kernel_rfl
def wf30 (a : Cache) : Prop := (wfSl wf153) a.Entries ∧ wfInt a.Age
theorem sh30 : ∀ H v a, rd30 H v a → isAgV v = aggT Tryz.prog 30 := by
  intro H v a h
  obtain ⟨v0, rfl, _⟩ := h
  kernel_rfl
theorem op30 : Opn Tryz.prog 30 rd30 wf30 := by
  intro T enc w fuel cs x h hw ρ H hr hF
  have hl := opn_len fa30_0 h (n := 2) ty30.h.sz.cells
  obtain ⟨ρ0, H0, av0, a0, r0, f0, u0, i0, v0, q0, w0⟩ := opn_field fa30_0 h hw (Opn.slice (s := 4) (by kernel_rfl) (by kernel_rfl) (by decide) (Nat.lt_of_lt_of_le (by decide) (Nat.le_of_eq (show 64 = _ from by kernel_rfl))) op153) hr hF
  obtain ⟨ρ1, H1, av1, a1, r1, f1, u1, i1, v1, q1, w1⟩ := opn_field fa30_1 h hw (Opn.int (by kernel_rfl)) r0 f0
  obtain ⟨sa0, sm0, rfl⟩ := RdS.len q0
  replace v0 := v0.one rfl
  replace v0 := v0.up u1
  obtain rfl : av1 = (.int .i64 a1) := q1
  have hv := RelVs.field (o := 0) v0 (RelVs.field (o := 1) v1 (RelVs.end hl))
  rw [List.drop_zero] at hv
  refine ⟨ρ1, H1, (.agg [(.slice sa0 a0.length sm0), (.int .i64 a1)].toArray : Value), ({ Entries := a0, Age := a1 } : Cache), r1, f1, (u0.trans u1), (i0.trans i1), ?_, ?_, w0, w1⟩
  · exact hv
  · exact ⟨⟨sa0, _, sm0⟩, rfl, (Mono.up q0 i1)⟩
theorem fa34_0 : fieldAt Tryz.prog 34 0 = some (22, 0, 1) := by kernel_rfl
theorem fa34_1 : fieldAt Tryz.prog 34 1 = some (23, 1, 1) := by kernel_rfl
theorem fa34_2 : fieldAt Tryz.prog 34 2 = some (24, 2, 1) := by kernel_rfl
theorem fa34_3 : fieldAt Tryz.prog 34 3 = some (27, 3, 2) := by kernel_rfl
theorem fa34_4 : fieldAt Tryz.prog 34 4 = some (30, 5, 2) := by kernel_rfl
theorem fa34_5 : fieldAt Tryz.prog 34 5 = some (3, 7, 1) := by kernel_rfl
theorem fa34_6 : fieldAt Tryz.prog 34 6 = some (31, 8, 1) := by kernel_rfl
theorem fa34_7 : fieldAt Tryz.prog 34 7 = some (22, 9, 1) := by kernel_rfl
theorem fa34_8 : fieldAt Tryz.prog 34 8 = some (3, 10, 1) := by kernel_rfl
theorem fa34_9 : fieldAt Tryz.prog 34 9 = some (32, 11, 1) := by kernel_rfl
def wf34 (a : Mediator) : Prop := (wfSl wfInt) a.Schema ∧ (wfSl wf100) a.Methods ∧ (wfSl wf103) a.Rules ∧ wf27 a.Source ∧ wf30 a.Cache ∧ wfInt a.Now ∧ (wfSl wf108) a.Log ∧ (wfSl wfInt) a.Times ∧ wfInt a.Spent ∧ (wfSl (wfSl (wfSl wfInt))) a.Results
theorem sh34 : ∀ H v a, rd34 H v a → isAgV v = aggT Tryz.prog 34 := by
  intro H v a h
  obtain ⟨v0, v1, v2, v3, v5, v8, v9, v11, rfl, _, _, _, _, _, _, _, _⟩ := h
  kernel_rfl
theorem op34 : Opn Tryz.prog 34 rd34 wf34 := by
  intro T enc w fuel cs x h hw ρ H hr hF
  have hl := opn_len fa34_0 h (n := 12) ty34.h.sz.cells
  obtain ⟨ρ0, H0, av0, a0, r0, f0, u0, i0, v0, q0, w0⟩ := opn_field fa34_0 h hw (Opn.slice (s := 1) (by kernel_rfl) (by kernel_rfl) (by decide) (Nat.lt_of_lt_of_le (by decide) (Nat.le_of_eq (show 8 = _ from by kernel_rfl))) (Opn.int (by kernel_rfl))) hr hF
  obtain ⟨ρ1, H1, av1, a1, r1, f1, u1, i1, v1, q1, w1⟩ := opn_field fa34_1 h hw (Opn.slice (s := 5) (by kernel_rfl) (by kernel_rfl) (by decide) (Nat.lt_of_lt_of_le (by decide) (Nat.le_of_eq (show 56 = _ from by kernel_rfl))) op100) r0 f0
  obtain ⟨ρ2, H2, av2, a2, r2, f2, u2, i2, v2, q2, w2⟩ := opn_field fa34_2 h hw (Opn.slice (s := 3) (by kernel_rfl) (by kernel_rfl) (by decide) (Nat.lt_of_lt_of_le (by decide) (Nat.le_of_eq (show 40 = _ from by kernel_rfl))) op103) r1 f1
  obtain ⟨ρ3, H3, av3, a3, r3, f3, u3, i3, v3, q3, w3⟩ := opn_field fa34_3 h hw op27 r2 f2
  obtain ⟨ρ4, H4, av4, a4, r4, f4, u4, i4, v4, q4, w4⟩ := opn_field fa34_4 h hw op30 r3 f3
  obtain ⟨ρ5, H5, av5, a5, r5, f5, u5, i5, v5, q5, w5⟩ := opn_field fa34_5 h hw (Opn.int (by kernel_rfl)) r4 f4
  obtain ⟨ρ6, H6, av6, a6, r6, f6, u6, i6, v6, q6, w6⟩ := opn_field fa34_6 h hw (Opn.slice (s := 2) (by kernel_rfl) (by kernel_rfl) (by decide) (Nat.lt_of_lt_of_le (by decide) (Nat.le_of_eq (show 32 = _ from by kernel_rfl))) op108) r5 f5
  obtain ⟨ρ7, H7, av7, a7, r7, f7, u7, i7, v7, q7, w7⟩ := opn_field fa34_7 h hw (Opn.slice (s := 1) (by kernel_rfl) (by kernel_rfl) (by decide) (Nat.lt_of_lt_of_le (by decide) (Nat.le_of_eq (show 8 = _ from by kernel_rfl))) (Opn.int (by kernel_rfl))) r6 f6
  obtain ⟨ρ8, H8, av8, a8, r8, f8, u8, i8, v8, q8, w8⟩ := opn_field fa34_8 h hw (Opn.int (by kernel_rfl)) r7 f7
  obtain ⟨ρ9, H9, av9, a9, r9, f9, u9, i9, v9, q9, w9⟩ := opn_field fa34_9 h hw (Opn.slice (s := 1) (by kernel_rfl) (by kernel_rfl) (by decide) (Nat.lt_of_lt_of_le (by decide) (Nat.le_of_eq (show 24 = _ from by kernel_rfl))) (Opn.slice (s := 1) (by kernel_rfl) (by kernel_rfl) (by decide) (Nat.lt_of_lt_of_le (by decide) (Nat.le_of_eq (show 24 = _ from by kernel_rfl))) (Opn.slice (s := 1) (by kernel_rfl) (by kernel_rfl) (by decide) (Nat.lt_of_lt_of_le (by decide) (Nat.le_of_eq (show 8 = _ from by kernel_rfl))) (Opn.int (by kernel_rfl))))) r8 f8
  obtain ⟨sa0, sm0, rfl⟩ := RdS.len q0
  replace v0 := v0.one rfl
  replace v0 := v0.up ((((((((u1.trans u2).trans u3).trans u4).trans u5).trans u6).trans u7).trans u8).trans u9)
  obtain ⟨sa1, sm1, rfl⟩ := RdS.len q1
  replace v1 := v1.one rfl
  replace v1 := v1.up (((((((u2.trans u3).trans u4).trans u5).trans u6).trans u7).trans u8).trans u9)
  obtain ⟨sa2, sm2, rfl⟩ := RdS.len q2
  replace v2 := v2.one rfl
  replace v2 := v2.up ((((((u3.trans u4).trans u5).trans u6).trans u7).trans u8).trans u9)
  obtain ⟨xav3_0, rfl, gav3_0⟩ := q3
  replace v3 := v3.up (((((u4.trans u5).trans u6).trans u7).trans u8).trans u9)
  obtain ⟨xav4_0, rfl, gav4_0⟩ := q4
  replace v4 := v4.up ((((u5.trans u6).trans u7).trans u8).trans u9)
  obtain rfl : av5 = (.int .i64 a5) := q5
  replace v5 := v5.up (((u6.trans u7).trans u8).trans u9)
  obtain ⟨sa6, sm6, rfl⟩ := RdS.len q6
  replace v6 := v6.one rfl
  replace v6 := v6.up ((u7.trans u8).trans u9)
  obtain ⟨sa7, sm7, rfl⟩ := RdS.len q7
  replace v7 := v7.one rfl
  replace v7 := v7.up (u8.trans u9)
  obtain rfl : av8 = (.int .i64 a8) := q8
  replace v8 := v8.up u9
  obtain ⟨sa9, sm9, rfl⟩ := RdS.len q9
  replace v9 := v9.one rfl
  have hv := RelVs.field (o := 0) v0 (RelVs.field (o := 1) v1 (RelVs.field (o := 2) v2 (RelVs.field (o := 3) v3 (RelVs.field (o := 5) v4 (RelVs.field (o := 7) v5 (RelVs.field (o := 8) v6 (RelVs.field (o := 9) v7 (RelVs.field (o := 10) v8 (RelVs.field (o := 11) v9 (RelVs.end hl))))))))))
  rw [List.drop_zero] at hv
  refine ⟨ρ9, H9, (.agg [(.slice sa0 a0.length sm0), (.slice sa1 a1.length sm1), (.slice sa2 a2.length sm2), xav3_0.v, (.int .i64 a3.Version), xav4_0.v, (.int .i64 a4.Age), (.int .i64 a5), (.slice sa6 a6.length sm6), (.slice sa7 a7.length sm7), (.int .i64 a8), (.slice sa9 a9.length sm9)].toArray : Value), ({ Schema := a0, Methods := a1, Rules := a2, Source := a3, Cache := a4, Now := a5, Log := a6, Times := a7, Spent := a8, Results := a9 } : Mediator), r9, f9, (((((((((u0.trans u1).trans u2).trans u3).trans u4).trans u5).trans u6).trans u7).trans u8).trans u9), (((((((((i0.trans i1).trans i2).trans i3).trans i4).trans i5).trans i6).trans i7).trans i8).trans i9), ?_, ?_, w0, w1, w2, w3, w4, w5, w6, w7, w8, w9⟩
  · exact hv
  · exact ⟨⟨sa0, _, sm0⟩, ⟨sa1, _, sm1⟩, ⟨sa2, _, sm2⟩, xav3_0, xav4_0, ⟨sa6, _, sm6⟩, ⟨sa7, _, sm7⟩, ⟨sa9, _, sm9⟩, rfl, (Mono.up q0 ((((((((i1.trans i2).trans i3).trans i4).trans i5).trans i6).trans i7).trans i8).trans i9)), (Mono.up q1 (((((((i2.trans i3).trans i4).trans i5).trans i6).trans i7).trans i8).trans i9)), (Mono.up q2 ((((((i3.trans i4).trans i5).trans i6).trans i7).trans i8).trans i9)), (Mono.up gav3_0 (((((i4.trans i5).trans i6).trans i7).trans i8).trans i9)), (Mono.up gav4_0 ((((i5.trans i6).trans i7).trans i8).trans i9)), (Mono.up q6 ((i7.trans i8).trans i9)), (Mono.up q7 (i8.trans i9)), q9⟩
def rd38 (H : AHeap) (v : Value) (a : Change) : Prop := ∃ v0 : Sv, v = .agg [(.bool a.Add), (.int .i64 a.Fact.Rel), v0.v].toArray ∧ (RdS 3 rdInt) H v0.v a.Fact.Values
instance : Mono rd38 := ⟨fun h hi => by
  obtain ⟨v0, h, h0⟩ := h
  exact ⟨v0, h, Mono.up h0 hi⟩⟩
instance : Cells rd38 3 := ⟨fun h => by
  obtain ⟨v0, rfl, h0⟩ := h
  exact ⟨rfl, rfl⟩⟩
theorem fa38_0 : fieldAt Tryz.prog 38 0 = some (4, 0, 1) := by kernel_rfl
theorem fa38_1 : fieldAt Tryz.prog 38 1 = some (36, 1, 2) := by kernel_rfl
def wf38 (a : Change) : Prop := wfAny a.Add ∧ wf36 a.Fact
theorem sh38 : ∀ H v a, rd38 H v a → isAgV v = aggT Tryz.prog 38 := by
  intro H v a h
  obtain ⟨v2, rfl, _⟩ := h
  kernel_rfl
theorem op38 : Opn Tryz.prog 38 rd38 wf38 := by
  intro T enc w fuel cs x h hw ρ H hr hF
  have hl := opn_len fa38_0 h (n := 3) ty38.h.sz.cells
  obtain ⟨ρ0, H0, av0, a0, r0, f0, u0, i0, v0, q0, w0⟩ := opn_field fa38_0 h hw (Opn.bool (by kernel_rfl)) hr hF
  obtain ⟨ρ1, H1, av1, a1, r1, f1, u1, i1, v1, q1, w1⟩ := opn_field fa38_1 h hw op36 r0 f0
  obtain rfl : av0 = (.bool a0) := q0
  replace v0 := v0.up u1
  obtain ⟨xav1_0, rfl, gav1_0⟩ := q1
  have hv := RelVs.field (o := 0) v0 (RelVs.field (o := 1) v1 (RelVs.end hl))
  rw [List.drop_zero] at hv
  refine ⟨ρ1, H1, (.agg [(.bool a0), (.int .i64 a1.Rel), xav1_0.v].toArray : Value), ({ Add := a0, Fact := a1 } : Change), r1, f1, (u0.trans u1), (i0.trans i1), ?_, ?_, w0, w1⟩
  · exact hv
  · exact ⟨xav1_0, rfl, gav1_0⟩

/-! laws.szIntS -/
def l_szIntS (a_a : List Int) (a_left : Int) : Option (Int) :=
  if (decide (((IntKind.i64.wrap (a_left - (a_a.length : Int))) : Int) < 0)) then (
    some (-1))
  else (
    some (IntKind.i64.wrap (a_left - (a_a.length : Int))))
theorem l_szIntS_ok (a_a : List Int) (v0_0 : Sv) (a_left : Int) (R : Int) (hF : l_szIntS a_a a_left = some R) :
    Fw.Spec Tryz.prog 15 [v0_0.v, (.int .i64 a_left)] [crd (RdS 3 rdInt) v0_0.v a_a] (fun _ : Unit => (.int .i64 R)) (fun _ => []) := by
  refine Spec_enter (n := 12) Tryz.func15 rfl rfl (rs := [.tmp 4]) rfl rfl rfl ?_
  intro H0 F0
  unfold l_szIntS at hF
  iterate 15 refine au ?_
  refine Cc (fun hb1 => ?_) (fun hb1 => ?_)
  · rw [if_pos hb1] at hF
    iterate 4 refine au ?_
    cases hF
    exact Er ()
  rw [if_neg (nt hb1)] at hF
  iterate 6 refine au ?_
  cases hF
  exact Er ()

/-! laws.szMethod -/
def l_szMethod (a_a : Method) (a_left : Int) : Option (Int) :=
  (l_szIntS a_a.Inputs a_left).bind fun r2 =>
  if (decide ((r2 : Int) < 0)) then (
    some (-1))
  else (
    some r2)
theorem l_szMethod_ok (a_a : Method) (v0_1 : Sv) (a_left : Int) (R : Int) (hF : l_szMethod a_a a_left = some R) :
    Fw.Spec Tryz.prog 60 [(.agg [(.int .i64 a_a.Rel), v0_1.v, (.int .i64 a_a.Limit), (.int .i64 a_a.Cost), (.int .i64 a_a.Quota)].toArray), (.int .i64 a_left)] [crd (RdS 3 rdInt) v0_1.v a_a.Inputs] (fun _ : Unit => (.int .i64 R)) (fun _ => []) := by
  refine Spec_enter (n := 12) Tryz.func60 rfl rfl (rs := [.tmp 4]) rfl rfl rfl ?_
  intro H0 F0
  unfold l_szMethod at hF
  refine au ?_
  refine AbR (fun k1 => ?_)
  iterate 6 refine au ?_
  obtain ⟨r2, hx3, hF⟩ := bind_some hF
  refine Cx0 (l_szIntS_ok _ _ _ _ hx3) (fun _ => ?_)
  iterate 7 refine au ?_
  refine Cc (fun hb5 => ?_) (fun hb5 => ?_)
  · rw [if_pos hb5] at hF
    iterate 4 refine au ?_
    cases hF
    exact Er ()
  rw [if_neg (nt hb5)] at hF
  iterate 6 refine au ?_
  cases hF
  exact Er ()

/-! laws.szMethodS -/
def l_szMethodS_L1 : List Method → Nat → Int → Option (Int)
  | [], k5, c1 => some c1
  | x7 :: rest6, k5, c1 => (l_szMethod x7 c1).bind fun r17 =>
    if (decide ((r17 : Int) < 0)) then (
      some (-1))
    else (
      l_szMethodS_L1 rest6 (k5 + 1) r17)
def l_szMethodS (a_a : List Method) (a_left : Int) : Option (Int) :=
  if (decide (((IntKind.i64.wrap (a_left - (a_a.length : Int))) : Int) < 0)) then (
    some (-1))
  else (
    l_szMethodS_L1 a_a 0 (IntKind.i64.wrap (a_left - (a_a.length : Int))))
theorem l_szMethodS_ok (a_a : List Method) (v0_0 : Sv) (a_left : Int) (R : Int) (hF : l_szMethodS a_a a_left = some R) :
    Fw.Spec Tryz.prog 16 [v0_0.v, (.int .i64 a_left)] [crd (RdS 100 rd100) v0_0.v a_a] (fun _ : Unit => (.int .i64 R)) (fun _ => []) := by
  refine Spec_enter (n := 27) Tryz.func16 rfl rfl (rs := [.tmp 4]) rfl rfl rfl ?_
  intro H0 F0
  unfold l_szMethodS at hF
  iterate 15 refine au ?_
  refine Cc (fun hb22 => ?_) (fun hb22 => ?_)
  · rw [if_pos hb22] at hF
    iterate 4 refine au ?_
    cases hF
    exact Er ()
  rw [if_neg (nt hb22)] at hF
  iterate 5 refine au ?_
  refine CW_block (CW_loop (m := a_a.length) (fun m3 f' cs' => ∃ (g : Fr) (k5 : Nat) (rest6 : List Method) (c1 : Int), m3 = rest6.length ∧ f' = updL g [(0, v0_0.v), (1, (.int .i64 c1)), (5, (.int .i64 (k5 : Int)))] ∧ List.drop k5 a_a = rest6 ∧ Ent cs' [crd (RdS 100 rd100) v0_0.v a_a] ∧ l_szMethodS_L1 rest6 k5 c1 = some R) ⟨_, 0, _, _, rfl, eqA, rfl, entA, hF⟩ ?_)
  clear hF
  rintro m3 _ _ ⟨g4, k5, rest6, c1, rfl, rfl, hd8, hE, hF⟩
  refine K_ent hE ?_
  clear hE
  refine K_pure (c := crd (RdS 100 rd100) v0_0.v a_a) .h crd_bound (fun hbd13 => ?_)
  rcases rest6 with _ | ⟨x7, rest6⟩
  · have hk9 := List.drop_eq_nil_iff.1 hd8
    rw [l_szMethodS_L1] at hF
    iterate 7 refine au ?_
    refine CdF ?_
    iterate 9 refine au ?_
    cases hF
    exact Er ()
  obtain ⟨hk9, hx10, hd11⟩ := drop_cons hd8
  rw [l_szMethodS_L1] at hF
  iterate 7 refine au ?_
  refine CdT ?_
  iterate 5 refine au ?_
  refine Ai hx10 (fun k14 j15 => ?_)
  refine AlA1 (ul100_0_100 x7) la100_0_100 (fun p16 => ?_)
  refine au ?_
  obtain ⟨r17, hx18, hF⟩ := bind_some hF
  refine Cx0 (l_szMethod_ok _ _ _ _ hx18) (fun _ => ?_)
  iterate 6 refine au ?_
  refine Cc (fun hb21 => ?_) (fun hb21 => ?_)
  · rw [if_pos hb21] at hF
    iterate 4 refine au ?_
    cases hF
    exact Er ()
  rw [if_neg (nt hb21)] at hF
  iterate 6 refine au ?_
  rw [wk k5]
  exact ⟨_, Nat.lt_succ_self _, _, k5 + 1, rest6, _, rfl, eqA, hd11, entA, hF⟩

/-! laws.szRule -/
def l_szRule (a_a : Rule) (a_left : Int) : Option (Int) :=
  (l_szIntS a_a.Map a_left).bind fun r2 =>
  if (decide ((r2 : Int) < 0)) then (
    some (-1))
  else (
    some r2)
theorem l_szRule_ok (a_a : Rule) (v0_2 : Sv) (a_left : Int) (R : Int) (hF : l_szRule a_a a_left = some R) :
    Fw.Spec Tryz.prog 61 [(.agg [(.int .i64 a_a.From), (.int .i64 a_a.To), v0_2.v].toArray), (.int .i64 a_left)] [crd (RdS 3 rdInt) v0_2.v a_a.Map] (fun _ : Unit => (.int .i64 R)) (fun _ => []) := by
  refine Spec_enter (n := 12) Tryz.func61 rfl rfl (rs := [.tmp 4]) rfl rfl rfl ?_
  intro H0 F0
  unfold l_szRule at hF
  refine au ?_
  refine AbR (fun k1 => ?_)
  iterate 6 refine au ?_
  obtain ⟨r2, hx3, hF⟩ := bind_some hF
  refine Cx0 (l_szIntS_ok _ _ _ _ hx3) (fun _ => ?_)
  iterate 7 refine au ?_
  refine Cc (fun hb5 => ?_) (fun hb5 => ?_)
  · rw [if_pos hb5] at hF
    iterate 4 refine au ?_
    cases hF
    exact Er ()
  rw [if_neg (nt hb5)] at hF
  iterate 6 refine au ?_
  cases hF
  exact Er ()

/-! laws.szRuleS -/
def l_szRuleS_L1 : List Rule → Nat → Int → Option (Int)
  | [], k5, c1 => some c1
  | x7 :: rest6, k5, c1 => (l_szRule x7 c1).bind fun r17 =>
    if (decide ((r17 : Int) < 0)) then (
      some (-1))
    else (
      l_szRuleS_L1 rest6 (k5 + 1) r17)
def l_szRuleS (a_a : List Rule) (a_left : Int) : Option (Int) :=
  if (decide (((IntKind.i64.wrap (a_left - (a_a.length : Int))) : Int) < 0)) then (
    some (-1))
  else (
    l_szRuleS_L1 a_a 0 (IntKind.i64.wrap (a_left - (a_a.length : Int))))
theorem l_szRuleS_ok (a_a : List Rule) (v0_0 : Sv) (a_left : Int) (R : Int) (hF : l_szRuleS a_a a_left = some R) :
    Fw.Spec Tryz.prog 17 [v0_0.v, (.int .i64 a_left)] [crd (RdS 103 rd103) v0_0.v a_a] (fun _ : Unit => (.int .i64 R)) (fun _ => []) := by
  refine Spec_enter (n := 27) Tryz.func17 rfl rfl (rs := [.tmp 4]) rfl rfl rfl ?_
  intro H0 F0
  unfold l_szRuleS at hF
  iterate 15 refine au ?_
  refine Cc (fun hb22 => ?_) (fun hb22 => ?_)
  · rw [if_pos hb22] at hF
    iterate 4 refine au ?_
    cases hF
    exact Er ()
  rw [if_neg (nt hb22)] at hF
  iterate 5 refine au ?_
  refine CW_block (CW_loop (m := a_a.length) (fun m3 f' cs' => ∃ (g : Fr) (k5 : Nat) (rest6 : List Rule) (c1 : Int), m3 = rest6.length ∧ f' = updL g [(0, v0_0.v), (1, (.int .i64 c1)), (5, (.int .i64 (k5 : Int)))] ∧ List.drop k5 a_a = rest6 ∧ Ent cs' [crd (RdS 103 rd103) v0_0.v a_a] ∧ l_szRuleS_L1 rest6 k5 c1 = some R) ⟨_, 0, _, _, rfl, eqA, rfl, entA, hF⟩ ?_)
  clear hF
  rintro m3 _ _ ⟨g4, k5, rest6, c1, rfl, rfl, hd8, hE, hF⟩
  refine K_ent hE ?_
  clear hE
  refine K_pure (c := crd (RdS 103 rd103) v0_0.v a_a) .h crd_bound (fun hbd13 => ?_)
  rcases rest6 with _ | ⟨x7, rest6⟩
  · have hk9 := List.drop_eq_nil_iff.1 hd8
    rw [l_szRuleS_L1] at hF
    iterate 7 refine au ?_
    refine CdF ?_
    iterate 9 refine au ?_
    cases hF
    exact Er ()
  obtain ⟨hk9, hx10, hd11⟩ := drop_cons hd8
  rw [l_szRuleS_L1] at hF
  iterate 7 refine au ?_
  refine CdT ?_
  iterate 5 refine au ?_
  refine Ai hx10 (fun k14 j15 => ?_)
  refine AlA1 (ul103_0_103 x7) la103_0_103 (fun p16 => ?_)
  refine au ?_
  obtain ⟨r17, hx18, hF⟩ := bind_some hF
  refine Cx0 (l_szRule_ok _ _ _ _ hx18) (fun _ => ?_)
  iterate 6 refine au ?_
  refine Cc (fun hb21 => ?_) (fun hb21 => ?_)
  · rw [if_pos hb21] at hF
    iterate 4 refine au ?_
    cases hF
    exact Er ()
  rw [if_neg (nt hb21)] at hF
  iterate 6 refine au ?_
  rw [wk k5]
  exact ⟨_, Nat.lt_succ_self _, _, k5 + 1, rest6, _, rfl, eqA, hd11, entA, hF⟩

/-! laws.szFact -/
def l_szFact (a_a : Fact) (a_left : Int) : Option (Int) :=
  (l_szIntS a_a.Values a_left).bind fun r2 =>
  if (decide ((r2 : Int) < 0)) then (
    some (-1))
  else (
    some r2)
theorem l_szFact_ok (a_a : Fact) (v0_1 : Sv) (a_left : Int) (R : Int) (hF : l_szFact a_a a_left = some R) :
    Fw.Spec Tryz.prog 22 [(.agg [(.int .i64 a_a.Rel), v0_1.v].toArray), (.int .i64 a_left)] [crd (RdS 3 rdInt) v0_1.v a_a.Values] (fun _ : Unit => (.int .i64 R)) (fun _ => []) := by
  refine Spec_enter (n := 12) Tryz.func22 rfl rfl (rs := [.tmp 4]) rfl rfl rfl ?_
  intro H0 F0
  unfold l_szFact at hF
  refine au ?_
  refine AbR (fun k1 => ?_)
  iterate 6 refine au ?_
  obtain ⟨r2, hx3, hF⟩ := bind_some hF
  refine Cx0 (l_szIntS_ok _ _ _ _ hx3) (fun _ => ?_)
  iterate 7 refine au ?_
  refine Cc (fun hb5 => ?_) (fun hb5 => ?_)
  · rw [if_pos hb5] at hF
    iterate 4 refine au ?_
    cases hF
    exact Er ()
  rw [if_neg (nt hb5)] at hF
  iterate 6 refine au ?_
  cases hF
  exact Er ()

/-! laws.szFactS -/
def l_szFactS_L1 : List Fact → Nat → Int → Option (Int)
  | [], k5, c1 => some c1
  | x7 :: rest6, k5, c1 => (l_szFact x7 c1).bind fun r17 =>
    if (decide ((r17 : Int) < 0)) then (
      some (-1))
    else (
      l_szFactS_L1 rest6 (k5 + 1) r17)
def l_szFactS (a_a : List Fact) (a_left : Int) : Option (Int) :=
  if (decide (((IntKind.i64.wrap (a_left - (a_a.length : Int))) : Int) < 0)) then (
    some (-1))
  else (
    l_szFactS_L1 a_a 0 (IntKind.i64.wrap (a_left - (a_a.length : Int))))
theorem l_szFactS_ok (a_a : List Fact) (v0_0 : Sv) (a_left : Int) (R : Int) (hF : l_szFactS a_a a_left = some R) :
    Fw.Spec Tryz.prog 62 [v0_0.v, (.int .i64 a_left)] [crd (RdS 36 rd36) v0_0.v a_a] (fun _ : Unit => (.int .i64 R)) (fun _ => []) := by
  refine Spec_enter (n := 27) Tryz.func62 rfl rfl (rs := [.tmp 4]) rfl rfl rfl ?_
  intro H0 F0
  unfold l_szFactS at hF
  iterate 15 refine au ?_
  refine Cc (fun hb22 => ?_) (fun hb22 => ?_)
  · rw [if_pos hb22] at hF
    iterate 4 refine au ?_
    cases hF
    exact Er ()
  rw [if_neg (nt hb22)] at hF
  iterate 5 refine au ?_
  refine CW_block (CW_loop (m := a_a.length) (fun m3 f' cs' => ∃ (g : Fr) (k5 : Nat) (rest6 : List Fact) (c1 : Int), m3 = rest6.length ∧ f' = updL g [(0, v0_0.v), (1, (.int .i64 c1)), (5, (.int .i64 (k5 : Int)))] ∧ List.drop k5 a_a = rest6 ∧ Ent cs' [crd (RdS 36 rd36) v0_0.v a_a] ∧ l_szFactS_L1 rest6 k5 c1 = some R) ⟨_, 0, _, _, rfl, eqA, rfl, entA, hF⟩ ?_)
  clear hF
  rintro m3 _ _ ⟨g4, k5, rest6, c1, rfl, rfl, hd8, hE, hF⟩
  refine K_ent hE ?_
  clear hE
  refine K_pure (c := crd (RdS 36 rd36) v0_0.v a_a) .h crd_bound (fun hbd13 => ?_)
  rcases rest6 with _ | ⟨x7, rest6⟩
  · have hk9 := List.drop_eq_nil_iff.1 hd8
    rw [l_szFactS_L1] at hF
    iterate 7 refine au ?_
    refine CdF ?_
    iterate 9 refine au ?_
    cases hF
    exact Er ()
  obtain ⟨hk9, hx10, hd11⟩ := drop_cons hd8
  rw [l_szFactS_L1] at hF
  iterate 7 refine au ?_
  refine CdT ?_
  iterate 5 refine au ?_
  refine Ai hx10 (fun k14 j15 => ?_)
  refine AlA1 (ul36_0_36 x7) la36_0_36 (fun p16 => ?_)
  refine au ?_
  obtain ⟨r17, hx18, hF⟩ := bind_some hF
  refine Cx0 (l_szFact_ok _ _ _ _ hx18) (fun _ => ?_)
  iterate 6 refine au ?_
  refine Cc (fun hb21 => ?_) (fun hb21 => ?_)
  · rw [if_pos hb21] at hF
    iterate 4 refine au ?_
    cases hF
    exact Er ()
  rw [if_neg (nt hb21)] at hF
  iterate 6 refine au ?_
  rw [wk k5]
  exact ⟨_, Nat.lt_succ_self _, _, k5 + 1, rest6, _, rfl, eqA, hd11, entA, hF⟩

/-! laws.szSource -/
def l_szSource (a_a : Source) (a_left : Int) : Option (Int) :=
  (l_szFactS a_a.Facts a_left).bind fun r2 =>
  if (decide ((r2 : Int) < 0)) then (
    some (-1))
  else (
    some r2)
theorem l_szSource_ok (a_a : Source) (v0_0 : Sv) (a_left : Int) (R : Int) (hF : l_szSource a_a a_left = some R) :
    Fw.Spec Tryz.prog 18 [(.agg [v0_0.v, (.int .i64 a_a.Version)].toArray), (.int .i64 a_left)] [crd (RdS 36 rd36) v0_0.v a_a.Facts] (fun _ : Unit => (.int .i64 R)) (fun _ => []) := by
  refine Spec_enter (n := 12) Tryz.func18 rfl rfl (rs := [.tmp 4]) rfl rfl rfl ?_
  intro H0 F0
  unfold l_szSource at hF
  refine au ?_
  refine AbR (fun k1 => ?_)
  iterate 6 refine au ?_
  obtain ⟨r2, hx3, hF⟩ := bind_some hF
  refine Cx0 (l_szFactS_ok _ _ _ _ hx3) (fun _ => ?_)
  iterate 7 refine au ?_
  refine Cc (fun hb5 => ?_) (fun hb5 => ?_)
  · rw [if_pos hb5] at hF
    iterate 4 refine au ?_
    cases hF
    exact Er ()
  rw [if_neg (nt hb5)] at hF
  iterate 6 refine au ?_
  cases hF
  exact Er ()

/-! laws.szAccess -/
def l_szAccess (a_a : Access) (a_left : Int) : Option (Int) :=
  (l_szIntS a_a.Values a_left).bind fun r2 =>
  if (decide ((r2 : Int) < 0)) then (
    some (-1))
  else (
    some r2)
theorem l_szAccess_ok (a_a : Access) (v0_1 : Sv) (a_left : Int) (R : Int) (hF : l_szAccess a_a a_left = some R) :
    Fw.Spec Tryz.prog 64 [(.agg [(.int .i64 a_a.Method), v0_1.v].toArray), (.int .i64 a_left)] [crd (RdS 3 rdInt) v0_1.v a_a.Values] (fun _ : Unit => (.int .i64 R)) (fun _ => []) := by
  refine Spec_enter (n := 12) Tryz.func64 rfl rfl (rs := [.tmp 4]) rfl rfl rfl ?_
  intro H0 F0
  unfold l_szAccess at hF
  refine au ?_
  refine AbR (fun k1 => ?_)
  iterate 6 refine au ?_
  obtain ⟨r2, hx3, hF⟩ := bind_some hF
  refine Cx0 (l_szIntS_ok _ _ _ _ hx3) (fun _ => ?_)
  iterate 7 refine au ?_
  refine Cc (fun hb5 => ?_) (fun hb5 => ?_)
  · rw [if_pos hb5] at hF
    iterate 4 refine au ?_
    cases hF
    exact Er ()
  rw [if_neg (nt hb5)] at hF
  iterate 6 refine au ?_
  cases hF
  exact Er ()

/-! laws.szStored -/
def l_szStored (a_a : Stored) (a_left : Int) : Option (Int) :=
  (l_szAccess a_a.Access a_left).bind fun r2 =>
  if (decide ((r2 : Int) < 0)) then (
    some (-1))
  else (
    (l_szFactS a_a.Facts r2).bind fun r5 =>
    if (decide ((r5 : Int) < 0)) then (
      some (-1))
    else (
      some r5))
theorem l_szStored_ok (a_a : Stored) (v0_1 : Sv) (v0_2 : Sv) (a_left : Int) (R : Int) (hF : l_szStored a_a a_left = some R) :
    Fw.Spec Tryz.prog 125 [(.agg [(.int .i64 a_a.Access.Method), v0_1.v, v0_2.v, (.int .i64 a_a.At)].toArray), (.int .i64 a_left)] [crd (RdS 3 rdInt) v0_1.v a_a.Access.Values, crd (RdS 36 rd36) v0_2.v a_a.Facts] (fun _ : Unit => (.int .i64 R)) (fun _ => []) := by
  refine Spec_enter (n := 18) Tryz.func125 rfl rfl (rs := [.tmp 4]) rfl rfl rfl ?_
  intro H0 F0
  unfold l_szStored at hF
  refine au ?_
  refine AbR (fun k1 => ?_)
  iterate 4 refine au ?_
  refine C_at .h (fun hp => V_loadA (s := 2) (l := [(.int .i64 a_a.Access.Method), v0_1.v]) ag108.h ty108.h.sz (.tmp rfl rfl) hp.2 rfl (by decide) (Nat.le_of_ble_eq_true rfl) rfl) ?_
  refine au ?_
  obtain ⟨r2, hx3, hF⟩ := bind_some hF
  refine Cx0 (l_szAccess_ok _ _ _ _ hx3) (fun _ => ?_)
  iterate 7 refine au ?_
  refine Cc (fun hb9 => ?_) (fun hb9 => ?_)
  · rw [if_pos hb9] at hF
    iterate 4 refine au ?_
    cases hF
    exact Er ()
  rw [if_neg (nt hb9)] at hF
  iterate 5 refine au ?_
  obtain ⟨r5, hx6, hF⟩ := bind_some hF
  refine Cx0 (l_szFactS_ok _ _ _ _ hx6) (fun _ => ?_)
  iterate 7 refine au ?_
  refine Cc (fun hb8 => ?_) (fun hb8 => ?_)
  · rw [if_pos hb8] at hF
    iterate 4 refine au ?_
    cases hF
    exact Er ()
  rw [if_neg (nt hb8)] at hF
  iterate 6 refine au ?_
  cases hF
  exact Er ()

/-! laws.szStoredS -/
def l_szStoredS_L1 : List Stored → Nat → Int → Option (Int)
  | [], k5, c1 => some c1
  | x7 :: rest6, k5, c1 => (l_szStored x7 c1).bind fun r17 =>
    if (decide ((r17 : Int) < 0)) then (
      some (-1))
    else (
      l_szStoredS_L1 rest6 (k5 + 1) r17)
def l_szStoredS (a_a : List Stored) (a_left : Int) : Option (Int) :=
  if (decide (((IntKind.i64.wrap (a_left - (a_a.length : Int))) : Int) < 0)) then (
    some (-1))
  else (
    l_szStoredS_L1 a_a 0 (IntKind.i64.wrap (a_left - (a_a.length : Int))))
theorem l_szStoredS_ok (a_a : List Stored) (v0_0 : Sv) (a_left : Int) (R : Int) (hF : l_szStoredS a_a a_left = some R) :
    Fw.Spec Tryz.prog 63 [v0_0.v, (.int .i64 a_left)] [crd (RdS 153 rd153) v0_0.v a_a] (fun _ : Unit => (.int .i64 R)) (fun _ => []) := by
  refine Spec_enter (n := 27) Tryz.func63 rfl rfl (rs := [.tmp 4]) rfl rfl rfl ?_
  intro H0 F0
  unfold l_szStoredS at hF
  iterate 15 refine au ?_
  refine Cc (fun hb22 => ?_) (fun hb22 => ?_)
  · rw [if_pos hb22] at hF
    iterate 4 refine au ?_
    cases hF
    exact Er ()
  rw [if_neg (nt hb22)] at hF
  iterate 5 refine au ?_
  refine CW_block (CW_loop (m := a_a.length) (fun m3 f' cs' => ∃ (g : Fr) (k5 : Nat) (rest6 : List Stored) (c1 : Int), m3 = rest6.length ∧ f' = updL g [(0, v0_0.v), (1, (.int .i64 c1)), (5, (.int .i64 (k5 : Int)))] ∧ List.drop k5 a_a = rest6 ∧ Ent cs' [crd (RdS 153 rd153) v0_0.v a_a] ∧ l_szStoredS_L1 rest6 k5 c1 = some R) ⟨_, 0, _, _, rfl, eqA, rfl, entA, hF⟩ ?_)
  clear hF
  rintro m3 _ _ ⟨g4, k5, rest6, c1, rfl, rfl, hd8, hE, hF⟩
  refine K_ent hE ?_
  clear hE
  refine K_pure (c := crd (RdS 153 rd153) v0_0.v a_a) .h crd_bound (fun hbd13 => ?_)
  rcases rest6 with _ | ⟨x7, rest6⟩
  · have hk9 := List.drop_eq_nil_iff.1 hd8
    rw [l_szStoredS_L1] at hF
    iterate 7 refine au ?_
    refine CdF ?_
    iterate 9 refine au ?_
    cases hF
    exact Er ()
  obtain ⟨hk9, hx10, hd11⟩ := drop_cons hd8
  rw [l_szStoredS_L1] at hF
  iterate 7 refine au ?_
  refine CdT ?_
  iterate 5 refine au ?_
  refine Ai hx10 (fun k14 j15 => ?_)
  refine AlA2 (ul153_0_153 x7) la153_0_153 (fun p16 => ?_)
  refine au ?_
  obtain ⟨r17, hx18, hF⟩ := bind_some hF
  refine Cx0 (l_szStored_ok _ _ _ _ _ hx18) (fun _ => ?_)
  iterate 6 refine au ?_
  refine Cc (fun hb21 => ?_) (fun hb21 => ?_)
  · rw [if_pos hb21] at hF
    iterate 4 refine au ?_
    cases hF
    exact Er ()
  rw [if_neg (nt hb21)] at hF
  iterate 6 refine au ?_
  rw [wk k5]
  exact ⟨_, Nat.lt_succ_self _, _, k5 + 1, rest6, _, rfl, eqA, hd11, entA, hF⟩

/-! laws.szCache -/
def l_szCache (a_a : Cache) (a_left : Int) : Option (Int) :=
  (l_szStoredS a_a.Entries a_left).bind fun r2 =>
  if (decide ((r2 : Int) < 0)) then (
    some (-1))
  else (
    some r2)
theorem l_szCache_ok (a_a : Cache) (v0_0 : Sv) (a_left : Int) (R : Int) (hF : l_szCache a_a a_left = some R) :
    Fw.Spec Tryz.prog 19 [(.agg [v0_0.v, (.int .i64 a_a.Age)].toArray), (.int .i64 a_left)] [crd (RdS 153 rd153) v0_0.v a_a.Entries] (fun _ : Unit => (.int .i64 R)) (fun _ => []) := by
  refine Spec_enter (n := 12) Tryz.func19 rfl rfl (rs := [.tmp 4]) rfl rfl rfl ?_
  intro H0 F0
  unfold l_szCache at hF
  refine au ?_
  refine AbR (fun k1 => ?_)
  iterate 6 refine au ?_
  obtain ⟨r2, hx3, hF⟩ := bind_some hF
  refine Cx0 (l_szStoredS_ok _ _ _ _ hx3) (fun _ => ?_)
  iterate 7 refine au ?_
  refine Cc (fun hb5 => ?_) (fun hb5 => ?_)
  · rw [if_pos hb5] at hF
    iterate 4 refine au ?_
    cases hF
    exact Er ()
  rw [if_neg (nt hb5)] at hF
  iterate 6 refine au ?_
  cases hF
  exact Er ()

/-! laws.szAccessS -/
def l_szAccessS_L1 : List Access → Nat → Int → Option (Int)
  | [], k5, c1 => some c1
  | x7 :: rest6, k5, c1 => (l_szAccess x7 c1).bind fun r17 =>
    if (decide ((r17 : Int) < 0)) then (
      some (-1))
    else (
      l_szAccessS_L1 rest6 (k5 + 1) r17)
def l_szAccessS (a_a : List Access) (a_left : Int) : Option (Int) :=
  if (decide (((IntKind.i64.wrap (a_left - (a_a.length : Int))) : Int) < 0)) then (
    some (-1))
  else (
    l_szAccessS_L1 a_a 0 (IntKind.i64.wrap (a_left - (a_a.length : Int))))
theorem l_szAccessS_ok (a_a : List Access) (v0_0 : Sv) (a_left : Int) (R : Int) (hF : l_szAccessS a_a a_left = some R) :
    Fw.Spec Tryz.prog 20 [v0_0.v, (.int .i64 a_left)] [crd (RdS 108 rd108) v0_0.v a_a] (fun _ : Unit => (.int .i64 R)) (fun _ => []) := by
  refine Spec_enter (n := 27) Tryz.func20 rfl rfl (rs := [.tmp 4]) rfl rfl rfl ?_
  intro H0 F0
  unfold l_szAccessS at hF
  iterate 15 refine au ?_
  refine Cc (fun hb22 => ?_) (fun hb22 => ?_)
  · rw [if_pos hb22] at hF
    iterate 4 refine au ?_
    cases hF
    exact Er ()
  rw [if_neg (nt hb22)] at hF
  iterate 5 refine au ?_
  refine CW_block (CW_loop (m := a_a.length) (fun m3 f' cs' => ∃ (g : Fr) (k5 : Nat) (rest6 : List Access) (c1 : Int), m3 = rest6.length ∧ f' = updL g [(0, v0_0.v), (1, (.int .i64 c1)), (5, (.int .i64 (k5 : Int)))] ∧ List.drop k5 a_a = rest6 ∧ Ent cs' [crd (RdS 108 rd108) v0_0.v a_a] ∧ l_szAccessS_L1 rest6 k5 c1 = some R) ⟨_, 0, _, _, rfl, eqA, rfl, entA, hF⟩ ?_)
  clear hF
  rintro m3 _ _ ⟨g4, k5, rest6, c1, rfl, rfl, hd8, hE, hF⟩
  refine K_ent hE ?_
  clear hE
  refine K_pure (c := crd (RdS 108 rd108) v0_0.v a_a) .h crd_bound (fun hbd13 => ?_)
  rcases rest6 with _ | ⟨x7, rest6⟩
  · have hk9 := List.drop_eq_nil_iff.1 hd8
    rw [l_szAccessS_L1] at hF
    iterate 7 refine au ?_
    refine CdF ?_
    iterate 9 refine au ?_
    cases hF
    exact Er ()
  obtain ⟨hk9, hx10, hd11⟩ := drop_cons hd8
  rw [l_szAccessS_L1] at hF
  iterate 7 refine au ?_
  refine CdT ?_
  iterate 5 refine au ?_
  refine Ai hx10 (fun k14 j15 => ?_)
  refine AlA1 (ul108_0_108 x7) la108_0_108 (fun p16 => ?_)
  refine au ?_
  obtain ⟨r17, hx18, hF⟩ := bind_some hF
  refine Cx0 (l_szAccess_ok _ _ _ _ hx18) (fun _ => ?_)
  iterate 6 refine au ?_
  refine Cc (fun hb21 => ?_) (fun hb21 => ?_)
  · rw [if_pos hb21] at hF
    iterate 4 refine au ?_
    cases hF
    exact Er ()
  rw [if_neg (nt hb21)] at hF
  iterate 6 refine au ?_
  rw [wk k5]
  exact ⟨_, Nat.lt_succ_self _, _, k5 + 1, rest6, _, rfl, eqA, hd11, entA, hF⟩

/-! laws.szIntSS -/
def l_szIntSS_L1 : List (List Int) → Nat → Int → Option (Int)
  | [], k5, c1 => some c1
  | x7 :: rest6, k5, c1 => (l_szIntS x7 c1).bind fun r17 =>
    if (decide ((r17 : Int) < 0)) then (
      some (-1))
    else (
      l_szIntSS_L1 rest6 (k5 + 1) r17)
def l_szIntSS (a_a : List (List Int)) (a_left : Int) : Option (Int) :=
  if (decide (((IntKind.i64.wrap (a_left - (a_a.length : Int))) : Int) < 0)) then (
    some (-1))
  else (
    l_szIntSS_L1 a_a 0 (IntKind.i64.wrap (a_left - (a_a.length : Int))))
theorem l_szIntSS_ok (a_a : List (List Int)) (v0_0 : Sv) (a_left : Int) (R : Int) (hF : l_szIntSS a_a a_left = some R) :
    Fw.Spec Tryz.prog 65 [v0_0.v, (.int .i64 a_left)] [crd (RdS 22 (RdS 3 rdInt)) v0_0.v a_a] (fun _ : Unit => (.int .i64 R)) (fun _ => []) := by
  refine Spec_enter (n := 27) Tryz.func65 rfl rfl (rs := [.tmp 4]) rfl rfl rfl ?_
  intro H0 F0
  unfold l_szIntSS at hF
  iterate 15 refine au ?_
  refine Cc (fun hb22 => ?_) (fun hb22 => ?_)
  · rw [if_pos hb22] at hF
    iterate 4 refine au ?_
    cases hF
    exact Er ()
  rw [if_neg (nt hb22)] at hF
  iterate 5 refine au ?_
  refine CW_block (CW_loop (m := a_a.length) (fun m3 f' cs' => ∃ (g : Fr) (k5 : Nat) (rest6 : List (List Int)) (c1 : Int), m3 = rest6.length ∧ f' = updL g [(0, v0_0.v), (1, (.int .i64 c1)), (5, (.int .i64 (k5 : Int)))] ∧ List.drop k5 a_a = rest6 ∧ Ent cs' [crd (RdS 22 (RdS 3 rdInt)) v0_0.v a_a] ∧ l_szIntSS_L1 rest6 k5 c1 = some R) ⟨_, 0, _, _, rfl, eqA, rfl, entA, hF⟩ ?_)
  clear hF
  rintro m3 _ _ ⟨g4, k5, rest6, c1, rfl, rfl, hd8, hE, hF⟩
  refine K_ent hE ?_
  clear hE
  refine K_pure (c := crd (RdS 22 (RdS 3 rdInt)) v0_0.v a_a) .h crd_bound (fun hbd13 => ?_)
  rcases rest6 with _ | ⟨x7, rest6⟩
  · have hk9 := List.drop_eq_nil_iff.1 hd8
    rw [l_szIntSS_L1] at hF
    iterate 7 refine au ?_
    refine CdF ?_
    iterate 9 refine au ?_
    cases hF
    exact Er ()
  obtain ⟨hk9, hx10, hd11⟩ := drop_cons hd8
  rw [l_szIntSS_L1] at hF
  iterate 7 refine au ?_
  refine CdT ?_
  iterate 5 refine au ?_
  refine Ai hx10 (fun k14 j15 => ?_)
  refine C_ldV (R' := (RdS 3 rdInt)) ag22.h (.tmp rfl rfl) .h lv22_0 (fun w16 => ?_)
  refine au ?_
  obtain ⟨r17, hx18, hF⟩ := bind_some hF
  refine Cx0 (l_szIntS_ok _ _ _ _ hx18) (fun _ => ?_)
  iterate 6 refine au ?_
  refine Cc (fun hb21 => ?_) (fun hb21 => ?_)
  · rw [if_pos hb21] at hF
    iterate 4 refine au ?_
    cases hF
    exact Er ()
  rw [if_neg (nt hb21)] at hF
  iterate 6 refine au ?_
  rw [wk k5]
  exact ⟨_, Nat.lt_succ_self _, _, k5 + 1, rest6, _, rfl, eqA, hd11, entA, hF⟩

/-! laws.szIntSSS -/
def l_szIntSSS_L1 : List (List (List Int)) → Nat → Int → Option (Int)
  | [], k5, c1 => some c1
  | x7 :: rest6, k5, c1 => (l_szIntSS x7 c1).bind fun r17 =>
    if (decide ((r17 : Int) < 0)) then (
      some (-1))
    else (
      l_szIntSSS_L1 rest6 (k5 + 1) r17)
def l_szIntSSS (a_a : List (List (List Int))) (a_left : Int) : Option (Int) :=
  if (decide (((IntKind.i64.wrap (a_left - (a_a.length : Int))) : Int) < 0)) then (
    some (-1))
  else (
    l_szIntSSS_L1 a_a 0 (IntKind.i64.wrap (a_left - (a_a.length : Int))))
theorem l_szIntSSS_ok (a_a : List (List (List Int))) (v0_0 : Sv) (a_left : Int) (R : Int) (hF : l_szIntSSS a_a a_left = some R) :
    Fw.Spec Tryz.prog 21 [v0_0.v, (.int .i64 a_left)] [crd (RdS 110 (RdS 22 (RdS 3 rdInt))) v0_0.v a_a] (fun _ : Unit => (.int .i64 R)) (fun _ => []) := by
  refine Spec_enter (n := 27) Tryz.func21 rfl rfl (rs := [.tmp 4]) rfl rfl rfl ?_
  intro H0 F0
  unfold l_szIntSSS at hF
  iterate 15 refine au ?_
  refine Cc (fun hb22 => ?_) (fun hb22 => ?_)
  · rw [if_pos hb22] at hF
    iterate 4 refine au ?_
    cases hF
    exact Er ()
  rw [if_neg (nt hb22)] at hF
  iterate 5 refine au ?_
  refine CW_block (CW_loop (m := a_a.length) (fun m3 f' cs' => ∃ (g : Fr) (k5 : Nat) (rest6 : List (List (List Int))) (c1 : Int), m3 = rest6.length ∧ f' = updL g [(0, v0_0.v), (1, (.int .i64 c1)), (5, (.int .i64 (k5 : Int)))] ∧ List.drop k5 a_a = rest6 ∧ Ent cs' [crd (RdS 110 (RdS 22 (RdS 3 rdInt))) v0_0.v a_a] ∧ l_szIntSSS_L1 rest6 k5 c1 = some R) ⟨_, 0, _, _, rfl, eqA, rfl, entA, hF⟩ ?_)
  clear hF
  rintro m3 _ _ ⟨g4, k5, rest6, c1, rfl, rfl, hd8, hE, hF⟩
  refine K_ent hE ?_
  clear hE
  refine K_pure (c := crd (RdS 110 (RdS 22 (RdS 3 rdInt))) v0_0.v a_a) .h crd_bound (fun hbd13 => ?_)
  rcases rest6 with _ | ⟨x7, rest6⟩
  · have hk9 := List.drop_eq_nil_iff.1 hd8
    rw [l_szIntSSS_L1] at hF
    iterate 7 refine au ?_
    refine CdF ?_
    iterate 9 refine au ?_
    cases hF
    exact Er ()
  obtain ⟨hk9, hx10, hd11⟩ := drop_cons hd8
  rw [l_szIntSSS_L1] at hF
  iterate 7 refine au ?_
  refine CdT ?_
  iterate 5 refine au ?_
  refine Ai hx10 (fun k14 j15 => ?_)
  refine C_ldV (R' := (RdS 22 (RdS 3 rdInt))) ag110.h (.tmp rfl rfl) .h lv110_0 (fun w16 => ?_)
  refine au ?_
  obtain ⟨r17, hx18, hF⟩ := bind_some hF
  refine Cx0 (l_szIntSS_ok _ _ _ _ hx18) (fun _ => ?_)
  iterate 6 refine au ?_
  refine Cc (fun hb21 => ?_) (fun hb21 => ?_)
  · rw [if_pos hb21] at hF
    iterate 4 refine au ?_
    cases hF
    exact Er ()
  rw [if_neg (nt hb21)] at hF
  iterate 6 refine au ?_
  rw [wk k5]
  exact ⟨_, Nat.lt_succ_self _, _, k5 + 1, rest6, _, rfl, eqA, hd11, entA, hF⟩

/-! laws.szMediator -/
def l_szMediator (a_a : Mediator) (a_left : Int) : Option (Int) :=
  (l_szIntS a_a.Schema a_left).bind fun r2 =>
  if (decide ((r2 : Int) < 0)) then (
    some (-1))
  else (
    (l_szMethodS a_a.Methods r2).bind fun r5 =>
    if (decide ((r5 : Int) < 0)) then (
      some (-1))
    else (
      (l_szRuleS a_a.Rules r5).bind fun r8 =>
      if (decide ((r8 : Int) < 0)) then (
        some (-1))
      else (
        (l_szSource a_a.Source r8).bind fun r11 =>
        if (decide ((r11 : Int) < 0)) then (
          some (-1))
        else (
          (l_szCache a_a.Cache r11).bind fun r14 =>
          if (decide ((r14 : Int) < 0)) then (
            some (-1))
          else (
            (l_szAccessS a_a.Log r14).bind fun r17 =>
            if (decide ((r17 : Int) < 0)) then (
              some (-1))
            else (
              (l_szIntS a_a.Times r17).bind fun r20 =>
              if (decide ((r20 : Int) < 0)) then (
                some (-1))
              else (
                (l_szIntSSS a_a.Results r20).bind fun r23 =>
                if (decide ((r23 : Int) < 0)) then (
                  some (-1))
                else (
                  some r23))))))))
theorem l_szMediator_ok (a_a : Mediator) (v0_0 : Sv) (v0_1 : Sv) (v0_2 : Sv) (v0_3 : Sv) (v0_5 : Sv) (v0_8 : Sv) (v0_9 : Sv) (v0_11 : Sv) (a_left : Int) (R : Int) (hF : l_szMediator a_a a_left = some R) :
    Fw.Spec Tryz.prog 4 [(.agg [v0_0.v, v0_1.v, v0_2.v, v0_3.v, (.int .i64 a_a.Source.Version), v0_5.v, (.int .i64 a_a.Cache.Age), (.int .i64 a_a.Now), v0_8.v, v0_9.v, (.int .i64 a_a.Spent), v0_11.v].toArray), (.int .i64 a_left)] [crd (RdS 3 rdInt) v0_0.v a_a.Schema, crd (RdS 100 rd100) v0_1.v a_a.Methods, crd (RdS 103 rd103) v0_2.v a_a.Rules, crd (RdS 36 rd36) v0_3.v a_a.Source.Facts, crd (RdS 153 rd153) v0_5.v a_a.Cache.Entries, crd (RdS 108 rd108) v0_8.v a_a.Log, crd (RdS 3 rdInt) v0_9.v a_a.Times, crd (RdS 110 (RdS 22 (RdS 3 rdInt))) v0_11.v a_a.Results] (fun _ : Unit => (.int .i64 R)) (fun _ => []) := by
  refine Spec_enter (n := 54) Tryz.func4 rfl rfl (rs := [.tmp 4]) rfl rfl rfl ?_
  intro H0 F0
  unfold l_szMediator at hF
  refine au ?_
  refine AbR (fun k1 => ?_)
  iterate 6 refine au ?_
  obtain ⟨r2, hx3, hF⟩ := bind_some hF
  refine Cx0 (l_szIntS_ok _ _ _ _ hx3) (fun _ => ?_)
  iterate 7 refine au ?_
  refine Cc (fun hb33 => ?_) (fun hb33 => ?_)
  · rw [if_pos hb33] at hF
    iterate 4 refine au ?_
    cases hF
    exact Er ()
  rw [if_neg (nt hb33)] at hF
  iterate 5 refine au ?_
  obtain ⟨r5, hx6, hF⟩ := bind_some hF
  refine Cx0 (l_szMethodS_ok _ _ _ _ hx6) (fun _ => ?_)
  iterate 7 refine au ?_
  refine Cc (fun hb32 => ?_) (fun hb32 => ?_)
  · rw [if_pos hb32] at hF
    iterate 4 refine au ?_
    cases hF
    exact Er ()
  rw [if_neg (nt hb32)] at hF
  iterate 5 refine au ?_
  obtain ⟨r8, hx9, hF⟩ := bind_some hF
  refine Cx0 (l_szRuleS_ok _ _ _ _ hx9) (fun _ => ?_)
  iterate 7 refine au ?_
  refine Cc (fun hb31 => ?_) (fun hb31 => ?_)
  · rw [if_pos hb31] at hF
    iterate 4 refine au ?_
    cases hF
    exact Er ()
  rw [if_neg (nt hb31)] at hF
  iterate 3 refine au ?_
  refine C_at .h (fun hp => V_loadA (s := 2) (l := [v0_3.v, (.int .i64 a_a.Source.Version)]) ag27.h ty27.h.sz (.tmp rfl rfl) hp.2 rfl (by decide) (Nat.le_of_ble_eq_true rfl) rfl) ?_
  refine au ?_
  obtain ⟨r11, hx12, hF⟩ := bind_some hF
  refine Cx0 (l_szSource_ok _ _ _ _ hx12) (fun _ => ?_)
  iterate 7 refine au ?_
  refine Cc (fun hb30 => ?_) (fun hb30 => ?_)
  · rw [if_pos hb30] at hF
    iterate 4 refine au ?_
    cases hF
    exact Er ()
  rw [if_neg (nt hb30)] at hF
  iterate 3 refine au ?_
  refine C_at .h (fun hp => V_loadA (s := 2) (l := [v0_5.v, (.int .i64 a_a.Cache.Age)]) ag30.h ty30.h.sz (.tmp rfl rfl) hp.2 rfl (by decide) (Nat.le_of_ble_eq_true rfl) rfl) ?_
  refine au ?_
  obtain ⟨r14, hx15, hF⟩ := bind_some hF
  refine Cx0 (l_szCache_ok _ _ _ _ hx15) (fun _ => ?_)
  iterate 7 refine au ?_
  refine Cc (fun hb29 => ?_) (fun hb29 => ?_)
  · rw [if_pos hb29] at hF
    iterate 4 refine au ?_
    cases hF
    exact Er ()
  rw [if_neg (nt hb29)] at hF
  iterate 5 refine au ?_
  obtain ⟨r17, hx18, hF⟩ := bind_some hF
  refine Cx0 (l_szAccessS_ok _ _ _ _ hx18) (fun _ => ?_)
  iterate 7 refine au ?_
  refine Cc (fun hb28 => ?_) (fun hb28 => ?_)
  · rw [if_pos hb28] at hF
    iterate 4 refine au ?_
    cases hF
    exact Er ()
  rw [if_neg (nt hb28)] at hF
  iterate 5 refine au ?_
  obtain ⟨r20, hx21, hF⟩ := bind_some hF
  refine Cx0 (l_szIntS_ok _ _ _ _ hx21) (fun _ => ?_)
  iterate 7 refine au ?_
  refine Cc (fun hb27 => ?_) (fun hb27 => ?_)
  · rw [if_pos hb27] at hF
    iterate 4 refine au ?_
    cases hF
    exact Er ()
  rw [if_neg (nt hb27)] at hF
  iterate 5 refine au ?_
  obtain ⟨r23, hx24, hF⟩ := bind_some hF
  refine Cx0 (l_szIntSSS_ok _ _ _ _ hx24) (fun _ => ?_)
  iterate 7 refine au ?_
  refine Cc (fun hb26 => ?_) (fun hb26 => ?_)
  · rw [if_pos hb26] at hF
    iterate 4 refine au ?_
    cases hF
    exact Er ()
  rw [if_neg (nt hb26)] at hF
  iterate 6 refine au ?_
  cases hF
  exact Er ()

/-! laws.szChange -/
def l_szChange (a_a : Change) (a_left : Int) : Option (Int) :=
  (l_szFact a_a.Fact a_left).bind fun r2 =>
  if (decide ((r2 : Int) < 0)) then (
    some (-1))
  else (
    some r2)
theorem l_szChange_ok (a_a : Change) (v0_2 : Sv) (a_left : Int) (R : Int) (hF : l_szChange a_a a_left = some R) :
    Fw.Spec Tryz.prog 5 [(.agg [(.bool a_a.Add), (.int .i64 a_a.Fact.Rel), v0_2.v].toArray), (.int .i64 a_left)] [crd (RdS 3 rdInt) v0_2.v a_a.Fact.Values] (fun _ : Unit => (.int .i64 R)) (fun _ => []) := by
  refine Spec_enter (n := 12) Tryz.func5 rfl rfl (rs := [.tmp 4]) rfl rfl rfl ?_
  intro H0 F0
  unfold l_szChange at hF
  refine au ?_
  refine AbR (fun k1 => ?_)
  iterate 4 refine au ?_
  refine C_at .h (fun hp => V_loadA (s := 2) (l := [(.int .i64 a_a.Fact.Rel), v0_2.v]) ag36.h ty36.h.sz (.tmp rfl rfl) hp.2 rfl (by decide) (Nat.le_of_ble_eq_true rfl) rfl) ?_
  refine au ?_
  obtain ⟨r2, hx3, hF⟩ := bind_some hF
  refine Cx0 (l_szFact_ok _ _ _ _ hx3) (fun _ => ?_)
  iterate 7 refine au ?_
  refine Cc (fun hb5 => ?_) (fun hb5 => ?_)
  · rw [if_pos hb5] at hF
    iterate 4 refine au ?_
    cases hF
    exact Er ()
  rw [if_neg (nt hb5)] at hF
  iterate 6 refine au ?_
  cases hF
  exact Er ()

/-! laws.toIntS -/
def l_toIntS_L1 : List Int → Nat → (List Int) → Option ((List Int))
  | [], k32, c27 => some c27
  | x34 :: rest33, k32, c27 => (chk (decide (0 ≤ (k32 : Int)) && decide ((k32 : Int) < (c27.length : Int)))).bind fun u46 =>
    (some (c27.set ((k32 : Int)).toNat x34)).bind fun z48 =>
    l_toIntS_L1 rest33 (k32 + 1) z48
def l_toIntS (a_a : List Int) : Option ((List Int)) :=
  (mkz (a_a.length : Int) (0 : Int)).bind fun z1 =>
  l_toIntS_L1 a_a 0 z1
theorem l_toIntS_ok (a_a : List Int) (v0_0 : Sv) (R : (List Int)) (hF : l_toIntS a_a = some R) :
    Fw.Spec Tryz.prog 26 [v0_0.v] [crd (RdS 3 rdInt) v0_0.v a_a] (fun p : Sv × List Nat => p.1.v) (fun p => [cown (OwnS 3 (roE rdInt)) p.2 p.1.v R]) := by
  refine Spec_enter (n := 22) Tryz.func26 rfl rfl (rs := [.tmp 2]) rfl rfl rfl ?_
  intro H0 F0
  unfold l_toIntS at hF
  iterate 6 refine au ?_
  obtain ⟨z1, hx2, hF⟩ := bind_some hF
  have hm3 := mkz_some hx2
  refine C_new rfl (N_makeSlice (g := true) (c := (a_a.length : Int)) sl22.h ty3.h rfl rfl (by decide) (.tmp rfl rfl) hm3.2.1 hm3.2.2) (fun k4 => ?_)
  refine Cv1 (.cons .h .nil) (own_make (Ro := (roE rdInt)) (E := 3) (a := (0 : Int)) hx2 (fun _ => ⟨rfl, rfl⟩)) ?_
  iterate 6 refine au ?_
  refine CW_block (CW_loop (m := a_a.length) (fun m30 f' cs' => ∃ (g : Fr) (k32 : Nat) (rest33 : List Int) (c27 : List Int) (F28 : List Nat), m30 = rest33.length ∧ f' = updL g [(0, v0_0.v), (3, (.slice (some ⟨k4, 0, none⟩) (a_a.length : Int).toNat 1)), (4, (.int .i64 (k32 : Int)))] ∧ List.drop k32 a_a = rest33 ∧ Ent cs' [crd (RdS 3 rdInt) v0_0.v a_a, cown (OwnS 3 (roE rdInt)) F28 (.slice (some ⟨k4, 0, none⟩) (a_a.length : Int).toNat 1) c27] ∧ l_toIntS_L1 rest33 k32 c27 = some R) ⟨_, 0, _, _, [k4], rfl, eqA, rfl, entA, hF⟩ ?_)
  clear hF
  rintro m30 _ _ ⟨g31, k32, rest33, c27, F28, rfl, rfl, hd35, hE, hF⟩
  refine K_ent hE ?_
  clear hE
  refine K_pure (c := crd (RdS 3 rdInt) v0_0.v a_a) .h crd_bound (fun hbd40 => ?_)
  rcases rest33 with _ | ⟨x34, rest33⟩
  · have hk36 := List.drop_eq_nil_iff.1 hd35
    rw [l_toIntS_L1] at hF
    iterate 7 refine au ?_
    refine CdF ?_
    iterate 9 refine au ?_
    cases hF
    exact Er (⟨(some ⟨k4, 0, none⟩), (a_a.length : Int).toNat, 1⟩, F28)
  obtain ⟨hk36, hx37, hd38⟩ := drop_cons hd35
  rw [l_toIntS_L1] at hF
  iterate 7 refine au ?_
  refine CdT ?_
  iterate 7 refine au ?_
  refine Ai hx37 (fun k41 j42 => ?_)
  refine Al ls3_0 ?_
  obtain ⟨u46, hx47, hF⟩ := bind_some hF
  have hi45 := chk_some hx47
  refine C_idxO sl22.h ty3.h.sz (.tmp rfl rfl) (.tmp rfl rfl) (.t (.t .h)) hi45 (fun k43 hk44 => ?_)
  obtain ⟨z48, hx49, hF⟩ := bind_some hF
  replace hx49 := Option.some.inj hx49
  refine C_x1 (.cons (.t (.t .h)) .nil) (X_storeO (Ro := (roE rdInt)) (a := x34) (i := (k32 : Int)) ty3.h.sz rfl (.tmp rfl rfl) (.tmp rfl rfl) hk44 hi45 (Mk_pure (fun _ => rfl)) (fun _ _ _ _ h => by obtain ⟨-, h⟩ := h; cases h; rfl)) (fun F50 => ?_)
  rw [hx49]
  iterate 6 refine au ?_
  rw [wk k32]
  exact ⟨_, Nat.lt_succ_self _, _, k32 + 1, rest33, _, F50, rfl, eqA, hd38, entA, hF⟩

/-! laws.toMethod -/
def l_toMethod (a_a : Method) : Option (Method) :=
  (l_toIntS a_a.Inputs).bind fun r4 =>
  some ({ Rel := a_a.Rel, Inputs := r4, Limit := a_a.Limit, Cost := a_a.Cost, Quota := a_a.Quota } : Method)
theorem l_toMethod_ok (a_a : Method) (v0_1 : Sv) (R : Method) (hF : l_toMethod a_a = some R) :
    Fw.Spec Tryz.prog 84 [(.agg [(.int .i64 a_a.Rel), v0_1.v, (.int .i64 a_a.Limit), (.int .i64 a_a.Cost), (.int .i64 a_a.Quota)].toArray)] [crd (RdS 3 rdInt) v0_1.v a_a.Inputs] (fun p : Sv × List Nat => (.agg [(.int .i64 R.Rel), p.1.v, (.int .i64 R.Limit), (.int .i64 R.Cost), (.int .i64 R.Quota)].toArray)) (fun p => [cown (OwnS 3 (roE rdInt)) p.2 p.1.v R.Inputs]) := by
  refine Spec_enter (n := 21) Tryz.func84 rfl rfl (rs := [.cell 2 114]) rfl rfl rfl ?_
  intro H0 F0
  unfold l_toMethod at hF
  refine au ?_
  refine AbR (fun k1 => ?_)
  refine AnW (fun k2 => ?_)
  iterate 2 refine au ?_
  refine AnW (fun k3 => ?_)
  iterate 5 refine au ?_
  refine As (.agg [(.int .i64 a_a.Rel), (.slice none 0 0), (.int .i64 0), (.int .i64 0), (.int .i64 0)].toArray) ?_
  iterate 4 refine au ?_
  obtain ⟨r4, hx5, hF⟩ := bind_some hF
  refine Cx1 (l_toIntS_ok _ _ _ hx5) (fun p6 => ?_)
  refine au ?_
  refine As (.agg [(.int .i64 a_a.Rel), p6.1.v, (.int .i64 0), (.int .i64 0), (.int .i64 0)].toArray) ?_
  iterate 5 refine au ?_
  refine As (.agg [(.int .i64 a_a.Rel), p6.1.v, (.int .i64 a_a.Limit), (.int .i64 0), (.int .i64 0)].toArray) ?_
  iterate 5 refine au ?_
  refine As (.agg [(.int .i64 a_a.Rel), p6.1.v, (.int .i64 a_a.Limit), (.int .i64 a_a.Cost), (.int .i64 0)].toArray) ?_
  iterate 5 refine au ?_
  refine As (.agg [(.int .i64 a_a.Rel), p6.1.v, (.int .i64 a_a.Limit), (.int .i64 a_a.Cost), (.int .i64 a_a.Quota)].toArray) ?_
  iterate 3 refine au ?_
  refine As (.agg [(.int .i64 a_a.Rel), p6.1.v, (.int .i64 a_a.Limit), (.int .i64 a_a.Cost), (.int .i64 a_a.Quota)].toArray) ?_
  iterate 2 refine au ?_
  cases hF
  exact Er (p6.1, p6.2)

/-! laws.toMethodS -/
def l_toMethodS_L1 : List Method → Nat → (List Method) → Option ((List Method))
  | [], k36, c31 => some c31
  | x38 :: rest37, k36, c31 => (l_toMethod x38).bind fun r48 =>
    (chk (decide (0 ≤ (k36 : Int)) && decide ((k36 : Int) < (c31.length : Int)))).bind fun u54 =>
    (some (c31.set ((k36 : Int)).toNat r48)).bind fun z56 =>
    l_toMethodS_L1 rest37 (k36 + 1) z56
def l_toMethodS (a_a : List Method) : Option ((List Method)) :=
  (mkz (a_a.length : Int) (({ Rel := 0, Inputs := [], Limit := 0, Cost := 0, Quota := 0 } : Method) : Method)).bind fun z1 =>
  l_toMethodS_L1 a_a 0 z1
theorem l_toMethodS_ok (a_a : List Method) (v0_0 : Sv) (R : (List Method)) (hF : l_toMethodS a_a = some R) :
    Fw.Spec Tryz.prog 27 [v0_0.v] [crd (RdS 100 rd100) v0_0.v a_a] (fun p : Sv × List Nat => p.1.v) (fun p => [cown (OwnS 114 ow114) p.2 p.1.v R]) := by
  refine Spec_enter (n := 23) Tryz.func27 rfl rfl (rs := [.tmp 2]) rfl rfl rfl ?_
  intro H0 F0
  unfold l_toMethodS at hF
  iterate 6 refine au ?_
  obtain ⟨z1, hx2, hF⟩ := bind_some hF
  have hm3 := mkz_some hx2
  refine C_new rfl (N_makeSlice (g := true) (c := (a_a.length : Int)) sl41.h ty114.h rfl rfl (by decide) (.tmp rfl rfl) hm3.2.1 hm3.2.2) (fun k4 => ?_)
  refine Cv1 (.cons .h .nil) (own_make (Ro := ow114) (E := 114) (a := (({ Rel := 0, Inputs := [], Limit := 0, Cost := 0, Quota := 0 } : Method) : Method)) hx2 (fun _ => ⟨⟨none, 0, 0⟩, [], rfl, rfl, .inl ⟨rfl, rfl, rfl⟩⟩)) ?_
  iterate 6 refine au ?_
  refine CW_block (CW_loop (m := a_a.length) (fun m34 f' cs' => ∃ (g : Fr) (k36 : Nat) (rest37 : List Method) (c31 : List Method) (F32 : List Nat), m34 = rest37.length ∧ f' = updL g [(0, v0_0.v), (3, (.slice (some ⟨k4, 0, none⟩) (a_a.length : Int).toNat 1)), (4, (.int .i64 (k36 : Int)))] ∧ List.drop k36 a_a = rest37 ∧ Ent cs' [crd (RdS 100 rd100) v0_0.v a_a, cown (OwnS 114 ow114) F32 (.slice (some ⟨k4, 0, none⟩) (a_a.length : Int).toNat 1) c31] ∧ l_toMethodS_L1 rest37 k36 c31 = some R) ⟨_, 0, _, _, [k4], rfl, eqA, rfl, entA, hF⟩ ?_)
  clear hF
  rintro m34 _ _ ⟨g35, k36, rest37, c31, F32, rfl, rfl, hd39, hE, hF⟩
  refine K_ent hE ?_
  clear hE
  refine K_pure (c := crd (RdS 100 rd100) v0_0.v a_a) .h crd_bound (fun hbd44 => ?_)
  rcases rest37 with _ | ⟨x38, rest37⟩
  · have hk40 := List.drop_eq_nil_iff.1 hd39
    rw [l_toMethodS_L1] at hF
    iterate 7 refine au ?_
    refine CdF ?_
    iterate 9 refine au ?_
    cases hF
    exact Er (⟨(some ⟨k4, 0, none⟩), (a_a.length : Int).toNat, 1⟩, F32)
  obtain ⟨hk40, hx41, hd42⟩ := drop_cons hd39
  rw [l_toMethodS_L1] at hF
  iterate 7 refine au ?_
  refine CdT ?_
  iterate 7 refine au ?_
  refine Ai hx41 (fun k45 j46 => ?_)
  refine AlA1 (ul100_0_100 x38) la100_0_100 (fun p47 => ?_)
  obtain ⟨r48, hx49, hF⟩ := bind_some hF
  refine Cx1 (l_toMethod_ok _ _ _ hx49) (fun p50 => ?_)
  obtain ⟨u54, hx55, hF⟩ := bind_some hF
  have hi53 := chk_some hx55
  refine C_idxO sl41.h ty114.h.sz (.tmp rfl rfl) (.tmp rfl rfl) (.t (.t (.t (.t .h)))) hi53 (fun k51 hk52 => ?_)
  obtain ⟨z56, hx57, hF⟩ := bind_some hF
  replace hx57 := Option.some.inj hx57
  refine C_x1 (.cons (.t (.t (.t (.t .h)))) (.cons .h .nil)) (X_storeO (Ro := ow114) (a := r48) (i := (k36 : Int)) ty114.h.sz rfl (.tmp rfl rfl) (.tmp rfl rfl) hk52 hi53 mk114 (fun _ _ _ _ h => by obtain ⟨_, _, rfl, rfl, _⟩ := h; rfl)) (fun F58 => ?_)
  rw [hx57]
  iterate 6 refine au ?_
  rw [wk k36]
  exact ⟨_, Nat.lt_succ_self _, _, k36 + 1, rest37, _, F58, rfl, eqA, hd42, entA, hF⟩

/-! laws.toRule -/
def l_toRule (a_a : Rule) : Option (Rule) :=
  (l_toIntS a_a.Map).bind fun r4 =>
  some ({ From := a_a.From, To := a_a.To, Map := r4 } : Rule)
theorem l_toRule_ok (a_a : Rule) (v0_2 : Sv) (R : Rule) (hF : l_toRule a_a = some R) :
    Fw.Spec Tryz.prog 85 [(.agg [(.int .i64 a_a.From), (.int .i64 a_a.To), v0_2.v].toArray)] [crd (RdS 3 rdInt) v0_2.v a_a.Map] (fun p : Sv × List Nat => (.agg [(.int .i64 R.From), (.int .i64 R.To), p.1.v].toArray)) (fun p => [cown (OwnS 3 (roE rdInt)) p.2 p.1.v R.Map]) := by
  refine Spec_enter (n := 15) Tryz.func85 rfl rfl (rs := [.cell 2 116]) rfl rfl rfl ?_
  intro H0 F0
  unfold l_toRule at hF
  refine au ?_
  refine AbR (fun k1 => ?_)
  refine AnW (fun k2 => ?_)
  iterate 2 refine au ?_
  refine AnW (fun k3 => ?_)
  iterate 5 refine au ?_
  refine As (.agg [(.int .i64 a_a.From), (.int .i64 0), (.slice none 0 0)].toArray) ?_
  iterate 5 refine au ?_
  refine As (.agg [(.int .i64 a_a.From), (.int .i64 a_a.To), (.slice none 0 0)].toArray) ?_
  iterate 4 refine au ?_
  obtain ⟨r4, hx5, hF⟩ := bind_some hF
  refine Cx1 (l_toIntS_ok _ _ _ hx5) (fun p6 => ?_)
  refine au ?_
  refine As (.agg [(.int .i64 a_a.From), (.int .i64 a_a.To), p6.1.v].toArray) ?_
  iterate 3 refine au ?_
  refine As (.agg [(.int .i64 a_a.From), (.int .i64 a_a.To), p6.1.v].toArray) ?_
  iterate 2 refine au ?_
  cases hF
  exact Er (p6.1, p6.2)

/-! laws.toRuleS -/
def l_toRuleS_L1 : List Rule → Nat → (List Rule) → Option ((List Rule))
  | [], k36, c31 => some c31
  | x38 :: rest37, k36, c31 => (l_toRule x38).bind fun r48 =>
    (chk (decide (0 ≤ (k36 : Int)) && decide ((k36 : Int) < (c31.length : Int)))).bind fun u54 =>
    (some (c31.set ((k36 : Int)).toNat r48)).bind fun z56 =>
    l_toRuleS_L1 rest37 (k36 + 1) z56
def l_toRuleS (a_a : List Rule) : Option ((List Rule)) :=
  (mkz (a_a.length : Int) (({ From := 0, To := 0, Map := [] } : Rule) : Rule)).bind fun z1 =>
  l_toRuleS_L1 a_a 0 z1
theorem l_toRuleS_ok (a_a : List Rule) (v0_0 : Sv) (R : (List Rule)) (hF : l_toRuleS a_a = some R) :
    Fw.Spec Tryz.prog 28 [v0_0.v] [crd (RdS 103 rd103) v0_0.v a_a] (fun p : Sv × List Nat => p.1.v) (fun p => [cown (OwnS 116 ow116) p.2 p.1.v R]) := by
  refine Spec_enter (n := 23) Tryz.func28 rfl rfl (rs := [.tmp 2]) rfl rfl rfl ?_
  intro H0 F0
  unfold l_toRuleS at hF
  iterate 6 refine au ?_
  obtain ⟨z1, hx2, hF⟩ := bind_some hF
  have hm3 := mkz_some hx2
  refine C_new rfl (N_makeSlice (g := true) (c := (a_a.length : Int)) sl42.h ty116.h rfl rfl (by decide) (.tmp rfl rfl) hm3.2.1 hm3.2.2) (fun k4 => ?_)
  refine Cv1 (.cons .h .nil) (own_make (Ro := ow116) (E := 116) (a := (({ From := 0, To := 0, Map := [] } : Rule) : Rule)) hx2 (fun _ => ⟨⟨none, 0, 0⟩, [], rfl, rfl, .inl ⟨rfl, rfl, rfl⟩⟩)) ?_
  iterate 6 refine au ?_
  refine CW_block (CW_loop (m := a_a.length) (fun m34 f' cs' => ∃ (g : Fr) (k36 : Nat) (rest37 : List Rule) (c31 : List Rule) (F32 : List Nat), m34 = rest37.length ∧ f' = updL g [(0, v0_0.v), (3, (.slice (some ⟨k4, 0, none⟩) (a_a.length : Int).toNat 1)), (4, (.int .i64 (k36 : Int)))] ∧ List.drop k36 a_a = rest37 ∧ Ent cs' [crd (RdS 103 rd103) v0_0.v a_a, cown (OwnS 116 ow116) F32 (.slice (some ⟨k4, 0, none⟩) (a_a.length : Int).toNat 1) c31] ∧ l_toRuleS_L1 rest37 k36 c31 = some R) ⟨_, 0, _, _, [k4], rfl, eqA, rfl, entA, hF⟩ ?_)
  clear hF
  rintro m34 _ _ ⟨g35, k36, rest37, c31, F32, rfl, rfl, hd39, hE, hF⟩
  refine K_ent hE ?_
  clear hE
  refine K_pure (c := crd (RdS 103 rd103) v0_0.v a_a) .h crd_bound (fun hbd44 => ?_)
  rcases rest37 with _ | ⟨x38, rest37⟩
  · have hk40 := List.drop_eq_nil_iff.1 hd39
    rw [l_toRuleS_L1] at hF
    iterate 7 refine au ?_
    refine CdF ?_
    iterate 9 refine au ?_
    cases hF
    exact Er (⟨(some ⟨k4, 0, none⟩), (a_a.length : Int).toNat, 1⟩, F32)
  obtain ⟨hk40, hx41, hd42⟩ := drop_cons hd39
  rw [l_toRuleS_L1] at hF
  iterate 7 refine au ?_
  refine CdT ?_
  iterate 7 refine au ?_
  refine Ai hx41 (fun k45 j46 => ?_)
  refine AlA1 (ul103_0_103 x38) la103_0_103 (fun p47 => ?_)
  obtain ⟨r48, hx49, hF⟩ := bind_some hF
  refine Cx1 (l_toRule_ok _ _ _ hx49) (fun p50 => ?_)
  obtain ⟨u54, hx55, hF⟩ := bind_some hF
  have hi53 := chk_some hx55
  refine C_idxO sl42.h ty116.h.sz (.tmp rfl rfl) (.tmp rfl rfl) (.t (.t (.t (.t .h)))) hi53 (fun k51 hk52 => ?_)
  obtain ⟨z56, hx57, hF⟩ := bind_some hF
  replace hx57 := Option.some.inj hx57
  refine C_x1 (.cons (.t (.t (.t (.t .h)))) (.cons .h .nil)) (X_storeO (Ro := ow116) (a := r48) (i := (k36 : Int)) ty116.h.sz rfl (.tmp rfl rfl) (.tmp rfl rfl) hk52 hi53 mk116 (fun _ _ _ _ h => by obtain ⟨_, _, rfl, rfl, _⟩ := h; rfl)) (fun F58 => ?_)
  rw [hx57]
  iterate 6 refine au ?_
  rw [wk k36]
  exact ⟨_, Nat.lt_succ_self _, _, k36 + 1, rest37, _, F58, rfl, eqA, hd42, entA, hF⟩

/-! laws.toFact -/
def l_toFact (a_a : Fact) : Option (Fact) :=
  (l_toIntS a_a.Values).bind fun r4 =>
  some ({ Rel := a_a.Rel, Values := r4 } : Fact)
theorem l_toFact_ok (a_a : Fact) (v0_1 : Sv) (R : Fact) (hF : l_toFact a_a = some R) :
    Fw.Spec Tryz.prog 33 [(.agg [(.int .i64 a_a.Rel), v0_1.v].toArray)] [crd (RdS 3 rdInt) v0_1.v a_a.Values] (fun p : Sv × List Nat => (.agg [(.int .i64 R.Rel), p.1.v].toArray)) (fun p => [cown (OwnS 3 (roE rdInt)) p.2 p.1.v R.Values]) := by
  refine Spec_enter (n := 12) Tryz.func33 rfl rfl (rs := [.cell 2 55]) rfl rfl rfl ?_
  intro H0 F0
  unfold l_toFact at hF
  refine au ?_
  refine AbR (fun k1 => ?_)
  refine AnW (fun k2 => ?_)
  iterate 2 refine au ?_
  refine AnW (fun k3 => ?_)
  iterate 5 refine au ?_
  refine As (.agg [(.int .i64 a_a.Rel), (.slice none 0 0)].toArray) ?_
  iterate 4 refine au ?_
  obtain ⟨r4, hx5, hF⟩ := bind_some hF
  refine Cx1 (l_toIntS_ok _ _ _ hx5) (fun p6 => ?_)
  refine au ?_
  refine As (.agg [(.int .i64 a_a.Rel), p6.1.v].toArray) ?_
  iterate 3 refine au ?_
  refine As (.agg [(.int .i64 a_a.Rel), p6.1.v].toArray) ?_
  iterate 2 refine au ?_
  cases hF
  exact Er (p6.1, p6.2)

/-! laws.toFactS -/
def l_toFactS_L1 : List Fact → Nat → (List Fact) → Option ((List Fact))
  | [], k36, c31 => some c31
  | x38 :: rest37, k36, c31 => (l_toFact x38).bind fun r48 =>
    (chk (decide (0 ≤ (k36 : Int)) && decide ((k36 : Int) < (c31.length : Int)))).bind fun u54 =>
    (some (c31.set ((k36 : Int)).toNat r48)).bind fun z56 =>
    l_toFactS_L1 rest37 (k36 + 1) z56
def l_toFactS (a_a : List Fact) : Option ((List Fact)) :=
  (mkz (a_a.length : Int) (({ Rel := 0, Values := [] } : Fact) : Fact)).bind fun z1 =>
  l_toFactS_L1 a_a 0 z1
theorem l_toFactS_ok (a_a : List Fact) (v0_0 : Sv) (R : (List Fact)) (hF : l_toFactS a_a = some R) :
    Fw.Spec Tryz.prog 86 [v0_0.v] [crd (RdS 36 rd36) v0_0.v a_a] (fun p : Sv × List Nat => p.1.v) (fun p => [cown (OwnS 55 ow55) p.2 p.1.v R]) := by
  refine Spec_enter (n := 23) Tryz.func86 rfl rfl (rs := [.tmp 2]) rfl rfl rfl ?_
  intro H0 F0
  unfold l_toFactS at hF
  iterate 6 refine au ?_
  obtain ⟨z1, hx2, hF⟩ := bind_some hF
  have hm3 := mkz_some hx2
  refine C_new rfl (N_makeSlice (g := true) (c := (a_a.length : Int)) sl43.h ty55.h rfl rfl (by decide) (.tmp rfl rfl) hm3.2.1 hm3.2.2) (fun k4 => ?_)
  refine Cv1 (.cons .h .nil) (own_make (Ro := ow55) (E := 55) (a := (({ Rel := 0, Values := [] } : Fact) : Fact)) hx2 (fun _ => ⟨⟨none, 0, 0⟩, [], rfl, rfl, .inl ⟨rfl, rfl, rfl⟩⟩)) ?_
  iterate 6 refine au ?_
  refine CW_block (CW_loop (m := a_a.length) (fun m34 f' cs' => ∃ (g : Fr) (k36 : Nat) (rest37 : List Fact) (c31 : List Fact) (F32 : List Nat), m34 = rest37.length ∧ f' = updL g [(0, v0_0.v), (3, (.slice (some ⟨k4, 0, none⟩) (a_a.length : Int).toNat 1)), (4, (.int .i64 (k36 : Int)))] ∧ List.drop k36 a_a = rest37 ∧ Ent cs' [crd (RdS 36 rd36) v0_0.v a_a, cown (OwnS 55 ow55) F32 (.slice (some ⟨k4, 0, none⟩) (a_a.length : Int).toNat 1) c31] ∧ l_toFactS_L1 rest37 k36 c31 = some R) ⟨_, 0, _, _, [k4], rfl, eqA, rfl, entA, hF⟩ ?_)
  clear hF
  rintro m34 _ _ ⟨g35, k36, rest37, c31, F32, rfl, rfl, hd39, hE, hF⟩
  refine K_ent hE ?_
  clear hE
  refine K_pure (c := crd (RdS 36 rd36) v0_0.v a_a) .h crd_bound (fun hbd44 => ?_)
  rcases rest37 with _ | ⟨x38, rest37⟩
  · have hk40 := List.drop_eq_nil_iff.1 hd39
    rw [l_toFactS_L1] at hF
    iterate 7 refine au ?_
    refine CdF ?_
    iterate 9 refine au ?_
    cases hF
    exact Er (⟨(some ⟨k4, 0, none⟩), (a_a.length : Int).toNat, 1⟩, F32)
  obtain ⟨hk40, hx41, hd42⟩ := drop_cons hd39
  rw [l_toFactS_L1] at hF
  iterate 7 refine au ?_
  refine CdT ?_
  iterate 7 refine au ?_
  refine Ai hx41 (fun k45 j46 => ?_)
  refine AlA1 (ul36_0_36 x38) la36_0_36 (fun p47 => ?_)
  obtain ⟨r48, hx49, hF⟩ := bind_some hF
  refine Cx1 (l_toFact_ok _ _ _ hx49) (fun p50 => ?_)
  obtain ⟨u54, hx55, hF⟩ := bind_some hF
  have hi53 := chk_some hx55
  refine C_idxO sl43.h ty55.h.sz (.tmp rfl rfl) (.tmp rfl rfl) (.t (.t (.t (.t .h)))) hi53 (fun k51 hk52 => ?_)
  obtain ⟨z56, hx57, hF⟩ := bind_some hF
  replace hx57 := Option.some.inj hx57
  refine C_x1 (.cons (.t (.t (.t (.t .h)))) (.cons .h .nil)) (X_storeO (Ro := ow55) (a := r48) (i := (k36 : Int)) ty55.h.sz rfl (.tmp rfl rfl) (.tmp rfl rfl) hk52 hi53 mk55 (fun _ _ _ _ h => by obtain ⟨_, _, rfl, rfl, _⟩ := h; rfl)) (fun F58 => ?_)
  rw [hx57]
  iterate 6 refine au ?_
  rw [wk k36]
  exact ⟨_, Nat.lt_succ_self _, _, k36 + 1, rest37, _, F58, rfl, eqA, hd42, entA, hF⟩

/-! laws.toSource -/
def l_toSource (a_a : Source) : Option (Source) :=
  (l_toFactS a_a.Facts).bind fun r4 =>
  some ({ Facts := r4, Version := a_a.Version } : Source)
theorem l_toSource_ok (a_a : Source) (v0_0 : Sv) (R : Source) (hF : l_toSource a_a = some R) :
    Fw.Spec Tryz.prog 29 [(.agg [v0_0.v, (.int .i64 a_a.Version)].toArray)] [crd (RdS 36 rd36) v0_0.v a_a.Facts] (fun p : Sv × List Nat => (.agg [p.1.v, (.int .i64 R.Version)].toArray)) (fun p => [cown (OwnS 55 ow55) p.2 p.1.v R.Facts]) := by
  refine Spec_enter (n := 12) Tryz.func29 rfl rfl (rs := [.cell 2 45]) rfl rfl rfl ?_
  intro H0 F0
  unfold l_toSource at hF
  refine au ?_
  refine AbR (fun k1 => ?_)
  refine AnW (fun k2 => ?_)
  iterate 2 refine au ?_
  refine AnW (fun k3 => ?_)
  iterate 4 refine au ?_
  obtain ⟨r4, hx5, hF⟩ := bind_some hF
  refine Cx1 (l_toFactS_ok _ _ _ hx5) (fun p6 => ?_)
  refine au ?_
  refine As (.agg [p6.1.v, (.int .i64 0)].toArray) ?_
  iterate 5 refine au ?_
  refine As (.agg [p6.1.v, (.int .i64 a_a.Version)].toArray) ?_
  iterate 3 refine au ?_
  refine As (.agg [p6.1.v, (.int .i64 a_a.Version)].toArray) ?_
  iterate 2 refine au ?_
  cases hF
  exact Er (p6.1, p6.2)

/-! laws.toAccess -/
def l_toAccess (a_a : Access) : Option (Access) :=
  (l_toIntS a_a.Values).bind fun r4 =>
  some ({ Method := a_a.Method, Values := r4 } : Access)
theorem l_toAccess_ok (a_a : Access) (v0_1 : Sv) (R : Access) (hF : l_toAccess a_a = some R) :
    Fw.Spec Tryz.prog 88 [(.agg [(.int .i64 a_a.Method), v0_1.v].toArray)] [crd (RdS 3 rdInt) v0_1.v a_a.Values] (fun p : Sv × List Nat => (.agg [(.int .i64 R.Method), p.1.v].toArray)) (fun p => [cown (OwnS 3 (roE rdInt)) p.2 p.1.v R.Values]) := by
  refine Spec_enter (n := 12) Tryz.func88 rfl rfl (rs := [.cell 2 124]) rfl rfl rfl ?_
  intro H0 F0
  unfold l_toAccess at hF
  refine au ?_
  refine AbR (fun k1 => ?_)
  refine AnW (fun k2 => ?_)
  iterate 2 refine au ?_
  refine AnW (fun k3 => ?_)
  iterate 5 refine au ?_
  refine As (.agg [(.int .i64 a_a.Method), (.slice none 0 0)].toArray) ?_
  iterate 4 refine au ?_
  obtain ⟨r4, hx5, hF⟩ := bind_some hF
  refine Cx1 (l_toIntS_ok _ _ _ hx5) (fun p6 => ?_)
  refine au ?_
  refine As (.agg [(.int .i64 a_a.Method), p6.1.v].toArray) ?_
  iterate 3 refine au ?_
  refine As (.agg [(.int .i64 a_a.Method), p6.1.v].toArray) ?_
  iterate 2 refine au ?_
  cases hF
  exact Er (p6.1, p6.2)

/-! laws.toStored -/
def l_toStored (a_a : Stored) : Option (Stored) :=
  (l_toAccess a_a.Access).bind fun r4 =>
  (l_toFactS a_a.Facts).bind fun r7 =>
  some ({ Access := r4, Facts := r7, At := a_a.At } : Stored)
theorem l_toStored_ok (a_a : Stored) (v0_1 : Sv) (v0_2 : Sv) (R : Stored) (hF : l_toStored a_a = some R) :
    Fw.Spec Tryz.prog 134 [(.agg [(.int .i64 a_a.Access.Method), v0_1.v, v0_2.v, (.int .i64 a_a.At)].toArray)] [crd (RdS 3 rdInt) v0_1.v a_a.Access.Values, crd (RdS 36 rd36) v0_2.v a_a.Facts] (fun p : Sv × List Nat × Sv × List Nat => (.agg [(.int .i64 R.Access.Method), p.1.v, p.2.2.1.v, (.int .i64 R.At)].toArray)) (fun p => [cown (OwnS 3 (roE rdInt)) p.2.1 p.1.v R.Access.Values, cown (OwnS 55 ow55) p.2.2.2 p.2.2.1.v R.Facts]) := by
  refine Spec_enter (n := 16) Tryz.func134 rfl rfl (rs := [.cell 2 156]) rfl rfl rfl ?_
  intro H0 F0
  unfold l_toStored at hF
  refine au ?_
  refine AbR (fun k1 => ?_)
  refine AnW (fun k2 => ?_)
  iterate 2 refine au ?_
  refine AnW (fun k3 => ?_)
  iterate 3 refine au ?_
  refine C_at (.t (.t .h)) (fun hp => V_loadA (s := 2) (l := [(.int .i64 a_a.Access.Method), v0_1.v]) ag108.h ty108.h.sz (.tmp rfl rfl) hp.2 rfl (by decide) (Nat.le_of_ble_eq_true rfl) rfl) ?_
  obtain ⟨r4, hx5, hF⟩ := bind_some hF
  refine Cx1 (l_toAccess_ok _ _ _ hx5) (fun p6 => ?_)
  refine au ?_
  refine As (.agg [(.int .i64 r4.Method), p6.1.v, (.slice none 0 0), (.int .i64 0)].toArray) ?_
  iterate 4 refine au ?_
  obtain ⟨r7, hx8, hF⟩ := bind_some hF
  refine Cx1 (l_toFactS_ok _ _ _ hx8) (fun p9 => ?_)
  refine au ?_
  refine As (.agg [(.int .i64 r4.Method), p6.1.v, p9.1.v, (.int .i64 0)].toArray) ?_
  iterate 5 refine au ?_
  refine As (.agg [(.int .i64 r4.Method), p6.1.v, p9.1.v, (.int .i64 a_a.At)].toArray) ?_
  iterate 3 refine au ?_
  refine As (.agg [(.int .i64 r4.Method), p6.1.v, p9.1.v, (.int .i64 a_a.At)].toArray) ?_
  iterate 2 refine au ?_
  cases hF
  exact Er (p6.1, p6.2, p9.1, p9.2)

/-! laws.toStoredS -/
def l_toStoredS_L1 : List Stored → Nat → (List Stored) → Option ((List Stored))
  | [], k36, c31 => some c31
  | x38 :: rest37, k36, c31 => (l_toStored x38).bind fun r48 =>
    (chk (decide (0 ≤ (k36 : Int)) && decide ((k36 : Int) < (c31.length : Int)))).bind fun u54 =>
    (some (c31.set ((k36 : Int)).toNat r48)).bind fun z56 =>
    l_toStoredS_L1 rest37 (k36 + 1) z56
def l_toStoredS (a_a : List Stored) : Option ((List Stored)) :=
  (mkz (a_a.length : Int) (({ Access := ({ Method := 0, Values := [] } : Access), Facts := [], At := 0 } : Stored) : Stored)).bind fun z1 =>
  l_toStoredS_L1 a_a 0 z1
theorem l_toStoredS_ok (a_a : List Stored) (v0_0 : Sv) (R : (List Stored)) (hF : l_toStoredS a_a = some R) :
    Fw.Spec Tryz.prog 87 [v0_0.v] [crd (RdS 153 rd153) v0_0.v a_a] (fun p : Sv × List Nat => p.1.v) (fun p => [cown (OwnS 156 ow156) p.2 p.1.v R]) := by
  refine Spec_enter (n := 23) Tryz.func87 rfl rfl (rs := [.tmp 2]) rfl rfl rfl ?_
  intro H0 F0
  unfold l_toStoredS at hF
  iterate 6 refine au ?_
  obtain ⟨z1, hx2, hF⟩ := bind_some hF
  have hm3 := mkz_some hx2
  refine C_new rfl (N_makeSlice (g := true) (c := (a_a.length : Int)) sl46.h ty156.h rfl rfl (by decide) (.tmp rfl rfl) hm3.2.1 hm3.2.2) (fun k4 => ?_)
  refine Cv1 (.cons .h .nil) (own_make (Ro := ow156) (E := 156) (a := (({ Access := ({ Method := 0, Values := [] } : Access), Facts := [], At := 0 } : Stored) : Stored)) hx2 (fun _ => ⟨⟨none, 0, 0⟩, ⟨none, 0, 0⟩, [], [], rfl, rfl, .inl ⟨rfl, rfl, rfl⟩, .inl ⟨rfl, rfl, rfl⟩⟩)) ?_
  iterate 6 refine au ?_
  refine CW_block (CW_loop (m := a_a.length) (fun m34 f' cs' => ∃ (g : Fr) (k36 : Nat) (rest37 : List Stored) (c31 : List Stored) (F32 : List Nat), m34 = rest37.length ∧ f' = updL g [(0, v0_0.v), (3, (.slice (some ⟨k4, 0, none⟩) (a_a.length : Int).toNat 1)), (4, (.int .i64 (k36 : Int)))] ∧ List.drop k36 a_a = rest37 ∧ Ent cs' [crd (RdS 153 rd153) v0_0.v a_a, cown (OwnS 156 ow156) F32 (.slice (some ⟨k4, 0, none⟩) (a_a.length : Int).toNat 1) c31] ∧ l_toStoredS_L1 rest37 k36 c31 = some R) ⟨_, 0, _, _, [k4], rfl, eqA, rfl, entA, hF⟩ ?_)
  clear hF
  rintro m34 _ _ ⟨g35, k36, rest37, c31, F32, rfl, rfl, hd39, hE, hF⟩
  refine K_ent hE ?_
  clear hE
  refine K_pure (c := crd (RdS 153 rd153) v0_0.v a_a) .h crd_bound (fun hbd44 => ?_)
  rcases rest37 with _ | ⟨x38, rest37⟩
  · have hk40 := List.drop_eq_nil_iff.1 hd39
    rw [l_toStoredS_L1] at hF
    iterate 7 refine au ?_
    refine CdF ?_
    iterate 9 refine au ?_
    cases hF
    exact Er (⟨(some ⟨k4, 0, none⟩), (a_a.length : Int).toNat, 1⟩, F32)
  obtain ⟨hk40, hx41, hd42⟩ := drop_cons hd39
  rw [l_toStoredS_L1] at hF
  iterate 7 refine au ?_
  refine CdT ?_
  iterate 7 refine au ?_
  refine Ai hx41 (fun k45 j46 => ?_)
  refine AlA2 (ul153_0_153 x38) la153_0_153 (fun p47 => ?_)
  obtain ⟨r48, hx49, hF⟩ := bind_some hF
  refine Cx2 (l_toStored_ok _ _ _ _ hx49) (fun p50 => ?_)
  obtain ⟨u54, hx55, hF⟩ := bind_some hF
  have hi53 := chk_some hx55
  refine C_idxO sl46.h ty156.h.sz (.tmp rfl rfl) (.tmp rfl rfl) (.t (.t (.t (.t (.t (.t .h)))))) hi53 (fun k51 hk52 => ?_)
  obtain ⟨z56, hx57, hF⟩ := bind_some hF
  replace hx57 := Option.some.inj hx57
  refine C_x1 (.cons (.t (.t (.t (.t (.t (.t .h)))))) (.cons .h (.cons .h .nil))) (X_storeO (Ro := ow156) (a := r48) (i := (k36 : Int)) ty156.h.sz rfl (.tmp rfl rfl) (.tmp rfl rfl) hk52 hi53 mk156 (fun _ _ _ _ h => by obtain ⟨_, _, _, _, rfl, rfl, _⟩ := h; rfl)) (fun F58 => ?_)
  rw [hx57]
  iterate 6 refine au ?_
  rw [wk k36]
  exact ⟨_, Nat.lt_succ_self _, _, k36 + 1, rest37, _, F58, rfl, eqA, hd42, entA, hF⟩

/-! laws.toCache -/
def l_toCache (a_a : Cache) : Option (Cache) :=
  (l_toStoredS a_a.Entries).bind fun r4 =>
  some ({ Entries := r4, Age := a_a.Age } : Cache)
theorem l_toCache_ok (a_a : Cache) (v0_0 : Sv) (R : Cache) (hF : l_toCache a_a = some R) :
    Fw.Spec Tryz.prog 30 [(.agg [v0_0.v, (.int .i64 a_a.Age)].toArray)] [crd (RdS 153 rd153) v0_0.v a_a.Entries] (fun p : Sv × List Nat => (.agg [p.1.v, (.int .i64 R.Age)].toArray)) (fun p => [cown (OwnS 156 ow156) p.2 p.1.v R.Entries]) := by
  refine Spec_enter (n := 12) Tryz.func30 rfl rfl (rs := [.cell 2 48]) rfl rfl rfl ?_
  intro H0 F0
  unfold l_toCache at hF
  refine au ?_
  refine AbR (fun k1 => ?_)
  refine AnW (fun k2 => ?_)
  iterate 2 refine au ?_
  refine AnW (fun k3 => ?_)
  iterate 4 refine au ?_
  obtain ⟨r4, hx5, hF⟩ := bind_some hF
  refine Cx1 (l_toStoredS_ok _ _ _ hx5) (fun p6 => ?_)
  refine au ?_
  refine As (.agg [p6.1.v, (.int .i64 0)].toArray) ?_
  iterate 5 refine au ?_
  refine As (.agg [p6.1.v, (.int .i64 a_a.Age)].toArray) ?_
  iterate 3 refine au ?_
  refine As (.agg [p6.1.v, (.int .i64 a_a.Age)].toArray) ?_
  iterate 2 refine au ?_
  cases hF
  exact Er (p6.1, p6.2)

/-! laws.toAccessS -/
def l_toAccessS_L1 : List Access → Nat → (List Access) → Option ((List Access))
  | [], k36, c31 => some c31
  | x38 :: rest37, k36, c31 => (l_toAccess x38).bind fun r48 =>
    (chk (decide (0 ≤ (k36 : Int)) && decide ((k36 : Int) < (c31.length : Int)))).bind fun u54 =>
    (some (c31.set ((k36 : Int)).toNat r48)).bind fun z56 =>
    l_toAccessS_L1 rest37 (k36 + 1) z56
def l_toAccessS (a_a : List Access) : Option ((List Access)) :=
  (mkz (a_a.length : Int) (({ Method := 0, Values := [] } : Access) : Access)).bind fun z1 =>
  l_toAccessS_L1 a_a 0 z1
theorem l_toAccessS_ok (a_a : List Access) (v0_0 : Sv) (R : (List Access)) (hF : l_toAccessS a_a = some R) :
    Fw.Spec Tryz.prog 31 [v0_0.v] [crd (RdS 108 rd108) v0_0.v a_a] (fun p : Sv × List Nat => p.1.v) (fun p => [cown (OwnS 124 ow124) p.2 p.1.v R]) := by
  refine Spec_enter (n := 23) Tryz.func31 rfl rfl (rs := [.tmp 2]) rfl rfl rfl ?_
  intro H0 F0
  unfold l_toAccessS at hF
  iterate 6 refine au ?_
  obtain ⟨z1, hx2, hF⟩ := bind_some hF
  have hm3 := mkz_some hx2
  refine C_new rfl (N_makeSlice (g := true) (c := (a_a.length : Int)) sl49.h ty124.h rfl rfl (by decide) (.tmp rfl rfl) hm3.2.1 hm3.2.2) (fun k4 => ?_)
  refine Cv1 (.cons .h .nil) (own_make (Ro := ow124) (E := 124) (a := (({ Method := 0, Values := [] } : Access) : Access)) hx2 (fun _ => ⟨⟨none, 0, 0⟩, [], rfl, rfl, .inl ⟨rfl, rfl, rfl⟩⟩)) ?_
  iterate 6 refine au ?_
  refine CW_block (CW_loop (m := a_a.length) (fun m34 f' cs' => ∃ (g : Fr) (k36 : Nat) (rest37 : List Access) (c31 : List Access) (F32 : List Nat), m34 = rest37.length ∧ f' = updL g [(0, v0_0.v), (3, (.slice (some ⟨k4, 0, none⟩) (a_a.length : Int).toNat 1)), (4, (.int .i64 (k36 : Int)))] ∧ List.drop k36 a_a = rest37 ∧ Ent cs' [crd (RdS 108 rd108) v0_0.v a_a, cown (OwnS 124 ow124) F32 (.slice (some ⟨k4, 0, none⟩) (a_a.length : Int).toNat 1) c31] ∧ l_toAccessS_L1 rest37 k36 c31 = some R) ⟨_, 0, _, _, [k4], rfl, eqA, rfl, entA, hF⟩ ?_)
  clear hF
  rintro m34 _ _ ⟨g35, k36, rest37, c31, F32, rfl, rfl, hd39, hE, hF⟩
  refine K_ent hE ?_
  clear hE
  refine K_pure (c := crd (RdS 108 rd108) v0_0.v a_a) .h crd_bound (fun hbd44 => ?_)
  rcases rest37 with _ | ⟨x38, rest37⟩
  · have hk40 := List.drop_eq_nil_iff.1 hd39
    rw [l_toAccessS_L1] at hF
    iterate 7 refine au ?_
    refine CdF ?_
    iterate 9 refine au ?_
    cases hF
    exact Er (⟨(some ⟨k4, 0, none⟩), (a_a.length : Int).toNat, 1⟩, F32)
  obtain ⟨hk40, hx41, hd42⟩ := drop_cons hd39
  rw [l_toAccessS_L1] at hF
  iterate 7 refine au ?_
  refine CdT ?_
  iterate 7 refine au ?_
  refine Ai hx41 (fun k45 j46 => ?_)
  refine AlA1 (ul108_0_108 x38) la108_0_108 (fun p47 => ?_)
  obtain ⟨r48, hx49, hF⟩ := bind_some hF
  refine Cx1 (l_toAccess_ok _ _ _ hx49) (fun p50 => ?_)
  obtain ⟨u54, hx55, hF⟩ := bind_some hF
  have hi53 := chk_some hx55
  refine C_idxO sl49.h ty124.h.sz (.tmp rfl rfl) (.tmp rfl rfl) (.t (.t (.t (.t .h)))) hi53 (fun k51 hk52 => ?_)
  obtain ⟨z56, hx57, hF⟩ := bind_some hF
  replace hx57 := Option.some.inj hx57
  refine C_x1 (.cons (.t (.t (.t (.t .h)))) (.cons .h .nil)) (X_storeO (Ro := ow124) (a := r48) (i := (k36 : Int)) ty124.h.sz rfl (.tmp rfl rfl) (.tmp rfl rfl) hk52 hi53 mk124 (fun _ _ _ _ h => by obtain ⟨_, _, rfl, rfl, _⟩ := h; rfl)) (fun F58 => ?_)
  rw [hx57]
  iterate 6 refine au ?_
  rw [wk k36]
  exact ⟨_, Nat.lt_succ_self _, _, k36 + 1, rest37, _, F58, rfl, eqA, hd42, entA, hF⟩

/-! laws.toIntSS -/
def l_toIntSS_L1 : List (List Int) → Nat → (List (List Int)) → Option ((List (List Int)))
  | [], k36, c31 => some c31
  | x38 :: rest37, k36, c31 => (l_toIntS x38).bind fun r48 =>
    (chk (decide (0 ≤ (k36 : Int)) && decide ((k36 : Int) < (c31.length : Int)))).bind fun u54 =>
    (some (c31.set ((k36 : Int)).toNat r48)).bind fun z56 =>
    l_toIntSS_L1 rest37 (k36 + 1) z56
def l_toIntSS (a_a : List (List Int)) : Option ((List (List Int))) :=
  (mkz (a_a.length : Int) ([] : List Int)).bind fun z1 =>
  l_toIntSS_L1 a_a 0 z1
theorem l_toIntSS_ok (a_a : List (List Int)) (v0_0 : Sv) (R : (List (List Int))) (hF : l_toIntSS a_a = some R) :
    Fw.Spec Tryz.prog 89 [v0_0.v] [crd (RdS 22 (RdS 3 rdInt)) v0_0.v a_a] (fun p : Sv × List Nat => p.1.v) (fun p => [cown (OwnS 22 (OwnS 3 (roE rdInt))) p.2 p.1.v R]) := by
  refine Spec_enter (n := 23) Tryz.func89 rfl rfl (rs := [.tmp 2]) rfl rfl rfl ?_
  intro H0 F0
  unfold l_toIntSS at hF
  iterate 6 refine au ?_
  obtain ⟨z1, hx2, hF⟩ := bind_some hF
  have hm3 := mkz_some hx2
  refine C_new rfl (N_makeSlice (g := true) (c := (a_a.length : Int)) sl110.h ty22.h rfl rfl (by decide) (.tmp rfl rfl) hm3.2.1 hm3.2.2) (fun k4 => ?_)
  refine Cv1 (.cons .h .nil) (own_make (Ro := (OwnS 3 (roE rdInt))) (E := 22) (a := ([] : List Int)) hx2 (fun _ => (.inl ⟨rfl, rfl, rfl⟩))) ?_
  iterate 6 refine au ?_
  refine CW_block (CW_loop (m := a_a.length) (fun m34 f' cs' => ∃ (g : Fr) (k36 : Nat) (rest37 : List (List Int)) (c31 : List (List Int)) (F32 : List Nat), m34 = rest37.length ∧ f' = updL g [(0, v0_0.v), (3, (.slice (some ⟨k4, 0, none⟩) (a_a.length : Int).toNat 1)), (4, (.int .i64 (k36 : Int)))] ∧ List.drop k36 a_a = rest37 ∧ Ent cs' [crd (RdS 22 (RdS 3 rdInt)) v0_0.v a_a, cown (OwnS 22 (OwnS 3 (roE rdInt))) F32 (.slice (some ⟨k4, 0, none⟩) (a_a.length : Int).toNat 1) c31] ∧ l_toIntSS_L1 rest37 k36 c31 = some R) ⟨_, 0, _, _, [k4], rfl, eqA, rfl, entA, hF⟩ ?_)
  clear hF
  rintro m34 _ _ ⟨g35, k36, rest37, c31, F32, rfl, rfl, hd39, hE, hF⟩
  refine K_ent hE ?_
  clear hE
  refine K_pure (c := crd (RdS 22 (RdS 3 rdInt)) v0_0.v a_a) .h crd_bound (fun hbd44 => ?_)
  rcases rest37 with _ | ⟨x38, rest37⟩
  · have hk40 := List.drop_eq_nil_iff.1 hd39
    rw [l_toIntSS_L1] at hF
    iterate 7 refine au ?_
    refine CdF ?_
    iterate 9 refine au ?_
    cases hF
    exact Er (⟨(some ⟨k4, 0, none⟩), (a_a.length : Int).toNat, 1⟩, F32)
  obtain ⟨hk40, hx41, hd42⟩ := drop_cons hd39
  rw [l_toIntSS_L1] at hF
  iterate 7 refine au ?_
  refine CdT ?_
  iterate 7 refine au ?_
  refine Ai hx41 (fun k45 j46 => ?_)
  refine C_ldV (R' := (RdS 3 rdInt)) ag22.h (.tmp rfl rfl) .h lv22_0 (fun w47 => ?_)
  obtain ⟨r48, hx49, hF⟩ := bind_some hF
  refine Cx1 (l_toIntS_ok _ _ _ hx49) (fun p50 => ?_)
  obtain ⟨u54, hx55, hF⟩ := bind_some hF
  have hi53 := chk_some hx55
  refine C_idxO sl110.h ty22.h.sz (.tmp rfl rfl) (.tmp rfl rfl) (.t (.t (.t (.t .h)))) hi53 (fun k51 hk52 => ?_)
  obtain ⟨z56, hx57, hF⟩ := bind_some hF
  replace hx57 := Option.some.inj hx57
  refine C_x1 (.cons (.t (.t (.t (.t .h)))) (.cons .h .nil)) (X_storeO (Ro := (OwnS 3 (roE rdInt))) (a := r48) (i := (k36 : Int)) ty22.h.sz rfl (.tmp rfl rfl) (.tmp rfl rfl) hk52 hi53 Mk_own (fun _ _ _ _ h => by obtain ⟨_, _, rfl⟩ := OwnS.len h; rfl)) (fun F58 => ?_)
  rw [hx57]
  iterate 6 refine au ?_
  rw [wk k36]
  exact ⟨_, Nat.lt_succ_self _, _, k36 + 1, rest37, _, F58, rfl, eqA, hd42, entA, hF⟩

/-! laws.toIntSSS -/
def l_toIntSSS_L1 : List (List (List Int)) → Nat → (List (List (List Int))) → Option ((List (List (List Int))))
  | [], k36, c31 => some c31
  | x38 :: rest37, k36, c31 => (l_toIntSS x38).bind fun r48 =>
    (chk (decide (0 ≤ (k36 : Int)) && decide ((k36 : Int) < (c31.length : Int)))).bind fun u54 =>
    (some (c31.set ((k36 : Int)).toNat r48)).bind fun z56 =>
    l_toIntSSS_L1 rest37 (k36 + 1) z56
def l_toIntSSS (a_a : List (List (List Int))) : Option ((List (List (List Int)))) :=
  (mkz (a_a.length : Int) ([] : List (List Int))).bind fun z1 =>
  l_toIntSSS_L1 a_a 0 z1
theorem l_toIntSSS_ok (a_a : List (List (List Int))) (v0_0 : Sv) (R : (List (List (List Int)))) (hF : l_toIntSSS a_a = some R) :
    Fw.Spec Tryz.prog 32 [v0_0.v] [crd (RdS 110 (RdS 22 (RdS 3 rdInt))) v0_0.v a_a] (fun p : Sv × List Nat => p.1.v) (fun p => [cown (OwnS 110 (OwnS 22 (OwnS 3 (roE rdInt)))) p.2 p.1.v R]) := by
  refine Spec_enter (n := 23) Tryz.func32 rfl rfl (rs := [.tmp 2]) rfl rfl rfl ?_
  intro H0 F0
  unfold l_toIntSSS at hF
  iterate 6 refine au ?_
  obtain ⟨z1, hx2, hF⟩ := bind_some hF
  have hm3 := mkz_some hx2
  refine C_new rfl (N_makeSlice (g := true) (c := (a_a.length : Int)) sl32.h ty110.h rfl rfl (by decide) (.tmp rfl rfl) hm3.2.1 hm3.2.2) (fun k4 => ?_)
  refine Cv1 (.cons .h .nil) (own_make (Ro := (OwnS 22 (OwnS 3 (roE rdInt)))) (E := 110) (a := ([] : List (List Int))) hx2 (fun _ => (.inl ⟨rfl, rfl, rfl⟩))) ?_
  iterate 6 refine au ?_
  refine CW_block (CW_loop (m := a_a.length) (fun m34 f' cs' => ∃ (g : Fr) (k36 : Nat) (rest37 : List (List (List Int))) (c31 : List (List (List Int))) (F32 : List Nat), m34 = rest37.length ∧ f' = updL g [(0, v0_0.v), (3, (.slice (some ⟨k4, 0, none⟩) (a_a.length : Int).toNat 1)), (4, (.int .i64 (k36 : Int)))] ∧ List.drop k36 a_a = rest37 ∧ Ent cs' [crd (RdS 110 (RdS 22 (RdS 3 rdInt))) v0_0.v a_a, cown (OwnS 110 (OwnS 22 (OwnS 3 (roE rdInt)))) F32 (.slice (some ⟨k4, 0, none⟩) (a_a.length : Int).toNat 1) c31] ∧ l_toIntSSS_L1 rest37 k36 c31 = some R) ⟨_, 0, _, _, [k4], rfl, eqA, rfl, entA, hF⟩ ?_)
  clear hF
  rintro m34 _ _ ⟨g35, k36, rest37, c31, F32, rfl, rfl, hd39, hE, hF⟩
  refine K_ent hE ?_
  clear hE
  refine K_pure (c := crd (RdS 110 (RdS 22 (RdS 3 rdInt))) v0_0.v a_a) .h crd_bound (fun hbd44 => ?_)
  rcases rest37 with _ | ⟨x38, rest37⟩
  · have hk40 := List.drop_eq_nil_iff.1 hd39
    rw [l_toIntSSS_L1] at hF
    iterate 7 refine au ?_
    refine CdF ?_
    iterate 9 refine au ?_
    cases hF
    exact Er (⟨(some ⟨k4, 0, none⟩), (a_a.length : Int).toNat, 1⟩, F32)
  obtain ⟨hk40, hx41, hd42⟩ := drop_cons hd39
  rw [l_toIntSSS_L1] at hF
  iterate 7 refine au ?_
  refine CdT ?_
  iterate 7 refine au ?_
  refine Ai hx41 (fun k45 j46 => ?_)
  refine C_ldV (R' := (RdS 22 (RdS 3 rdInt))) ag110.h (.tmp rfl rfl) .h lv110_0 (fun w47 => ?_)
  obtain ⟨r48, hx49, hF⟩ := bind_some hF
  refine Cx1 (l_toIntSS_ok _ _ _ hx49) (fun p50 => ?_)
  obtain ⟨u54, hx55, hF⟩ := bind_some hF
  have hi53 := chk_some hx55
  refine C_idxO sl32.h ty110.h.sz (.tmp rfl rfl) (.tmp rfl rfl) (.t (.t (.t (.t .h)))) hi53 (fun k51 hk52 => ?_)
  obtain ⟨z56, hx57, hF⟩ := bind_some hF
  replace hx57 := Option.some.inj hx57
  refine C_x1 (.cons (.t (.t (.t (.t .h)))) (.cons .h .nil)) (X_storeO (Ro := (OwnS 22 (OwnS 3 (roE rdInt)))) (a := r48) (i := (k36 : Int)) ty110.h.sz rfl (.tmp rfl rfl) (.tmp rfl rfl) hk52 hi53 Mk_own (fun _ _ _ _ h => by obtain ⟨_, _, rfl⟩ := OwnS.len h; rfl)) (fun F58 => ?_)
  rw [hx57]
  iterate 6 refine au ?_
  rw [wk k36]
  exact ⟨_, Nat.lt_succ_self _, _, k36 + 1, rest37, _, F58, rfl, eqA, hd42, entA, hF⟩

/-! laws.toMediator -/
def l_toMediator (a_a : Mediator) : Option (Mediator) :=
  (l_toIntS a_a.Schema).bind fun r4 =>
  (l_toMethodS a_a.Methods).bind fun r7 =>
  (l_toRuleS a_a.Rules).bind fun r10 =>
  (l_toSource a_a.Source).bind fun r13 =>
  (l_toCache a_a.Cache).bind fun r16 =>
  (l_toAccessS a_a.Log).bind fun r19 =>
  (l_toIntS a_a.Times).bind fun r22 =>
  (l_toIntSSS a_a.Results).bind fun r25 =>
  some ({ Schema := r4, Methods := r7, Rules := r10, Source := r13, Cache := r16, Now := a_a.Now, Log := r19, Times := r22, Spent := a_a.Spent, Results := r25 } : Mediator)
theorem l_toMediator_ok (a_a : Mediator) (v0_0 : Sv) (v0_1 : Sv) (v0_2 : Sv) (v0_3 : Sv) (v0_5 : Sv) (v0_8 : Sv) (v0_9 : Sv) (v0_11 : Sv) (R : Mediator) (hF : l_toMediator a_a = some R) :
    Fw.Spec Tryz.prog 7 [(.agg [v0_0.v, v0_1.v, v0_2.v, v0_3.v, (.int .i64 a_a.Source.Version), v0_5.v, (.int .i64 a_a.Cache.Age), (.int .i64 a_a.Now), v0_8.v, v0_9.v, (.int .i64 a_a.Spent), v0_11.v].toArray)] [crd (RdS 3 rdInt) v0_0.v a_a.Schema, crd (RdS 100 rd100) v0_1.v a_a.Methods, crd (RdS 103 rd103) v0_2.v a_a.Rules, crd (RdS 36 rd36) v0_3.v a_a.Source.Facts, crd (RdS 153 rd153) v0_5.v a_a.Cache.Entries, crd (RdS 108 rd108) v0_8.v a_a.Log, crd (RdS 3 rdInt) v0_9.v a_a.Times, crd (RdS 110 (RdS 22 (RdS 3 rdInt))) v0_11.v a_a.Results] (fun p : Sv × List Nat × Sv × List Nat × Sv × List Nat × Sv × List Nat × Sv × List Nat × Sv × List Nat × Sv × List Nat × Sv × List Nat => (.agg [p.1.v, p.2.2.1.v, p.2.2.2.2.1.v, p.2.2.2.2.2.2.1.v, (.int .i64 R.Source.Version), p.2.2.2.2.2.2.2.2.1.v, (.int .i64 R.Cache.Age), (.int .i64 R.Now), p.2.2.2.2.2.2.2.2.2.2.1.v, p.2.2.2.2.2.2.2.2.2.2.2.2.1.v, (.int .i64 R.Spent), p.2.2.2.2.2.2.2.2.2.2.2.2.2.2.1.v].toArray)) (fun p => [cown (OwnS 3 (roE rdInt)) p.2.1 p.1.v R.Schema, cown (OwnS 114 ow114) p.2.2.2.1 p.2.2.1.v R.Methods, cown (OwnS 116 ow116) p.2.2.2.2.2.1 p.2.2.2.2.1.v R.Rules, cown (OwnS 55 ow55) p.2.2.2.2.2.2.2.1 p.2.2.2.2.2.2.1.v R.Source.Facts, cown (OwnS 156 ow156) p.2.2.2.2.2.2.2.2.2.1 p.2.2.2.2.2.2.2.2.1.v R.Cache.Entries, cown (OwnS 124 ow124) p.2.2.2.2.2.2.2.2.2.2.2.1 p.2.2.2.2.2.2.2.2.2.2.1.v R.Log, cown (OwnS 3 (roE rdInt)) p.2.2.2.2.2.2.2.2.2.2.2.2.2.1 p.2.2.2.2.2.2.2.2.2.2.2.2.1.v R.Times, cown (OwnS 110 (OwnS 22 (OwnS 3 (roE rdInt)))) p.2.2.2.2.2.2.2.2.2.2.2.2.2.2.2 p.2.2.2.2.2.2.2.2.2.2.2.2.2.2.1.v R.Results]) := by
  refine Spec_enter (n := 43) Tryz.func7 rfl rfl (rs := [.cell 2 51]) rfl rfl rfl ?_
  intro H0 F0
  unfold l_toMediator at hF
  refine au ?_
  refine AbR (fun k1 => ?_)
  refine AnW (fun k2 => ?_)
  iterate 2 refine au ?_
  refine AnW (fun k3 => ?_)
  iterate 4 refine au ?_
  obtain ⟨r4, hx5, hF⟩ := bind_some hF
  refine Cx1 (l_toIntS_ok _ _ _ hx5) (fun p6 => ?_)
  refine au ?_
  refine As (.agg [p6.1.v, (.slice none 0 0), (.slice none 0 0), (.slice none 0 0), (.int .i64 0), (.slice none 0 0), (.int .i64 0), (.int .i64 0), (.slice none 0 0), (.slice none 0 0), (.int .i64 0), (.slice none 0 0)].toArray) ?_
  iterate 4 refine au ?_
  obtain ⟨r7, hx8, hF⟩ := bind_some hF
  refine Cx1 (l_toMethodS_ok _ _ _ hx8) (fun p9 => ?_)
  refine au ?_
  refine As (.agg [p6.1.v, p9.1.v, (.slice none 0 0), (.slice none 0 0), (.int .i64 0), (.slice none 0 0), (.int .i64 0), (.int .i64 0), (.slice none 0 0), (.slice none 0 0), (.int .i64 0), (.slice none 0 0)].toArray) ?_
  iterate 4 refine au ?_
  obtain ⟨r10, hx11, hF⟩ := bind_some hF
  refine Cx1 (l_toRuleS_ok _ _ _ hx11) (fun p12 => ?_)
  refine au ?_
  refine As (.agg [p6.1.v, p9.1.v, p12.1.v, (.slice none 0 0), (.int .i64 0), (.slice none 0 0), (.int .i64 0), (.int .i64 0), (.slice none 0 0), (.slice none 0 0), (.int .i64 0), (.slice none 0 0)].toArray) ?_
  iterate 3 refine au ?_
  refine C_at (.t (.t (.t (.t (.t .h))))) (fun hp => V_loadA (s := 2) (l := [v0_3.v, (.int .i64 a_a.Source.Version)]) ag27.h ty27.h.sz (.tmp rfl rfl) hp.2 rfl (by decide) (Nat.le_of_ble_eq_true rfl) rfl) ?_
  obtain ⟨r13, hx14, hF⟩ := bind_some hF
  refine Cx1 (l_toSource_ok _ _ _ hx14) (fun p15 => ?_)
  refine au ?_
  refine As (.agg [p6.1.v, p9.1.v, p12.1.v, p15.1.v, (.int .i64 r13.Version), (.slice none 0 0), (.int .i64 0), (.int .i64 0), (.slice none 0 0), (.slice none 0 0), (.int .i64 0), (.slice none 0 0)].toArray) ?_
  iterate 3 refine au ?_
  refine C_at (.t (.t (.t (.t (.t (.t .h)))))) (fun hp => V_loadA (s := 2) (l := [v0_5.v, (.int .i64 a_a.Cache.Age)]) ag30.h ty30.h.sz (.tmp rfl rfl) hp.2 rfl (by decide) (Nat.le_of_ble_eq_true rfl) rfl) ?_
  obtain ⟨r16, hx17, hF⟩ := bind_some hF
  refine Cx1 (l_toCache_ok _ _ _ hx17) (fun p18 => ?_)
  refine au ?_
  refine As (.agg [p6.1.v, p9.1.v, p12.1.v, p15.1.v, (.int .i64 r13.Version), p18.1.v, (.int .i64 r16.Age), (.int .i64 0), (.slice none 0 0), (.slice none 0 0), (.int .i64 0), (.slice none 0 0)].toArray) ?_
  iterate 5 refine au ?_
  refine As (.agg [p6.1.v, p9.1.v, p12.1.v, p15.1.v, (.int .i64 r13.Version), p18.1.v, (.int .i64 r16.Age), (.int .i64 a_a.Now), (.slice none 0 0), (.slice none 0 0), (.int .i64 0), (.slice none 0 0)].toArray) ?_
  iterate 4 refine au ?_
  obtain ⟨r19, hx20, hF⟩ := bind_some hF
  refine Cx1 (l_toAccessS_ok _ _ _ hx20) (fun p21 => ?_)
  refine au ?_
  refine As (.agg [p6.1.v, p9.1.v, p12.1.v, p15.1.v, (.int .i64 r13.Version), p18.1.v, (.int .i64 r16.Age), (.int .i64 a_a.Now), p21.1.v, (.slice none 0 0), (.int .i64 0), (.slice none 0 0)].toArray) ?_
  iterate 4 refine au ?_
  obtain ⟨r22, hx23, hF⟩ := bind_some hF
  refine Cx1 (l_toIntS_ok _ _ _ hx23) (fun p24 => ?_)
  refine au ?_
  refine As (.agg [p6.1.v, p9.1.v, p12.1.v, p15.1.v, (.int .i64 r13.Version), p18.1.v, (.int .i64 r16.Age), (.int .i64 a_a.Now), p21.1.v, p24.1.v, (.int .i64 0), (.slice none 0 0)].toArray) ?_
  iterate 5 refine au ?_
  refine As (.agg [p6.1.v, p9.1.v, p12.1.v, p15.1.v, (.int .i64 r13.Version), p18.1.v, (.int .i64 r16.Age), (.int .i64 a_a.Now), p21.1.v, p24.1.v, (.int .i64 a_a.Spent), (.slice none 0 0)].toArray) ?_
  iterate 4 refine au ?_
  obtain ⟨r25, hx26, hF⟩ := bind_some hF
  refine Cx1 (l_toIntSSS_ok _ _ _ hx26) (fun p27 => ?_)
  refine au ?_
  refine As (.agg [p6.1.v, p9.1.v, p12.1.v, p15.1.v, (.int .i64 r13.Version), p18.1.v, (.int .i64 r16.Age), (.int .i64 a_a.Now), p21.1.v, p24.1.v, (.int .i64 a_a.Spent), p27.1.v].toArray) ?_
  iterate 3 refine au ?_
  refine As (.agg [p6.1.v, p9.1.v, p12.1.v, p15.1.v, (.int .i64 r13.Version), p18.1.v, (.int .i64 r16.Age), (.int .i64 a_a.Now), p21.1.v, p24.1.v, (.int .i64 a_a.Spent), p27.1.v].toArray) ?_
  iterate 2 refine au ?_
  cases hF
  exact Er (p6.1, p6.2, p9.1, p9.2, p12.1, p12.2, p15.1, p15.2, p18.1, p18.2, p21.1, p21.2, p24.1, p24.2, p27.1, p27.2)

/-! laws.toChange -/
def l_toChange (a_a : Change) : Option (Change) :=
  (l_toFact a_a.Fact).bind fun r4 =>
  some ({ Add := a_a.Add, Fact := r4 } : Change)
theorem l_toChange_ok (a_a : Change) (v0_2 : Sv) (R : Change) (hF : l_toChange a_a = some R) :
    Fw.Spec Tryz.prog 8 [(.agg [(.bool a_a.Add), (.int .i64 a_a.Fact.Rel), v0_2.v].toArray)] [crd (RdS 3 rdInt) v0_2.v a_a.Fact.Values] (fun p : Sv × List Nat => (.agg [(.bool R.Add), (.int .i64 R.Fact.Rel), p.1.v].toArray)) (fun p => [cown (OwnS 3 (roE rdInt)) p.2 p.1.v R.Fact.Values]) := by
  refine Spec_enter (n := 12) Tryz.func8 rfl rfl (rs := [.cell 2 57]) rfl rfl rfl ?_
  intro H0 F0
  unfold l_toChange at hF
  refine au ?_
  refine AbR (fun k1 => ?_)
  refine AnW (fun k2 => ?_)
  iterate 2 refine au ?_
  refine AnW (fun k3 => ?_)
  iterate 5 refine au ?_
  refine As (.agg [(.bool a_a.Add), (.int .i64 0), (.slice none 0 0)].toArray) ?_
  iterate 3 refine au ?_
  refine C_at (.t (.t .h)) (fun hp => V_loadA (s := 2) (l := [(.int .i64 a_a.Fact.Rel), v0_2.v]) ag36.h ty36.h.sz (.tmp rfl rfl) hp.2 rfl (by decide) (Nat.le_of_ble_eq_true rfl) rfl) ?_
  obtain ⟨r4, hx5, hF⟩ := bind_some hF
  refine Cx1 (l_toFact_ok _ _ _ hx5) (fun p6 => ?_)
  refine au ?_
  refine As (.agg [(.bool a_a.Add), (.int .i64 r4.Rel), p6.1.v].toArray) ?_
  iterate 3 refine au ?_
  refine As (.agg [(.bool a_a.Add), (.int .i64 r4.Rel), p6.1.v].toArray) ?_
  iterate 2 refine au ?_
  cases hF
  exact Er (p6.1, p6.2)

/-! spec.l2One -/
def s_l2One (a_rel : Int) (a_values : List Int) : Option (Fact) :=
  (app ([] : List Int) a_values).bind fun z3 =>
  some ({ Rel := a_rel, Values := z3 } : Fact)
theorem s_l2One_ok (a_rel : Int) (a_values : List Int) (v1_0 : Sv) (R : Fact) (hF : s_l2One a_rel a_values = some R) :
    Fw.Spec Tryz.prog 83 [(.int .i64 a_rel), v1_0.v] [crd (RdS 3 rdInt) v1_0.v a_values] (fun p : Sv × List Nat => (.agg [(.int .i64 R.Rel), p.1.v].toArray)) (fun p => [cown (OwnS 3 (roE rdInt)) p.2 p.1.v R.Values]) := by
  refine Spec_enter (n := 10) Tryz.func83 rfl rfl (rs := [.cell 4 55]) rfl rfl rfl ?_
  intro H0 F0
  unfold s_l2One at hF
  refine au ?_
  refine AnW (fun k1 => ?_)
  iterate 3 refine au ?_
  refine C_new rfl (N_buildSliceT (g := true) sl22.h ty3.h .nil (vs := []) rfl rfl rfl (by simp)) (fun k2 => ?_)
  refine Cv1 (.cons .h .nil) (own_lit (Ro := (roE rdInt)) (E := 3) (F := []) (xs := ([] : List Int)) MkL_nil rfl rfl) ?_
  refine au ?_
  obtain ⟨z3, hx4, hF⟩ := bind_some hF
  refine C_x1 (.cons .h (.rd (.t .h) rfl .nil)) (X_appendO (Ro := (roE rdInt)) sl22.h ni22 ty3.h rfl rfl rfl (.tmp rfl rfl) (.tmp rfl rfl) hx4 src_rd) (fun p5 => ?_)
  refine C_val (V_build ty55.h rfl (vs := [(.int .i64 a_rel), p5.1.v]) (.cons (.tmp rfl rfl) (.cons (.tmp rfl rfl) .nil)) (cells := [(.int .i64 a_rel), p5.1.v]) rfl) ?_
  refine As (.agg [(.int .i64 a_rel), p5.1.v].toArray) ?_
  iterate 2 refine au ?_
  cases hF
  exact Er (p5.1, p5.2)

/-! spec.l2Copy -/
def s_l2Copy_L1 : List Fact → Nat → (List Fact) → Option ((List Fact))
  | [], k8, c2 => some c2
  | x10 :: rest9, k8, c2 => (s_l2One x10.Rel x10.Values).bind fun r22 =>
    (app c2 ([r22] : List Fact)).bind fun z26 =>
    s_l2Copy_L1 rest9 (k8 + 1) z26
def s_l2Copy (a_l : List Fact) : Option ((List Fact)) :=
  s_l2Copy_L1 a_l 0 ([] : List Fact)
theorem s_l2Copy_ok (a_l : List Fact) (v0_0 : Sv) (R : (List Fact)) (hF : s_l2Copy a_l = some R) :
    Fw.Spec Tryz.prog 126 [v0_0.v] [crd (RdS 55 rd55) v0_0.v a_l] (fun p : Sv × List Nat => p.1.v) (fun p => [cown (OwnS 55 ow55) p.2 p.1.v R]) := by
  refine Spec_enter (n := 27) Tryz.func126 rfl rfl (rs := [.tmp 2]) rfl rfl rfl ?_
  intro H0 F0
  unfold s_l2Copy at hF
  iterate 4 refine au ?_
  refine C_new rfl (N_buildSliceT (g := true) sl43.h ty55.h .nil (vs := []) rfl rfl rfl (by simp)) (fun k1 => ?_)
  refine Cv1 (.cons .h .nil) (own_lit (Ro := ow55) (E := 55) (F := []) (xs := ([] : List Fact)) MkL_nil rfl rfl) ?_
  iterate 6 refine au ?_
  refine CW_block (CW_loop (m := a_l.length) (fun m6 f' cs' => ∃ (g : Fr) (k8 : Nat) (rest9 : List Fact) (c2 : List Fact) (v3 : Sv) (F4 : List Nat), m6 = rest9.length ∧ f' = updL g [(0, v0_0.v), (3, v3.v), (4, (.int .i64 (k8 : Int)))] ∧ List.drop k8 a_l = rest9 ∧ Ent cs' [crd (RdS 55 rd55) v0_0.v a_l, cown (OwnS 55 ow55) F4 v3.v c2] ∧ s_l2Copy_L1 rest9 k8 c2 = some R) ⟨_, 0, _, _, ⟨(some ⟨k1, 0, none⟩), 0, 1⟩, (k1 :: []), rfl, eqA, rfl, entA, hF⟩ ?_)
  clear hF
  rintro m6 _ _ ⟨g7, k8, rest9, c2, v3, F4, rfl, rfl, hd11, hE, hF⟩
  refine K_ent hE ?_
  clear hE
  refine K_pure (c := crd (RdS 55 rd55) v0_0.v a_l) .h crd_bound (fun hbd16 => ?_)
  rcases rest9 with _ | ⟨x10, rest9⟩
  · have hk12 := List.drop_eq_nil_iff.1 hd11
    rw [s_l2Copy_L1] at hF
    iterate 7 refine au ?_
    refine CdF ?_
    iterate 9 refine au ?_
    cases hF
    exact Er (v3, F4)
  obtain ⟨hk12, hx13, hd14⟩ := drop_cons hd11
  rw [s_l2Copy_L1] at hF
  iterate 7 refine au ?_
  refine CdT ?_
  iterate 2 refine au ?_
  refine CW_draw [0, 1, 2, 3, 4, 5, 6, 7, 8, 9, 10, 11, 12, 13, 14] [0, 0, 0, 6, 14, 30, 0, 0, 192, 448, 960, 2046, 4094, 8191, 16383] [11, 13] mixed (by decide +kernel) ?_
  iterate 3 refine du ?_
  refine Di hx13 (fun k17 j18 => ?_)
  refine du ?_
  refine Dl ls55_0 ?_
  iterate 2 refine du ?_
  refine Di hx13 (fun k19 j20 => ?_)
  refine du ?_
  refine D_ldV (R' := (RdS 3 rdInt)) ag22.h rfl .no (.tmp rfl rfl) rfl .h lv55_1 (fun w21 => ?_)
  obtain ⟨r22, hx23, hF⟩ := bind_some hF
  refine Dx1 (s_l2One_ok _ _ _ _ hx23) (fun p24 => ?_)
  refine D_new rfl .no rfl (fun ha => N_buildSliceT (g := true) (len := 1) (parts := [(0, .tmp 23)]) sl43.h ty55.h (.cons (EN ha (.tmp rfl rfl) rfl) .nil) (vs := [(.agg [(.int .i64 r22.Rel), p24.1.v].toArray)]) rfl rfl rfl (by intro v hv; simp at hv; rcases hv with rfl <;> rfl)) (fun k25 => ?_)
  refine Dv1 (.cons .h (.cons .h .nil)) (own_lit (Ro := ow55) (E := 55) (F := (p24.2 ++ [])) (xs := ([r22] : List Fact)) (MkL_cons mk55 MkL_nil apps) rfl rfl) ?_
  obtain ⟨z26, hx27, hF⟩ := bind_some hF
  refine D_act1 rfl rfl .no (.cons (.t (.t (.t (.t (.t .h))))) (.cons .h .nil)) (.dep rfl .nil) (fun ha => X_appendO (Ro := ow55) sl43.h ni43 ty55.h rfl rfl rfl (EN ha (.tmp rfl rfl) rfl) (EN ha (.tmp rfl rfl) rfl) hx27 src_own) (fun p28 => ?_)
  iterate 2 refine du ?_
  iterate 5 refine au ?_
  rw [wk k8]
  exact ⟨_, Nat.lt_succ_self _, _, k8 + 1, rest9, _, p28.1, p28.2, rfl, eqA, hd14, entA, hF⟩

/-! spec.l25Copy -/
def s_l25Copy (a_x : Source) : Option (Source) :=
  (s_l2Copy a_x.Facts).bind fun r3 =>
  some ({ Facts := r3, Version := a_x.Version } : Source)
theorem s_l25Copy_ok (a_x : Source) (v0_0 : Sv) (R : Source) (hF : s_l25Copy a_x = some R) :
    Fw.Spec Tryz.prog 66 [(.agg [v0_0.v, (.int .i64 a_x.Version)].toArray)] [crd (RdS 55 rd55) v0_0.v a_x.Facts] (fun p : Sv × List Nat => (.agg [p.1.v, (.int .i64 R.Version)].toArray)) (fun p => [cown (OwnS 55 ow55) p.2 p.1.v R.Facts]) := by
  refine Spec_enter (n := 9) Tryz.func66 rfl rfl (rs := [.cell 2 45]) rfl rfl rfl ?_
  intro H0 F0
  unfold s_l25Copy at hF
  refine au ?_
  refine AbR (fun k1 => ?_)
  refine AnW (fun k2 => ?_)
  refine au ?_
  refine K_draw [0, 1, 3, 4, 2, 5, 6] [0, 1, 3, 0, 8, 31, 63] [2, 6] mixed (by decide +kernel) ?_
  iterate 4 refine du ?_
  obtain ⟨r3, hx4, hF⟩ := bind_some hF
  refine Dx1 (s_l2Copy_ok _ _ _ hx4) (fun p5 => ?_)
  refine D_val rfl .no (fun ha => V_build ty45.h rfl (vs := [p5.1.v, (.int .i64 a_x.Version)]) (.cons (EN ha (.tmp rfl rfl) rfl) (.cons (EN ha (.tmp rfl rfl) rfl) .nil)) (cells := [p5.1.v, (.int .i64 a_x.Version)]) rfl) ?_
  refine D_act1 rfl rfl .no (.cons (.t .h) .nil) .nil (fun ha => X_storeB (e' := (.agg [p5.1.v, (.int .i64 a_x.Version)].toArray)) (v := (.agg [p5.1.v, (.int .i64 a_x.Version)].toArray)) ty45.h.sz (EN ha (.tmp rfl rfl) rfl) (EN ha (.tmp rfl rfl) rfl) rfl rfl rfl rfl rfl) (fun _ => ?_)
  refine du ?_
  refine au ?_
  cases hF
  exact Er (p5.1, p5.2)

/-! spec.l8Access -/
def s_l8Access (a_m : Int) (a_values : List Int) : Option (Access) :=
  (app ([] : List Int) a_values).bind fun z3 =>
  some ({ Method := a_m, Values := z3 } : Access)
theorem s_l8Access_ok (a_m : Int) (a_values : List Int) (v1_0 : Sv) (R : Access) (hF : s_l8Access a_m a_values = some R) :
    Fw.Spec Tryz.prog 128 [(.int .i64 a_m), v1_0.v] [crd (RdS 3 rdInt) v1_0.v a_values] (fun p : Sv × List Nat => (.agg [(.int .i64 R.Method), p.1.v].toArray)) (fun p => [cown (OwnS 3 (roE rdInt)) p.2 p.1.v R.Values]) := by
  refine Spec_enter (n := 10) Tryz.func128 rfl rfl (rs := [.cell 4 124]) rfl rfl rfl ?_
  intro H0 F0
  unfold s_l8Access at hF
  refine au ?_
  refine AnW (fun k1 => ?_)
  iterate 3 refine au ?_
  refine C_new rfl (N_buildSliceT (g := true) sl22.h ty3.h .nil (vs := []) rfl rfl rfl (by simp)) (fun k2 => ?_)
  refine Cv1 (.cons .h .nil) (own_lit (Ro := (roE rdInt)) (E := 3) (F := []) (xs := ([] : List Int)) MkL_nil rfl rfl) ?_
  refine au ?_
  obtain ⟨z3, hx4, hF⟩ := bind_some hF
  refine C_x1 (.cons .h (.rd (.t .h) rfl .nil)) (X_appendO (Ro := (roE rdInt)) sl22.h ni22 ty3.h rfl rfl rfl (.tmp rfl rfl) (.tmp rfl rfl) hx4 src_rd) (fun p5 => ?_)
  refine C_val (V_build ty124.h rfl (vs := [(.int .i64 a_m), p5.1.v]) (.cons (.tmp rfl rfl) (.cons (.tmp rfl rfl) .nil)) (cells := [(.int .i64 a_m), p5.1.v]) rfl) ?_
  refine As (.agg [(.int .i64 a_m), p5.1.v].toArray) ?_
  iterate 2 refine au ?_
  cases hF
  exact Er (p5.1, p5.2)

/-! spec.l22Entry -/
def s_l22Entry (a_e : Stored) : Option (Stored) :=
  (s_l8Access a_e.Access.Method a_e.Access.Values).bind fun r3 =>
  (s_l2Copy a_e.Facts).bind fun r6 =>
  some ({ Access := r3, Facts := r6, At := a_e.At } : Stored)
theorem s_l22Entry_ok (a_e : Stored) (v0_1 : Sv) (v0_2 : Sv) (R : Stored) (hF : s_l22Entry a_e = some R) :
    Fw.Spec Tryz.prog 127 [(.agg [(.int .i64 a_e.Access.Method), v0_1.v, v0_2.v, (.int .i64 a_e.At)].toArray)] [crd (RdS 3 rdInt) v0_1.v a_e.Access.Values, crd (RdS 55 rd55) v0_2.v a_e.Facts] (fun p : Sv × List Nat × Sv × List Nat => (.agg [(.int .i64 R.Access.Method), p.1.v, p.2.2.1.v, (.int .i64 R.At)].toArray)) (fun p => [cown (OwnS 3 (roE rdInt)) p.2.1 p.1.v R.Access.Values, cown (OwnS 55 ow55) p.2.2.2 p.2.2.1.v R.Facts]) := by
  refine Spec_enter (n := 16) Tryz.func127 rfl rfl (rs := [.cell 2 156]) rfl rfl rfl ?_
  intro H0 F0
  unfold s_l22Entry at hF
  refine au ?_
  refine AbR (fun k1 => ?_)
  refine AnW (fun k2 => ?_)
  refine au ?_
  refine K_draw [0, 1, 2, 3, 4, 5, 7, 8, 10, 11, 6, 9, 12, 13] [0, 1, 3, 0, 8, 24, 63, 0, 128, 511, 0, 1024, 4095, 8191] [6, 9, 13] mixed (by decide +kernel) ?_
  iterate 10 refine du ?_
  obtain ⟨r3, hx4, hF⟩ := bind_some hF
  refine Dx1 (s_l8Access_ok _ _ _ _ hx4) (fun p5 => ?_)
  obtain ⟨r6, hx7, hF⟩ := bind_some hF
  refine Dx1 (s_l2Copy_ok _ _ _ hx7) (fun p8 => ?_)
  refine D_val rfl .no (fun ha => V_build ty156.h rfl (vs := [(.agg [(.int .i64 r3.Method), p5.1.v].toArray), p8.1.v, (.int .i64 a_e.At)]) (.cons (EN ha (.tmp rfl rfl) rfl) (.cons (EN ha (.tmp rfl rfl) rfl) (.cons (EN ha (.tmp rfl rfl) rfl) .nil))) (cells := [(.int .i64 r3.Method), p5.1.v, p8.1.v, (.int .i64 a_e.At)]) rfl) ?_
  refine D_act1 rfl rfl .no (.cons (.t (.t .h)) .nil) .nil (fun ha => X_storeB (e' := (.agg [(.int .i64 r3.Method), p5.1.v, p8.1.v, (.int .i64 a_e.At)].toArray)) (v := (.agg [(.int .i64 r3.Method), p5.1.v, p8.1.v, (.int .i64 a_e.At)].toArray)) ty156.h.sz (EN ha (.tmp rfl rfl) rfl) (EN ha (.tmp rfl rfl) rfl) rfl rfl rfl rfl rfl) (fun _ => ?_)
  refine du ?_
  refine au ?_
  cases hF
  exact Er (p5.1, p5.2, p8.1, p8.2)

/-! spec.l22Copy -/
def s_l22Copy_L1 (a_c : Cache) : List Stored → Nat → (List Stored) → Option (Cache)
  | [], k33, c27 => some ({ Entries := c27, Age := a_c.Age } : Cache)
  | x35 :: rest34, k33, c27 => (s_l22Entry x35).bind fun r45 =>
    (app c27 ([r45] : List Stored)).bind fun z50 =>
    s_l22Copy_L1 a_c rest34 (k33 + 1) z50
def s_l22Copy (a_c : Cache) : Option (Cache) :=
  s_l22Copy_L1 a_c a_c.Entries 0 ([] : List Stored)
theorem s_l22Copy_ok (a_c : Cache) (v0_0 : Sv) (R : Cache) (hF : s_l22Copy a_c = some R) :
    Fw.Spec Tryz.prog 67 [(.agg [v0_0.v, (.int .i64 a_c.Age)].toArray)] [crd (RdS 156 rd156) v0_0.v a_c.Entries] (fun p : Sv × List Nat => (.agg [p.1.v, (.int .i64 R.Age)].toArray)) (fun p => [cown (OwnS 156 ow156) p.2 p.1.v R.Entries]) := by
  refine Spec_enter (n := 29) Tryz.func67 rfl rfl (rs := [.cell 2 48]) rfl rfl rfl ?_
  intro H0 F0
  unfold s_l22Copy at hF
  refine au ?_
  refine AbR (fun k1 => ?_)
  refine AnW (fun k2 => ?_)
  iterate 4 refine au ?_
  refine C_val (V_build ty48.h rfl (vs := [(.int .i64 a_c.Age)]) (.cons (.tmp rfl rfl) .nil) (cells := [(.slice none 0 0), (.int .i64 a_c.Age)]) rfl) ?_
  refine AnW (fun k3 => ?_)
  refine As (.agg [(.slice none 0 0), (.int .i64 a_c.Age)].toArray) ?_
  iterate 5 refine au ?_
  refine CW_block (CW_loop (m := a_c.Entries.length) (fun m31 f' cs' => ∃ (g : Fr) (k33 : Nat) (rest34 : List Stored) (c27 : List Stored) (v28 : Sv) (F29 : List Nat), m31 = rest34.length ∧ f' = updL g [(1, (.pointer (some ⟨k1, 0, some 0⟩))), (2, (.pointer (some ⟨k2, 0, some 0⟩))), (3, (.pointer (some ⟨k3, 0, some 0⟩))), (4, (.int .i64 (k33 : Int)))] ∧ List.drop k33 a_c.Entries = rest34 ∧ Ent cs' [cboR k1 48 (.agg [v0_0.v, (.int .i64 a_c.Age)].toArray), crd (RdS 156 rd156) v0_0.v a_c.Entries, cbox k2 48 (.agg [(.slice none 0 0), (.int .i64 0)].toArray), cbox k3 48 (.agg [v28.v, (.int .i64 a_c.Age)].toArray), cown (OwnS 156 ow156) F29 v28.v c27] ∧ s_l22Copy_L1 a_c rest34 k33 c27 = some R) ⟨_, 0, _, _, ⟨none, 0, 0⟩, [], rfl, eqA, rfl, (.conv .nil (own_nil (Ro := ow156) (E := 156)) (.cons .nil) entA), hF⟩ ?_)
  clear hF
  rintro m31 _ _ ⟨g32, k33, rest34, c27, v28, F29, rfl, rfl, hd36, hE, hF⟩
  refine K_ent hE ?_
  clear hE
  refine K_pure (c := crd (RdS 156 rd156) v0_0.v a_c.Entries) (.t .h) crd_bound (fun hbd41 => ?_)
  rcases rest34 with _ | ⟨x35, rest34⟩
  · have hk37 := List.drop_eq_nil_iff.1 hd36
    rw [s_l22Copy_L1] at hF
    iterate 8 refine au ?_
    refine CdF ?_
    iterate 6 refine au ?_
    refine As (.agg [v28.v, (.int .i64 a_c.Age)].toArray) ?_
    iterate 2 refine au ?_
    cases hF
    exact Er (v28, F29)
  obtain ⟨hk37, hx38, hd39⟩ := drop_cons hd36
  rw [s_l22Copy_L1] at hF
  iterate 8 refine au ?_
  refine CdT ?_
  iterate 6 refine au ?_
  refine Ai hx38 (fun k42 j43 => ?_)
  refine AlA2 (ul156_0_156 x35) la156_0_156 (fun p44 => ?_)
  obtain ⟨r45, hx46, hF⟩ := bind_some hF
  refine Cx2 (s_l22Entry_ok _ _ _ _ hx46) (fun p47 => ?_)
  refine AnW (fun k48 => ?_)
  refine As (.agg [(.int .i64 r45.Access.Method), p47.1.v, p47.2.2.1.v, (.int .i64 r45.At)].toArray) ?_
  iterate 5 refine au ?_
  refine C_new rfl (N_buildSliceT (g := true) sl46.h ty156.h (.cons (.tmp rfl rfl) .nil) (vs := [(.agg [(.int .i64 r45.Access.Method), p47.1.v, p47.2.2.1.v, (.int .i64 r45.At)].toArray)]) rfl rfl rfl (by intro v hv; simp at hv; rcases hv with rfl <;> rfl)) (fun k49 => ?_)
  refine Cv1 (.cons .h (.cons (.t .h) (.cons (.t .h) .nil))) (own_lit (Ro := ow156) (E := 156) (F := ((p47.2.1 ++ p47.2.2.2) ++ [])) (xs := ([r45] : List Stored)) (MkL_cons mk156 MkL_nil apps) rfl rfl) ?_
  obtain ⟨z50, hx51, hF⟩ := bind_some hF
  refine C_x1 (.cons (.t (.t (.t (.t (.t (.t (.t (.t (.t .h))))))))) (.cons .h .nil)) (X_appendO (Ro := ow156) sl46.h ni46 ty156.h rfl rfl rfl (.tmp rfl rfl) (.tmp rfl rfl) hx51 src_own) (fun p52 => ?_)
  refine au ?_
  refine As (.agg [p52.1.v, (.int .i64 a_c.Age)].toArray) ?_
  iterate 6 refine au ?_
  rw [wk k33]
  exact ⟨_, Nat.lt_succ_self _, _, k33 + 1, rest34, _, p52.1, p52.2, rfl, eqA, hd39, entA, hF⟩

/-! spec.l8Log -/
def s_l8Log_L1 : List Access → Nat → (List Access) → Option ((List Access))
  | [], k8, c2 => some c2
  | x10 :: rest9, k8, c2 => (s_l8Access x10.Method x10.Values).bind fun r22 =>
    (app c2 ([r22] : List Access)).bind fun z26 =>
    s_l8Log_L1 rest9 (k8 + 1) z26
def s_l8Log (a_l : List Access) : Option ((List Access)) :=
  s_l8Log_L1 a_l 0 ([] : List Access)
theorem s_l8Log_ok (a_l : List Access) (v0_0 : Sv) (R : (List Access)) (hF : s_l8Log a_l = some R) :
    Fw.Spec Tryz.prog 68 [v0_0.v] [crd (RdS 124 rd124) v0_0.v a_l] (fun p : Sv × List Nat => p.1.v) (fun p => [cown (OwnS 124 ow124) p.2 p.1.v R]) := by
  refine Spec_enter (n := 27) Tryz.func68 rfl rfl (rs := [.tmp 2]) rfl rfl rfl ?_
  intro H0 F0
  unfold s_l8Log at hF
  iterate 4 refine au ?_
  refine C_new rfl (N_buildSliceT (g := true) sl49.h ty124.h .nil (vs := []) rfl rfl rfl (by simp)) (fun k1 => ?_)
  refine Cv1 (.cons .h .nil) (own_lit (Ro := ow124) (E := 124) (F := []) (xs := ([] : List Access)) MkL_nil rfl rfl) ?_
  iterate 6 refine au ?_
  refine CW_block (CW_loop (m := a_l.length) (fun m6 f' cs' => ∃ (g : Fr) (k8 : Nat) (rest9 : List Access) (c2 : List Access) (v3 : Sv) (F4 : List Nat), m6 = rest9.length ∧ f' = updL g [(0, v0_0.v), (3, v3.v), (4, (.int .i64 (k8 : Int)))] ∧ List.drop k8 a_l = rest9 ∧ Ent cs' [crd (RdS 124 rd124) v0_0.v a_l, cown (OwnS 124 ow124) F4 v3.v c2] ∧ s_l8Log_L1 rest9 k8 c2 = some R) ⟨_, 0, _, _, ⟨(some ⟨k1, 0, none⟩), 0, 1⟩, (k1 :: []), rfl, eqA, rfl, entA, hF⟩ ?_)
  clear hF
  rintro m6 _ _ ⟨g7, k8, rest9, c2, v3, F4, rfl, rfl, hd11, hE, hF⟩
  refine K_ent hE ?_
  clear hE
  refine K_pure (c := crd (RdS 124 rd124) v0_0.v a_l) .h crd_bound (fun hbd16 => ?_)
  rcases rest9 with _ | ⟨x10, rest9⟩
  · have hk12 := List.drop_eq_nil_iff.1 hd11
    rw [s_l8Log_L1] at hF
    iterate 7 refine au ?_
    refine CdF ?_
    iterate 9 refine au ?_
    cases hF
    exact Er (v3, F4)
  obtain ⟨hk12, hx13, hd14⟩ := drop_cons hd11
  rw [s_l8Log_L1] at hF
  iterate 7 refine au ?_
  refine CdT ?_
  iterate 2 refine au ?_
  refine CW_draw [0, 1, 2, 3, 4, 5, 6, 7, 8, 9, 10, 11, 12, 13, 14] [0, 0, 0, 6, 14, 30, 0, 0, 192, 448, 960, 2046, 4094, 8191, 16383] [11, 13] mixed (by decide +kernel) ?_
  iterate 3 refine du ?_
  refine Di hx13 (fun k17 j18 => ?_)
  refine du ?_
  refine Dl ls124_0 ?_
  iterate 2 refine du ?_
  refine Di hx13 (fun k19 j20 => ?_)
  refine du ?_
  refine D_ldV (R' := (RdS 3 rdInt)) ag22.h rfl .no (.tmp rfl rfl) rfl .h lv124_1 (fun w21 => ?_)
  obtain ⟨r22, hx23, hF⟩ := bind_some hF
  refine Dx1 (s_l8Access_ok _ _ _ _ hx23) (fun p24 => ?_)
  refine D_new rfl .no rfl (fun ha => N_buildSliceT (g := true) (len := 1) (parts := [(0, .tmp 23)]) sl49.h ty124.h (.cons (EN ha (.tmp rfl rfl) rfl) .nil) (vs := [(.agg [(.int .i64 r22.Method), p24.1.v].toArray)]) rfl rfl rfl (by intro v hv; simp at hv; rcases hv with rfl <;> rfl)) (fun k25 => ?_)
  refine Dv1 (.cons .h (.cons .h .nil)) (own_lit (Ro := ow124) (E := 124) (F := (p24.2 ++ [])) (xs := ([r22] : List Access)) (MkL_cons mk124 MkL_nil apps) rfl rfl) ?_
  obtain ⟨z26, hx27, hF⟩ := bind_some hF
  refine D_act1 rfl rfl .no (.cons (.t (.t (.t (.t (.t .h))))) (.cons .h .nil)) (.dep rfl .nil) (fun ha => X_appendO (Ro := ow124) sl49.h ni49 ty124.h rfl rfl rfl (EN ha (.tmp rfl rfl) rfl) (EN ha (.tmp rfl rfl) rfl) hx27 src_own) (fun p28 => ?_)
  iterate 2 refine du ?_
  iterate 5 refine au ?_
  rw [wk k8]
  exact ⟨_, Nat.lt_succ_self _, _, k8 + 1, rest9, _, p28.1, p28.2, rfl, eqA, hd14, entA, hF⟩

/-! spec.l32Tuples -/
def s_l32Tuples_L1 : List (List Int) → Nat → (List (List Int)) → Option ((List (List Int)))
  | [], k8, c2 => some c2
  | x10 :: rest9, k8, c2 => (app ([] : List Int) x10).bind fun z21 =>
    (app c2 ([z21] : List (List Int))).bind fun z25 =>
    s_l32Tuples_L1 rest9 (k8 + 1) z25
def s_l32Tuples (a_l : List (List Int)) : Option ((List (List Int))) :=
  s_l32Tuples_L1 a_l 0 ([] : List (List Int))
theorem s_l32Tuples_ok (a_l : List (List Int)) (v0_0 : Sv) (R : (List (List Int))) (hF : s_l32Tuples a_l = some R) :
    Fw.Spec Tryz.prog 70 [v0_0.v] [crd (RdS 22 (RdS 3 rdInt)) v0_0.v a_l] (fun p : Sv × List Nat => p.1.v) (fun p => [cown (OwnS 22 (OwnS 3 (roE rdInt))) p.2 p.1.v R]) := by
  refine Spec_enter (n := 22) Tryz.func70 rfl rfl (rs := [.tmp 2]) rfl rfl rfl ?_
  intro H0 F0
  unfold s_l32Tuples at hF
  iterate 4 refine au ?_
  refine C_new rfl (N_buildSliceT (g := true) sl110.h ty22.h .nil (vs := []) rfl rfl rfl (by simp)) (fun k1 => ?_)
  refine Cv1 (.cons .h .nil) (own_lit (Ro := (OwnS 3 (roE rdInt))) (E := 22) (F := []) (xs := ([] : List (List Int))) MkL_nil rfl rfl) ?_
  iterate 6 refine au ?_
  refine CW_block (CW_loop (m := a_l.length) (fun m6 f' cs' => ∃ (g : Fr) (k8 : Nat) (rest9 : List (List Int)) (c2 : List (List Int)) (v3 : Sv) (F4 : List Nat), m6 = rest9.length ∧ f' = updL g [(0, v0_0.v), (3, v3.v), (4, (.int .i64 (k8 : Int)))] ∧ List.drop k8 a_l = rest9 ∧ Ent cs' [crd (RdS 22 (RdS 3 rdInt)) v0_0.v a_l, cown (OwnS 22 (OwnS 3 (roE rdInt))) F4 v3.v c2] ∧ s_l32Tuples_L1 rest9 k8 c2 = some R) ⟨_, 0, _, _, ⟨(some ⟨k1, 0, none⟩), 0, 1⟩, (k1 :: []), rfl, eqA, rfl, entA, hF⟩ ?_)
  clear hF
  rintro m6 _ _ ⟨g7, k8, rest9, c2, v3, F4, rfl, rfl, hd11, hE, hF⟩
  refine K_ent hE ?_
  clear hE
  refine K_pure (c := crd (RdS 22 (RdS 3 rdInt)) v0_0.v a_l) .h crd_bound (fun hbd16 => ?_)
  rcases rest9 with _ | ⟨x10, rest9⟩
  · have hk12 := List.drop_eq_nil_iff.1 hd11
    rw [s_l32Tuples_L1] at hF
    iterate 7 refine au ?_
    refine CdF ?_
    iterate 9 refine au ?_
    cases hF
    exact Er (v3, F4)
  obtain ⟨hk12, hx13, hd14⟩ := drop_cons hd11
  rw [s_l32Tuples_L1] at hF
  iterate 7 refine au ?_
  refine CdT ?_
  iterate 4 refine au ?_
  refine C_new rfl (N_buildSliceT (g := true) sl22.h ty3.h .nil (vs := []) rfl rfl rfl (by simp)) (fun k17 => ?_)
  refine Cv1 (.cons .h .nil) (own_lit (Ro := (roE rdInt)) (E := 3) (F := []) (xs := ([] : List Int)) MkL_nil rfl rfl) ?_
  iterate 2 refine au ?_
  refine Ai hx13 (fun k18 j19 => ?_)
  refine C_ldV (R' := (RdS 3 rdInt)) ag22.h (.tmp rfl rfl) .h lv22_0 (fun w20 => ?_)
  obtain ⟨z21, hx22, hF⟩ := bind_some hF
  refine C_x1 (.cons (.t (.t .h)) (.rd .h rfl .nil)) (X_appendO (Ro := (roE rdInt)) sl22.h ni22 ty3.h rfl rfl rfl (.tmp rfl rfl) (.tmp rfl rfl) hx22 src_rd) (fun p23 => ?_)
  refine C_new rfl (N_buildSliceT (g := true) sl110.h ty22.h (.cons (.tmp rfl rfl) .nil) (vs := [p23.1.v]) rfl rfl rfl (by intro v hv; simp at hv; rcases hv with rfl <;> rfl)) (fun k24 => ?_)
  refine Cv1 (.cons .h (.cons .h .nil)) (own_lit (Ro := (OwnS 3 (roE rdInt))) (E := 22) (F := (p23.2 ++ [])) (xs := ([z21] : List (List Int))) (MkL_cons Mk_own MkL_nil apps) rfl rfl) ?_
  obtain ⟨z25, hx26, hF⟩ := bind_some hF
  refine C_x1 (.cons (.t (.t (.t (.t .h)))) (.cons .h .nil)) (X_appendO (Ro := (OwnS 3 (roE rdInt))) sl110.h ni110 ty22.h rfl rfl rfl (.tmp rfl rfl) (.tmp rfl rfl) hx26 src_own) (fun p27 => ?_)
  iterate 7 refine au ?_
  rw [wk k8]
  exact ⟨_, Nat.lt_succ_self _, _, k8 + 1, rest9, _, p27.1, p27.2, rfl, eqA, hd14, entA, hF⟩

/-! spec.l32Method -/
def s_l32Method (a_x : Method) : Option (Method) :=
  (app ([] : List Int) a_x.Inputs).bind fun z4 =>
  some ({ Rel := a_x.Rel, Inputs := z4, Limit := a_x.Limit, Cost := a_x.Cost, Quota := a_x.Quota } : Method)
theorem s_l32Method_ok (a_x : Method) (v0_1 : Sv) (R : Method) (hF : s_l32Method a_x = some R) :
    Fw.Spec Tryz.prog 69 [(.agg [(.int .i64 a_x.Rel), v0_1.v, (.int .i64 a_x.Limit), (.int .i64 a_x.Cost), (.int .i64 a_x.Quota)].toArray)] [crd (RdS 3 rdInt) v0_1.v a_x.Inputs] (fun p : Sv × List Nat => (.agg [(.int .i64 R.Rel), p.1.v, (.int .i64 R.Limit), (.int .i64 R.Cost), (.int .i64 R.Quota)].toArray)) (fun p => [cown (OwnS 3 (roE rdInt)) p.2 p.1.v R.Inputs]) := by
  refine Spec_enter (n := 16) Tryz.func69 rfl rfl (rs := [.cell 2 114]) rfl rfl rfl ?_
  intro H0 F0
  unfold s_l32Method at hF
  refine au ?_
  refine AbR (fun k1 => ?_)
  refine AnW (fun k2 => ?_)
  refine au ?_
  refine K_draw [0, 1, 2, 3, 4, 6, 7, 8, 9, 10, 11, 5, 12, 13] [0, 1, 0, 0, 8, 28, 0, 64, 0, 256, 0, 1024, 4095, 8191] [5, 13] mixed (by decide +kernel) ?_
  iterate 2 refine du ?_
  refine D_new rfl .no rfl (fun ha => N_buildSliceT (g := true) (len := 0) (parts := []) sl22.h ty3.h .nil (vs := []) rfl rfl rfl (by simp)) (fun k3 => ?_)
  refine Dv1 (.cons .h .nil) (own_lit (Ro := (roE rdInt)) (E := 3) (F := []) (xs := ([] : List Int)) MkL_nil rfl rfl) ?_
  iterate 8 refine du ?_
  obtain ⟨z4, hx5, hF⟩ := bind_some hF
  refine D_act1 rfl rfl .no (.cons .h (.rd (.t (.t .h)) rfl .nil)) (.dep rfl .nil) (fun ha => X_appendO (Ro := (roE rdInt)) sl22.h ni22 ty3.h rfl rfl rfl (EN ha (.tmp rfl rfl) rfl) (EN ha (.tmp rfl rfl) rfl) hx5 src_rd) (fun p6 => ?_)
  refine D_val rfl .no (fun ha => V_build ty114.h rfl (vs := [(.int .i64 a_x.Rel), p6.1.v, (.int .i64 a_x.Limit), (.int .i64 a_x.Cost), (.int .i64 a_x.Quota)]) (.cons (EN ha (.tmp rfl rfl) rfl) (.cons (EN ha (.tmp rfl rfl) rfl) (.cons (EN ha (.tmp rfl rfl) rfl) (.cons (EN ha (.tmp rfl rfl) rfl) (.cons (EN ha (.tmp rfl rfl) rfl) .nil))))) (cells := [(.int .i64 a_x.Rel), p6.1.v, (.int .i64 a_x.Limit), (.int .i64 a_x.Cost), (.int .i64 a_x.Quota)]) rfl) ?_
  refine D_act1 rfl rfl .no (.cons (.t .h) .nil) (.dep rfl .nil) (fun ha => X_storeB (e' := (.agg [(.int .i64 a_x.Rel), p6.1.v, (.int .i64 a_x.Limit), (.int .i64 a_x.Cost), (.int .i64 a_x.Quota)].toArray)) (v := (.agg [(.int .i64 a_x.Rel), p6.1.v, (.int .i64 a_x.Limit), (.int .i64 a_x.Cost), (.int .i64 a_x.Quota)].toArray)) ty114.h.sz (EN ha (.tmp rfl rfl) rfl) (EN ha (.tmp rfl rfl) rfl) rfl rfl rfl rfl rfl) (fun _ => ?_)
  refine du ?_
  refine au ?_
  cases hF
  exact Er (p6.1, p6.2)

/-! spec.l32Copy -/
def s_l32Copy_L7 (a_m : Mediator) (z6 : List Int) (r9 : Source) (r12 : Cache) (r15 : (List Access)) (z18 : List Int) (c198 : List Method) (c288 : List Rule) : List (List (List Int)) → Nat → (List (List (List Int))) → Option (Mediator)
  | [], k331, c325 => some ({ Schema := z6, Methods := c198, Rules := c288, Source := r9, Cache := r12, Now := a_m.Now, Log := r15, Times := z18, Spent := a_m.Spent, Results := c325 } : Mediator)
  | x333 :: rest332, k331, c325 => (s_l32Tuples x333).bind fun r343 =>
    (app c325 ([r343] : List (List (List Int)))).bind fun z347 =>
    s_l32Copy_L7 a_m z6 r9 r12 r15 z18 c198 c288 rest332 (k331 + 1) z347
def s_l32Copy_L5 (a_m : Mediator) (z6 : List Int) (r9 : Source) (r12 : Cache) (r15 : (List Access)) (z18 : List Int) (c198 : List Method) : List Rule → Nat → (List Rule) → Option (Mediator)
  | [], k294, c288 => s_l32Copy_L7 a_m z6 r9 r12 r15 z18 c198 c288 a_m.Results 0 ([] : List (List (List Int)))
  | x296 :: rest295, k294, c288 => (app ([] : List Int) x296.Map).bind fun z359 =>
    (app c288 ([({ From := x296.From, To := x296.To, Map := z359 } : Rule)] : List Rule)).bind fun z363 =>
    s_l32Copy_L5 a_m z6 r9 r12 r15 z18 c198 rest295 (k294 + 1) z363
def s_l32Copy_L1 (a_m : Mediator) (z6 : List Int) (r9 : Source) (r12 : Cache) (r15 : (List Access)) (z18 : List Int) : List Method → Nat → (List Method) → Option (Mediator)
  | [], k204, c198 => s_l32Copy_L5 a_m z6 r9 r12 r15 z18 c198 a_m.Rules 0 ([] : List Rule)
  | x206 :: rest205, k204, c198 => (s_l32Method x206).bind fun r370 =>
    (app c198 ([r370] : List Method)).bind fun z375 =>
    s_l32Copy_L1 a_m z6 r9 r12 r15 z18 rest205 (k204 + 1) z375
def s_l32Copy (a_m : Mediator) : Option (Mediator) :=
  (app ([] : List Int) a_m.Schema).bind fun z6 =>
  (s_l25Copy a_m.Source).bind fun r9 =>
  (s_l22Copy a_m.Cache).bind fun r12 =>
  (s_l8Log a_m.Log).bind fun r15 =>
  (app ([] : List Int) a_m.Times).bind fun z18 =>
  s_l32Copy_L1 a_m z6 r9 r12 r15 z18 a_m.Methods 0 ([] : List Method)
theorem s_l32Copy_ok (a_m : Mediator) (v0_0 : Sv) (v0_1 : Sv) (v0_2 : Sv) (v0_3 : Sv) (v0_5 : Sv) (v0_8 : Sv) (v0_9 : Sv) (v0_11 : Sv) (R : Mediator) (hF : s_l32Copy a_m = some R) :
    Fw.Spec Tryz.prog 23 [(.agg [v0_0.v, v0_1.v, v0_2.v, v0_3.v, (.int .i64 a_m.Source.Version), v0_5.v, (.int .i64 a_m.Cache.Age), (.int .i64 a_m.Now), v0_8.v, v0_9.v, (.int .i64 a_m.Spent), v0_11.v].toArray)] [crd (RdS 3 rdInt) v0_0.v a_m.Schema, crd (RdS 114 rd114) v0_1.v a_m.Methods, crd (RdS 116 rd116) v0_2.v a_m.Rules, crd (RdS 55 rd55) v0_3.v a_m.Source.Facts, crd (RdS 156 rd156) v0_5.v a_m.Cache.Entries, crd (RdS 124 rd124) v0_8.v a_m.Log, crd (RdS 3 rdInt) v0_9.v a_m.Times, crd (RdS 110 (RdS 22 (RdS 3 rdInt))) v0_11.v a_m.Results] (fun p : Sv × List Nat × Sv × List Nat × Sv × List Nat × Sv × List Nat × Sv × List Nat × Sv × List Nat × Sv × List Nat × Sv × List Nat => (.agg [p.1.v, p.2.2.1.v, p.2.2.2.2.1.v, p.2.2.2.2.2.2.1.v, (.int .i64 R.Source.Version), p.2.2.2.2.2.2.2.2.1.v, (.int .i64 R.Cache.Age), (.int .i64 R.Now), p.2.2.2.2.2.2.2.2.2.2.1.v, p.2.2.2.2.2.2.2.2.2.2.2.2.1.v, (.int .i64 R.Spent), p.2.2.2.2.2.2.2.2.2.2.2.2.2.2.1.v].toArray)) (fun p => [cown (OwnS 3 (roE rdInt)) p.2.1 p.1.v R.Schema, cown (OwnS 114 ow114) p.2.2.2.1 p.2.2.1.v R.Methods, cown (OwnS 116 ow116) p.2.2.2.2.2.1 p.2.2.2.2.1.v R.Rules, cown (OwnS 55 ow55) p.2.2.2.2.2.2.2.1 p.2.2.2.2.2.2.1.v R.Source.Facts, cown (OwnS 156 ow156) p.2.2.2.2.2.2.2.2.2.1 p.2.2.2.2.2.2.2.2.1.v R.Cache.Entries, cown (OwnS 124 ow124) p.2.2.2.2.2.2.2.2.2.2.2.1 p.2.2.2.2.2.2.2.2.2.2.1.v R.Log, cown (OwnS 3 (roE rdInt)) p.2.2.2.2.2.2.2.2.2.2.2.2.2.1 p.2.2.2.2.2.2.2.2.2.2.2.2.1.v R.Times, cown (OwnS 110 (OwnS 22 (OwnS 3 (roE rdInt)))) p.2.2.2.2.2.2.2.2.2.2.2.2.2.2.2 p.2.2.2.2.2.2.2.2.2.2.2.2.2.2.1.v R.Results]) := by
  refine Spec_enter (n := 103) Tryz.func23 rfl rfl (rs := [.cell 2 51]) rfl rfl rfl ?_
  intro H0 F0
  unfold s_l32Copy at hF
  refine au ?_
  refine AbR (fun k1 => ?_)
  refine AnW (fun k2 => ?_)
  refine au ?_
  refine K_draw [0, 1, 2, 4, 5, 7, 8, 10, 11, 12, 13, 15, 16, 17, 19, 20, 22, 3, 6, 9, 14, 18, 21, 23] [0, 0, 2, 7, 0, 16, 63, 0, 128, 511, 0, 1024, 0, 4096, 13311, 0, 0, 65536, 259071, 0, 524288, 2097151, 0, 8388607] [3, 6, 9, 14, 18, 23] mixed (by decide +kernel) ?_
  refine D_new rfl .no rfl (fun ha => N_buildSliceT (g := true) (len := 0) (parts := []) sl22.h ty3.h .nil (vs := []) rfl rfl rfl (by simp)) (fun k3 => ?_)
  refine Dv1 (.cons .h .nil) (own_lit (Ro := (roE rdInt)) (E := 3) (F := []) (xs := ([] : List Int)) MkL_nil rfl rfl) ?_
  iterate 3 refine du ?_
  refine D_at rfl .no (.t (.t .h)) rfl (fun ha hp => V_loadA (s := 2) (l := [v0_3.v, (.int .i64 a_m.Source.Version)]) ag45.h ty45.h.sz (EN ha (.tmp rfl rfl) rfl) hp.2 rfl (by decide) (Nat.le_of_ble_eq_true rfl) rfl) ?_
  refine du ?_
  refine D_at rfl .no (.t (.t .h)) rfl (fun ha hp => V_loadA (s := 2) (l := [v0_5.v, (.int .i64 a_m.Cache.Age)]) ag48.h ty48.h.sz (EN ha (.tmp rfl rfl) rfl) hp.2 rfl (by decide) (Nat.le_of_ble_eq_true rfl) rfl) ?_
  iterate 4 refine du ?_
  refine D_new rfl .no rfl (fun ha => N_buildSliceT (g := true) (len := 0) (parts := []) sl22.h ty3.h .nil (vs := []) rfl rfl rfl (by simp)) (fun k4 => ?_)
  refine Dv1 (.cons .h .nil) (own_lit (Ro := (roE rdInt)) (E := 3) (F := []) (xs := ([] : List Int)) MkL_nil rfl rfl) ?_
  iterate 4 refine du ?_
  refine D_new rfl .no rfl (fun ha => N_allocT (g := true) ty51.h rfl rfl) (fun k5 => ?_)
  obtain ⟨z6, hx7, hF⟩ := bind_some hF
  refine D_act1 rfl rfl .no (.cons (.t (.t .h)) (.rd (.t (.t (.t (.t .h)))) rfl .nil)) (.own .h (fun _ h => h) (.own (.t .h) (by simp [cown]) (.dep rfl .nil))) (fun ha => X_appendO (Ro := (roE rdInt)) sl22.h ni22 ty3.h rfl rfl rfl (EN ha (.tmp rfl rfl) rfl) (EN ha (.tmp rfl rfl) rfl) hx7 src_rd) (fun p8 => ?_)
  obtain ⟨r9, hx10, hF⟩ := bind_some hF
  refine D_act1 rfl rfl .no (.rd (.t (.t (.t (.t (.t (.t (.t (.t .h)))))))) rfl .nil) (.own (.t .h) (fun _ h => h) (.own (.t (.t .h)) (by simp [cown]) (.dep rfl .nil))) (fun ha => X_callS cf66.h (.cons (EN ha (.tmp rfl rfl) rfl) .nil) (s_l25Copy_ok a_m.Source v0_3 _ hx10)) (fun p11 => ?_)
  obtain ⟨r12, hx13, hF⟩ := bind_some hF
  refine D_act1 rfl rfl .no (.rd (.t (.t (.t (.t (.t (.t (.t (.t (.t (.t .h)))))))))) rfl .nil) (.own (.t (.t .h)) (fun _ h => h) (.own (.t (.t (.t .h))) (by simp [cown]) (.dep rfl .nil))) (fun ha => X_callS cf67.h (.cons (EN ha (.tmp rfl rfl) rfl) .nil) (s_l22Copy_ok a_m.Cache v0_5 _ hx13)) (fun p14 => ?_)
  obtain ⟨r15, hx16, hF⟩ := bind_some hF
  refine D_act1 rfl rfl .no (.rd (.t (.t (.t (.t (.t (.t (.t (.t (.t (.t (.t (.t .h)))))))))))) rfl .nil) (.own (.t (.t (.t .h))) (fun _ h => h) (.own (.t (.t (.t (.t .h)))) (by simp [cown]) (.dep rfl .nil))) (fun ha => X_callS cf68.h (.cons (EN ha (.tmp rfl rfl) rfl) .nil) (s_l8Log_ok a_m.Log v0_8 _ hx16)) (fun p17 => ?_)
  obtain ⟨z18, hx19, hF⟩ := bind_some hF
  refine D_act1 rfl rfl .no (.cons (.t (.t (.t (.t (.t .h))))) (.rd (.t (.t (.t (.t (.t (.t (.t (.t (.t (.t (.t (.t (.t .h))))))))))))) rfl .nil)) (.own (.t (.t (.t (.t .h)))) (fun _ h => h) (.dep rfl (.dep rfl .nil))) (fun ha => X_appendO (Ro := (roE rdInt)) sl22.h ni22 ty3.h rfl rfl rfl (EN ha (.tmp rfl rfl) rfl) (EN ha (.tmp rfl rfl) rfl) hx19 src_rd) (fun p20 => ?_)
  refine D_val rfl .no (fun ha => V_build ty51.h rfl (vs := [p8.1.v, (.agg [p11.1.v, (.int .i64 r9.Version)].toArray), (.agg [p14.1.v, (.int .i64 r12.Age)].toArray), (.int .i64 a_m.Now), p17.1.v, p20.1.v, (.int .i64 a_m.Spent)]) (.cons (EN ha (.tmp rfl rfl) rfl) (.cons (EN ha (.tmp rfl rfl) rfl) (.cons (EN ha (.tmp rfl rfl) rfl) (.cons (EN ha (.tmp rfl rfl) rfl) (.cons (EN ha (.tmp rfl rfl) rfl) (.cons (EN ha (.tmp rfl rfl) rfl) (.cons (EN ha (.tmp rfl rfl) rfl) .nil))))))) (cells := [p8.1.v, (.slice none 0 0), (.slice none 0 0), p11.1.v, (.int .i64 r9.Version), p14.1.v, (.int .i64 r12.Age), (.int .i64 a_m.Now), p17.1.v, p20.1.v, (.int .i64 a_m.Spent), (.slice none 0 0)]) (by kernel_rfl)) ?_
  refine D_act1 rfl rfl .no (.cons (.t (.t (.t (.t (.t .h))))) .nil) (.dep rfl (.dep rfl (.dep rfl .nil))) (fun ha => X_storeB (e' := (.agg [p8.1.v, (.slice none 0 0), (.slice none 0 0), p11.1.v, (.int .i64 r9.Version), p14.1.v, (.int .i64 r12.Age), (.int .i64 a_m.Now), p17.1.v, p20.1.v, (.int .i64 a_m.Spent), (.slice none 0 0)].toArray)) (v := (.agg [p8.1.v, (.slice none 0 0), (.slice none 0 0), p11.1.v, (.int .i64 r9.Version), p14.1.v, (.int .i64 r12.Age), (.int .i64 a_m.Now), p17.1.v, p20.1.v, (.int .i64 a_m.Spent), (.slice none 0 0)].toArray)) ty51.h.sz (EN ha (.tmp rfl rfl) rfl) (EN ha (.tmp rfl rfl) rfl) rfl rfl rfl rfl rfl) (fun _ => ?_)
  refine du ?_
  iterate 4 refine au ?_
  refine CW_block (CW_loop (m := a_m.Methods.length) (fun m202 f' cs' => ∃ (g : Fr) (k204 : Nat) (rest205 : List Method) (c198 : List Method) (v199 : Sv) (F200 : List Nat), m202 = rest205.length ∧ f' = updL g [(1, (.pointer (some ⟨k1, 0, some 0⟩))), (2, (.pointer (some ⟨k2, 0, some 0⟩))), (3, (.pointer (some ⟨k5, 0, some 0⟩))), (4, (.int .i64 (k204 : Int)))] ∧ List.drop k204 a_m.Methods = rest205 ∧ Ent cs' [cboR k1 51 (.agg [v0_0.v, v0_1.v, v0_2.v, v0_3.v, (.int .i64 a_m.Source.Version), v0_5.v, (.int .i64 a_m.Cache.Age), (.int .i64 a_m.Now), v0_8.v, v0_9.v, (.int .i64 a_m.Spent), v0_11.v].toArray), crd (RdS 3 rdInt) v0_0.v a_m.Schema, crd (RdS 114 rd114) v0_1.v a_m.Methods, crd (RdS 116 rd116) v0_2.v a_m.Rules, crd (RdS 55 rd55) v0_3.v a_m.Source.Facts, crd (RdS 156 rd156) v0_5.v a_m.Cache.Entries, crd (RdS 124 rd124) v0_8.v a_m.Log, crd (RdS 3 rdInt) v0_9.v a_m.Times, crd (RdS 110 (RdS 22 (RdS 3 rdInt))) v0_11.v a_m.Results, cbox k2 51 (.agg ([(.slice none 0 0), (.slice none 0 0), (.slice none 0 0), (.slice none 0 0), (.int .i64 0), (.slice none 0 0), (.int .i64 0), (.int .i64 0), (.slice none 0 0), (.slice none 0 0), (.int .i64 0), (.slice none 0 0)] : List Value).toArray), cbox k5 51 (.agg [p8.1.v, v199.v, (.slice none 0 0), p11.1.v, (.int .i64 r9.Version), p14.1.v, (.int .i64 r12.Age), (.int .i64 a_m.Now), p17.1.v, p20.1.v, (.int .i64 a_m.Spent), (.slice none 0 0)].toArray), cown (OwnS 3 (roE rdInt)) p8.2 p8.1.v z6, cown (OwnS 114 ow114) F200 v199.v c198, cown (OwnS 55 ow55) p11.2 p11.1.v r9.Facts, cown (OwnS 156 ow156) p14.2 p14.1.v r12.Entries, cown (OwnS 124 ow124) p17.2 p17.1.v r15, cown (OwnS 3 (roE rdInt)) p20.2 p20.1.v z18] ∧ s_l32Copy_L1 a_m z6 r9 r12 r15 z18 rest205 k204 c198 = some R) ⟨_, 0, _, _, ⟨none, 0, 0⟩, [], rfl, eqA, rfl, (.conv .nil (own_nil (Ro := ow114) (E := 114)) (.cons .nil) entA), hF⟩ ?_)
  clear hF
  rintro m202 _ _ ⟨g203, k204, rest205, c198, v199, F200, rfl, rfl, hd207, hE, hF⟩
  refine K_ent hE ?_
  clear hE
  refine K_pure (c := crd (RdS 114 rd114) v0_1.v a_m.Methods) (.t (.t .h)) crd_bound (fun hbd212 => ?_)
  rcases rest205 with _ | ⟨x206, rest205⟩
  · have hk208 := List.drop_eq_nil_iff.1 hd207
    rw [s_l32Copy_L1] at hF
    iterate 8 refine au ?_
    refine CdF ?_
    iterate 8 refine au ?_
    refine CW_block (CW_loop (m := a_m.Rules.length) (fun m292 f' cs' => ∃ (g : Fr) (k294 : Nat) (rest295 : List Rule) (c288 : List Rule) (v289 : Sv) (F290 : List Nat), m292 = rest295.length ∧ f' = updL g [(1, (.pointer (some ⟨k1, 0, some 0⟩))), (2, (.pointer (some ⟨k2, 0, some 0⟩))), (3, (.pointer (some ⟨k5, 0, some 0⟩))), (6, (.int .i64 (k294 : Int)))] ∧ List.drop k294 a_m.Rules = rest295 ∧ Ent cs' [cboR k1 51 (.agg [v0_0.v, v0_1.v, v0_2.v, v0_3.v, (.int .i64 a_m.Source.Version), v0_5.v, (.int .i64 a_m.Cache.Age), (.int .i64 a_m.Now), v0_8.v, v0_9.v, (.int .i64 a_m.Spent), v0_11.v].toArray), crd (RdS 3 rdInt) v0_0.v a_m.Schema, crd (RdS 114 rd114) v0_1.v a_m.Methods, crd (RdS 116 rd116) v0_2.v a_m.Rules, crd (RdS 55 rd55) v0_3.v a_m.Source.Facts, crd (RdS 156 rd156) v0_5.v a_m.Cache.Entries, crd (RdS 124 rd124) v0_8.v a_m.Log, crd (RdS 3 rdInt) v0_9.v a_m.Times, crd (RdS 110 (RdS 22 (RdS 3 rdInt))) v0_11.v a_m.Results, cbox k2 51 (.agg ([(.slice none 0 0), (.slice none 0 0), (.slice none 0 0), (.slice none 0 0), (.int .i64 0), (.slice none 0 0), (.int .i64 0), (.int .i64 0), (.slice none 0 0), (.slice none 0 0), (.int .i64 0), (.slice none 0 0)] : List Value).toArray), cbox k5 51 (.agg [p8.1.v, v199.v, v289.v, p11.1.v, (.int .i64 r9.Version), p14.1.v, (.int .i64 r12.Age), (.int .i64 a_m.Now), p17.1.v, p20.1.v, (.int .i64 a_m.Spent), (.slice none 0 0)].toArray), cown (OwnS 3 (roE rdInt)) p8.2 p8.1.v z6, cown (OwnS 114 ow114) F200 v199.v c198, cown (OwnS 116 ow116) F290 v289.v c288, cown (OwnS 55 ow55) p11.2 p11.1.v r9.Facts, cown (OwnS 156 ow156) p14.2 p14.1.v r12.Entries, cown (OwnS 124 ow124) p17.2 p17.1.v r15, cown (OwnS 3 (roE rdInt)) p20.2 p20.1.v z18] ∧ s_l32Copy_L5 a_m z6 r9 r12 r15 z18 c198 rest295 k294 c288 = some R) ⟨_, 0, _, _, ⟨none, 0, 0⟩, [], rfl, eqA, rfl, (.conv .nil (own_nil (Ro := ow116) (E := 116)) (.cons .nil) entA), hF⟩ ?_)
    clear hF
    rintro m292 _ _ ⟨g293, k294, rest295, c288, v289, F290, rfl, rfl, hd297, hE, hF⟩
    refine K_ent hE ?_
    clear hE
    refine K_pure (c := crd (RdS 116 rd116) v0_2.v a_m.Rules) (.t (.t (.t .h))) crd_bound (fun hbd302 => ?_)
    rcases rest295 with _ | ⟨x296, rest295⟩
    · have hk298 := List.drop_eq_nil_iff.1 hd297
      rw [s_l32Copy_L5] at hF
      iterate 8 refine au ?_
      refine CdF ?_
      iterate 8 refine au ?_
      refine CW_block (CW_loop (m := a_m.Results.length) (fun m329 f' cs' => ∃ (g : Fr) (k331 : Nat) (rest332 : List (List (List Int))) (c325 : List (List (List Int))) (v326 : Sv) (F327 : List Nat), m329 = rest332.length ∧ f' = updL g [(1, (.pointer (some ⟨k1, 0, some 0⟩))), (2, (.pointer (some ⟨k2, 0, some 0⟩))), (3, (.pointer (some ⟨k5, 0, some 0⟩))), (7, (.int .i64 (k331 : Int)))] ∧ List.drop k331 a_m.Results = rest332 ∧ Ent cs' [cboR k1 51 (.agg [v0_0.v, v0_1.v, v0_2.v, v0_3.v, (.int .i64 a_m.Source.Version), v0_5.v, (.int .i64 a_m.Cache.Age), (.int .i64 a_m.Now), v0_8.v, v0_9.v, (.int .i64 a_m.Spent), v0_11.v].toArray), crd (RdS 3 rdInt) v0_0.v a_m.Schema, crd (RdS 114 rd114) v0_1.v a_m.Methods, crd (RdS 116 rd116) v0_2.v a_m.Rules, crd (RdS 55 rd55) v0_3.v a_m.Source.Facts, crd (RdS 156 rd156) v0_5.v a_m.Cache.Entries, crd (RdS 124 rd124) v0_8.v a_m.Log, crd (RdS 3 rdInt) v0_9.v a_m.Times, crd (RdS 110 (RdS 22 (RdS 3 rdInt))) v0_11.v a_m.Results, cbox k2 51 (.agg ([(.slice none 0 0), (.slice none 0 0), (.slice none 0 0), (.slice none 0 0), (.int .i64 0), (.slice none 0 0), (.int .i64 0), (.int .i64 0), (.slice none 0 0), (.slice none 0 0), (.int .i64 0), (.slice none 0 0)] : List Value).toArray), cbox k5 51 (.agg [p8.1.v, v199.v, v289.v, p11.1.v, (.int .i64 r9.Version), p14.1.v, (.int .i64 r12.Age), (.int .i64 a_m.Now), p17.1.v, p20.1.v, (.int .i64 a_m.Spent), v326.v].toArray), cown (OwnS 3 (roE rdInt)) p8.2 p8.1.v z6, cown (OwnS 114 ow114) F200 v199.v c198, cown (OwnS 116 ow116) F290 v289.v c288, cown (OwnS 55 ow55) p11.2 p11.1.v r9.Facts, cown (OwnS 156 ow156) p14.2 p14.1.v r12.Entries, cown (OwnS 124 ow124) p17.2 p17.1.v r15, cown (OwnS 3 (roE rdInt)) p20.2 p20.1.v z18, cown (OwnS 110 (OwnS 22 (OwnS 3 (roE rdInt)))) F327 v326.v c325] ∧ s_l32Copy_L7 a_m z6 r9 r12 r15 z18 c198 c288 rest332 k331 c325 = some R) ⟨_, 0, _, _, ⟨none, 0, 0⟩, [], rfl, eqA, rfl, (.conv .nil (own_nil (Ro := (OwnS 22 (OwnS 3 (roE rdInt)))) (E := 110)) (.cons .nil) entA), hF⟩ ?_)
      clear hF
      rintro m329 _ _ ⟨g330, k331, rest332, c325, v326, F327, rfl, rfl, hd334, hE, hF⟩
      refine K_ent hE ?_
      clear hE
      refine K_pure (c := crd (RdS 110 (RdS 22 (RdS 3 rdInt))) v0_11.v a_m.Results) (.t (.t (.t (.t (.t (.t (.t (.t .h)))))))) crd_bound (fun hbd339 => ?_)
      rcases rest332 with _ | ⟨x333, rest332⟩
      · have hk335 := List.drop_eq_nil_iff.1 hd334
        rw [s_l32Copy_L7] at hF
        iterate 8 refine au ?_
        refine CdF ?_
        iterate 6 refine au ?_
        refine As (.agg [p8.1.v, v199.v, v289.v, p11.1.v, (.int .i64 r9.Version), p14.1.v, (.int .i64 r12.Age), (.int .i64 a_m.Now), p17.1.v, p20.1.v, (.int .i64 a_m.Spent), v326.v].toArray) ?_
        iterate 2 refine au ?_
        cases hF
        exact Er (p8.1, p8.2, v199, F200, v289, F290, p11.1, p11.2, p14.1, p14.2, p17.1, p17.2, p20.1, p20.2, v326, F327)
      obtain ⟨hk335, hx336, hd337⟩ := drop_cons hd334
      rw [s_l32Copy_L7] at hF
      iterate 8 refine au ?_
      refine CdT ?_
      iterate 6 refine au ?_
      refine Ai hx336 (fun k340 j341 => ?_)
      refine C_ldV (R' := (RdS 22 (RdS 3 rdInt))) ag110.h (.tmp rfl rfl) .h lv110_0 (fun w342 => ?_)
      obtain ⟨r343, hx344, hF⟩ := bind_some hF
      refine Cx1 (s_l32Tuples_ok _ _ _ hx344) (fun p345 => ?_)
      iterate 6 refine au ?_
      refine C_new rfl (N_buildSliceT (g := true) sl32.h ty110.h (.cons (.tmp rfl rfl) .nil) (vs := [p345.1.v]) rfl rfl rfl (by intro v hv; simp at hv; rcases hv with rfl <;> rfl)) (fun k346 => ?_)
      refine Cv1 (.cons .h (.cons .h .nil)) (own_lit (Ro := (OwnS 22 (OwnS 3 (roE rdInt)))) (E := 110) (F := (p345.2 ++ [])) (xs := ([r343] : List (List (List Int)))) (MkL_cons Mk_own MkL_nil apps) rfl rfl) ?_
      obtain ⟨z347, hx348, hF⟩ := bind_some hF
      refine C_x1 (.cons (.t (.t (.t (.t (.t (.t (.t (.t (.t (.t (.t (.t (.t (.t (.t (.t (.t (.t (.t (.t (.t .h))))))))))))))))))))) (.cons .h .nil)) (X_appendO (Ro := (OwnS 22 (OwnS 3 (roE rdInt)))) sl32.h ni32 ty110.h rfl rfl rfl (.tmp rfl rfl) (.tmp rfl rfl) hx348 src_own) (fun p349 => ?_)
      refine au ?_
      refine As (.agg [p8.1.v, v199.v, v289.v, p11.1.v, (.int .i64 r9.Version), p14.1.v, (.int .i64 r12.Age), (.int .i64 a_m.Now), p17.1.v, p20.1.v, (.int .i64 a_m.Spent), p349.1.v].toArray) ?_
      iterate 6 refine au ?_
      rw [wk k331]
      exact ⟨_, Nat.lt_succ_self _, _, k331 + 1, rest332, _, p349.1, p349.2, rfl, eqA, hd337, entA, hF⟩
    obtain ⟨hk298, hx299, hd300⟩ := drop_cons hd297
    rw [s_l32Copy_L5] at hF
    iterate 8 refine au ?_
    refine CdT ?_
    iterate 2 refine au ?_
    refine CW_draw [0, 1, 2, 3, 4, 5, 6, 7, 8, 9, 10, 11, 12, 13, 14, 15, 16, 17, 18, 19, 20, 21, 22, 23, 24, 25, 26] [0, 1, 0, 4, 0, 28, 60, 124, 0, 256, 0, 1792, 3840, 7936, 0, 0, 32768, 0, 229376, 491520, 1015808, 2080768, 4194300, 8388604, 16777215, 33554431, 67108863] [21, 24, 26] mixed (by decide +kernel) ?_
    refine du ?_
    refine D_atO rfl .no (.t (.t (.t (.t (.t (.t (.t (.t (.t (.t .h)))))))))) (fun ha hp => V_load (v := v289.v) ag42.h (EN ha (.tmp rfl rfl) rfl) hp.2 rfl rfl) ?_
    iterate 3 refine du ?_
    refine Di hx299 (fun k351 j352 => ?_)
    refine du ?_
    refine Dl ls116_0 ?_
    iterate 3 refine du ?_
    refine Di hx299 (fun k353 j354 => ?_)
    refine du ?_
    refine Dl ls116_1 ?_
    refine D_new rfl .no rfl (fun ha => N_buildSliceT (g := true) (len := 0) (parts := []) sl22.h ty3.h .nil (vs := []) rfl rfl rfl (by simp)) (fun k355 => ?_)
    refine Dv1 (.cons .h .nil) (own_lit (Ro := (roE rdInt)) (E := 3) (F := []) (xs := ([] : List Int)) MkL_nil rfl rfl) ?_
    iterate 3 refine du ?_
    refine Di hx299 (fun k356 j357 => ?_)
    refine du ?_
    refine D_ldV (R' := (RdS 3 rdInt)) ag22.h rfl .no (.tmp rfl rfl) rfl .h lv116_2 (fun w358 => ?_)
    obtain ⟨z359, hx360, hF⟩ := bind_some hF
    refine D_act1 rfl rfl .no (.cons (.t (.t .h)) (.rd .h rfl .nil)) (.dep rfl (.own (.t (.t (.t (.t (.t (.t (.t (.t (.t (.t (.t (.t (.t (.t .h)))))))))))))) (fun _ h => h) .nil)) (fun ha => X_appendO (Ro := (roE rdInt)) sl22.h ni22 ty3.h rfl rfl rfl (EN ha (.tmp rfl rfl) rfl) (EN ha (.tmp rfl rfl) rfl) hx360 src_rd) (fun p361 => ?_)
    refine D_val rfl .no (fun ha => V_build ty116.h rfl (vs := [(.int .i64 x296.From), (.int .i64 x296.To), p361.1.v]) (.cons (EN ha (.tmp rfl rfl) rfl) (.cons (EN ha (.tmp rfl rfl) rfl) (.cons (EN ha (.tmp rfl rfl) rfl) .nil))) (cells := [(.int .i64 x296.From), (.int .i64 x296.To), p361.1.v]) rfl) ?_
    refine D_new rfl .no rfl (fun ha => N_buildSliceT (g := true) (len := 1) (parts := [(0, .tmp 79)]) sl42.h ty116.h (.cons (EN ha (.tmp rfl rfl) rfl) .nil) (vs := [(.agg [(.int .i64 x296.From), (.int .i64 x296.To), p361.1.v].toArray)]) rfl rfl rfl (by intro v hv; simp at hv; rcases hv with rfl <;> rfl)) (fun k362 => ?_)
    refine Dv1 (.cons .h (.cons .h .nil)) (own_lit (Ro := ow116) (E := 116) (F := (p361.2 ++ [])) (xs := ([({ From := x296.From, To := x296.To, Map := z359 } : Rule)] : List Rule)) (MkL_cons (mk116 (a := ({ From := x296.From, To := x296.To, Map := z359 } : Rule))) MkL_nil apps) rfl rfl) ?_
    obtain ⟨z363, hx364, hF⟩ := bind_some hF
    refine D_act1 rfl rfl .no (.cons (.t (.t (.t (.t (.t (.t (.t (.t (.t (.t (.t (.t (.t (.t (.t (.t (.t (.t .h)))))))))))))))))) (.cons .h .nil)) (.dep rfl (.dep rfl (.dep rfl .nil))) (fun ha => X_appendO (Ro := ow116) sl42.h ni42 ty116.h rfl rfl rfl (EN ha (.tmp rfl rfl) rfl) (EN ha (.tmp rfl rfl) rfl) hx364 src_own) (fun p365 => ?_)
    refine du ?_
    refine D_act1 rfl rfl .no (.cons (.t (.t (.t (.t (.t (.t (.t (.t (.t (.t (.t (.t (.t (.t (.t .h))))))))))))))) .nil) (.dep rfl (.dep rfl (.dep rfl .nil))) (fun ha => X_storeB (e' := (.agg [p8.1.v, v199.v, p365.1.v, p11.1.v, (.int .i64 r9.Version), p14.1.v, (.int .i64 r12.Age), (.int .i64 a_m.Now), p17.1.v, p20.1.v, (.int .i64 a_m.Spent), (.slice none 0 0)].toArray)) ty42.h.sz (EN ha (.tmp rfl rfl) rfl) (EN ha (.tmp rfl rfl) rfl) rfl rfl rfl rfl rfl) (fun _ => ?_)
    refine du ?_
    iterate 5 refine au ?_
    rw [wk k294]
    exact ⟨_, Nat.lt_succ_self _, _, k294 + 1, rest295, _, p365.1, p365.2, rfl, eqA, hd300, entA, hF⟩
  obtain ⟨hk208, hx209, hd210⟩ := drop_cons hd207
  rw [s_l32Copy_L1] at hF
  iterate 8 refine au ?_
  refine CdT ?_
  iterate 6 refine au ?_
  refine Ai hx209 (fun k367 j368 => ?_)
  refine AlA1 (ul114_0_114 x206) la114_0_114 (fun p369 => ?_)
  obtain ⟨r370, hx371, hF⟩ := bind_some hF
  refine Cx1 (s_l32Method_ok _ _ _ hx371) (fun p372 => ?_)
  refine AnW (fun k373 => ?_)
  refine As (.agg [(.int .i64 r370.Rel), p372.1.v, (.int .i64 r370.Limit), (.int .i64 r370.Cost), (.int .i64 r370.Quota)].toArray) ?_
  iterate 5 refine au ?_
  refine C_new rfl (N_buildSliceT (g := true) sl41.h ty114.h (.cons (.tmp rfl rfl) .nil) (vs := [(.agg [(.int .i64 r370.Rel), p372.1.v, (.int .i64 r370.Limit), (.int .i64 r370.Cost), (.int .i64 r370.Quota)].toArray)]) rfl rfl rfl (by intro v hv; simp at hv; rcases hv with rfl <;> rfl)) (fun k374 => ?_)
  refine Cv1 (.cons .h (.cons (.t .h) .nil)) (own_lit (Ro := ow114) (E := 114) (F := (p372.2 ++ [])) (xs := ([r370] : List Method)) (MkL_cons mk114 MkL_nil apps) rfl rfl) ?_
  obtain ⟨z375, hx376, hF⟩ := bind_some hF
  refine C_x1 (.cons (.t (.t (.t (.t (.t (.t (.t (.t (.t (.t (.t (.t (.t (.t (.t (.t .h)))))))))))))))) (.cons .h .nil)) (X_appendO (Ro := ow114) sl41.h ni41 ty114.h rfl rfl rfl (.tmp rfl rfl) (.tmp rfl rfl) hx376 src_own) (fun p377 => ?_)
  refine au ?_
  refine As (.agg [p8.1.v, p377.1.v, (.slice none 0 0), p11.1.v, (.int .i64 r9.Version), p14.1.v, (.int .i64 r12.Age), (.int .i64 a_m.Now), p17.1.v, p20.1.v, (.int .i64 a_m.Spent), (.slice none 0 0)].toArray) ?_
  iterate 6 refine au ?_
  rw [wk k204]
  exact ⟨_, Nat.lt_succ_self _, _, k204 + 1, rest205, _, p377.1, p377.2, rfl, eqA, hd210, entA, hF⟩

/-! spec.l1In -/
def s_l1In (a_x : Int) (a_low : Int) (a_high : Int) : Option (Bool) :=
  some ((decide ((a_low : Int) ≤ a_x)) && (decide ((a_x : Int) ≤ a_high)))
theorem s_l1In_ok (a_x : Int) (a_low : Int) (a_high : Int) (R : Bool) (hF : s_l1In a_x a_low a_high = some R) :
    Fw.Spec Tryz.prog 77 [(.int .i64 a_x), (.int .i64 a_low), (.int .i64 a_high)] [] (fun _ : Unit => (.bool R)) (fun _ => []) := by
  refine Spec_enter (n := 15) Tryz.func77 rfl rfl (rs := [.tmp 6]) rfl rfl rfl ?_
  intro H0 F0
  unfold s_l1In at hF
  iterate 4 refine au ?_
  refine C_cut (fun f' cs' => ∃ (g : Fr), f' = updL g [(6, (.bool ((decide ((a_low : Int) ≤ a_x)) && (decide ((a_x : Int) ≤ a_high)))))] ∧ Ent cs' []) ?_ ?_
  · iterate 4 refine au ?_
    rcases Bool.eq_false_or_eq_true (decide ((a_low : Int) ≤ a_x)) with hg1 | hg1
    · rw [hg1]
      try rw [hg1] at hF; dsimp only [cond_true, cond_false] at hF
      iterate 9 refine au ?_
      exact ⟨_, eqA, entA⟩
    rw [hg1]
    try rw [hg1] at hF; dsimp only [cond_true, cond_false] at hF
    iterate 6 refine au ?_
    exact ⟨_, eqA, entA⟩
  rintro _ _ ⟨g2, rfl, hE⟩
  refine K_ent hE ?_
  refine au ?_
  cases hF
  exact Er ()

/-! spec.IsSchema -/
def s_IsSchema_L1 (a_s : List Int) : List Int → Nat → Option (Bool)
  | [], k4 => (s_l1In (a_s.length : Int) 1 3).bind fun r13 =>
    some r13
  | x6 :: rest5, k4 => (s_l1In x6 1 3).bind fun r18 =>
    if (!r18) then (
      some false)
    else (
      s_IsSchema_L1 a_s rest5 (k4 + 1))
def s_IsSchema (a_s : List Int) : Option (Bool) :=
  s_IsSchema_L1 a_s a_s 0
theorem s_IsSchema_ok (a_s : List Int) (v0_0 : Sv) (R : Bool) (hF : s_IsSchema a_s = some R) :
    Fw.Spec Tryz.prog 71 [v0_0.v] [crd (RdS 3 rdInt) v0_0.v a_s] (fun _ : Unit => (.bool R)) (fun _ => []) := by
  refine Spec_enter (n := 19) Tryz.func71 rfl rfl (rs := [.tmp 2]) rfl rfl rfl ?_
  intro H0 F0
  unfold s_IsSchema at hF
  iterate 7 refine au ?_
  refine CW_block (CW_loop (m := a_s.length) (fun m2 f' cs' => ∃ (g : Fr) (k4 : Nat) (rest5 : List Int), m2 = rest5.length ∧ f' = updL g [(0, v0_0.v), (3, (.int .i64 (k4 : Int)))] ∧ List.drop k4 a_s = rest5 ∧ Ent cs' [crd (RdS 3 rdInt) v0_0.v a_s] ∧ s_IsSchema_L1 a_s rest5 k4 = some R) ⟨_, 0, _, rfl, eqA, rfl, entA, hF⟩ ?_)
  clear hF
  rintro m2 _ _ ⟨g3, k4, rest5, rfl, rfl, hd7, hE, hF⟩
  refine K_ent hE ?_
  clear hE
  refine K_pure (c := crd (RdS 3 rdInt) v0_0.v a_s) .h crd_bound (fun hbd12 => ?_)
  rcases rest5 with _ | ⟨x6, rest5⟩
  · have hk8 := List.drop_eq_nil_iff.1 hd7
    rw [s_IsSchema_L1] at hF
    iterate 7 refine au ?_
    refine CdF ?_
    iterate 7 refine au ?_
    obtain ⟨r13, hx14, hF⟩ := bind_some hF
    refine Cx0 (s_l1In_ok _ _ _ _ hx14) (fun _ => ?_)
    iterate 3 refine au ?_
    cases hF
    exact Er ()
  obtain ⟨hk8, hx9, hd10⟩ := drop_cons hd7
  rw [s_IsSchema_L1] at hF
  iterate 7 refine au ?_
  refine CdT ?_
  iterate 5 refine au ?_
  refine Ai hx9 (fun k16 j17 => ?_)
  refine Al ls3_0 ?_
  obtain ⟨r18, hx19, hF⟩ := bind_some hF
  refine Cx0 (s_l1In_ok _ _ _ _ hx19) (fun _ => ?_)
  iterate 2 refine au ?_
  refine Cc (fun hb22 => ?_) (fun hb22 => ?_)
  · rw [if_pos hb22] at hF
    iterate 4 refine au ?_
    cases hF
    exact Er ()
  rw [if_neg (nt hb22)] at hF
  iterate 6 refine au ?_
  rw [wk k4]
  exact ⟨_, Nat.lt_succ_self _, _, k4 + 1, rest5, rfl, eqA, hd10, entA, hF⟩

/-! spec.IsMethod -/
def s_IsMethod_L1 (a_s : List Int) (a_m : Method) : List Int → Nat → Option (Bool)
  | [], k27 => some true
  | x29 :: rest28, k27 => ((ix a_s a_m.Rel).bind fun x40 =>
      (s_l1In x29 0 (IntKind.i64.wrap (x40 - 1))).bind fun r46 =>
      bif (!r46) then (some true)
      else (bif (decide ((0 : Int) < (k27 : Int))) then ((ix a_m.Inputs (IntKind.i64.wrap ((k27 : Int) - 1))).bind fun x53 =>
          some (decide ((x29 : Int) ≤ x53)))
        else (some false))).bind fun o36 =>
    match o36 with
    | c59 => if c59 then (
        some false)
      else (
        s_IsMethod_L1 a_s a_m rest28 (k27 + 1))
def s_IsMethod (a_s : List Int) (a_m : Method) : Option (Bool) :=
  ((s_IsSchema a_s).bind fun r4 =>
    bif (!r4) then (some true)
    else ((s_l1In a_m.Rel 0 (IntKind.i64.wrap ((a_s.length : Int) - 1))).bind fun r8 =>
      bif (!r8) then (some true)
      else ((s_l1In a_m.Limit 0 9).bind fun r12 =>
        bif (!r12) then (some true)
        else ((s_l1In a_m.Cost 0 99).bind fun r16 =>
          bif (!r16) then (some true)
          else ((s_l1In a_m.Quota 1 99).bind fun r20 =>
            some (!r20)))))).bind fun o2 =>
  match o2 with
  | c23 => if c23 then (
      some false)
    else (
      s_IsMethod_L1 a_s a_m a_m.Inputs 0)
theorem s_IsMethod_ok (a_s : List Int) (v0_0 : Sv) (a_m : Method) (v1_1 : Sv) (R : Bool) (hF : s_IsMethod a_s a_m = some R) :
    Fw.Spec Tryz.prog 129 [v0_0.v, (.agg [(.int .i64 a_m.Rel), v1_1.v, (.int .i64 a_m.Limit), (.int .i64 a_m.Cost), (.int .i64 a_m.Quota)].toArray)] [crd (RdS 3 rdInt) v0_0.v a_s, crd (RdS 3 rdInt) v1_1.v a_m.Inputs] (fun _ : Unit => (.bool R)) (fun _ => []) := by
  refine Spec_enter (n := 74) Tryz.func129 rfl rfl (rs := [.tmp 4]) rfl rfl rfl ?_
  intro H0 F0
  unfold s_IsMethod at hF
  refine au ?_
  refine AbR (fun k1 => ?_)
  iterate 3 refine au ?_
  obtain ⟨o2, hio2, hO3⟩ := bind_some hF
  refine au ?_
  refine C_cut (fun f' cs' => ∃ (c23 : Bool) (g : Fr), c23 = o2 ∧ f' = updL g [(0, v0_0.v), (3, (.pointer (some ⟨k1, 0, some 0⟩))), (35, (.bool c23))] ∧ Ent cs' [crd (RdS 3 rdInt) v0_0.v a_s, cboR k1 114 (.agg [(.int .i64 a_m.Rel), v1_1.v, (.int .i64 a_m.Limit), (.int .i64 a_m.Cost), (.int .i64 a_m.Quota)].toArray), crd (RdS 3 rdInt) v1_1.v a_m.Inputs]) ?_ ?_
  · replace hF := hio2
    refine au ?_
    obtain ⟨r4, hx5, hF⟩ := bind_some hF
    refine Cx0 (s_IsSchema_ok _ _ _ hx5) (fun _ => ?_)
    iterate 2 refine au ?_
    rcases Bool.eq_false_or_eq_true (!r4) with hg7 | hg7
    · rw [hg7]
      try rw [hg7] at hF; dsimp only [cond_true, cond_false] at hF
      iterate 27 refine au ?_
      cases hF
      exact ⟨_, _, rfl, eqA, entA⟩
    rw [hg7]
    try rw [hg7] at hF; dsimp only [cond_true, cond_false] at hF
    iterate 11 refine au ?_
    obtain ⟨r8, hx9, hF⟩ := bind_some hF
    refine Cx0 (s_l1In_ok _ _ _ _ hx9) (fun _ => ?_)
    iterate 4 refine au ?_
    rcases Bool.eq_false_or_eq_true (!r8) with hg11 | hg11
    · rw [hg11]
      try rw [hg11] at hF; dsimp only [cond_true, cond_false] at hF
      iterate 18 refine au ?_
      cases hF
      exact ⟨_, _, rfl, eqA, entA⟩
    rw [hg11]
    try rw [hg11] at hF; dsimp only [cond_true, cond_false] at hF
    iterate 5 refine au ?_
    obtain ⟨r12, hx13, hF⟩ := bind_some hF
    refine Cx0 (s_l1In_ok _ _ _ _ hx13) (fun _ => ?_)
    iterate 4 refine au ?_
    rcases Bool.eq_false_or_eq_true (!r12) with hg15 | hg15
    · rw [hg15]
      try rw [hg15] at hF; dsimp only [cond_true, cond_false] at hF
      iterate 12 refine au ?_
      cases hF
      exact ⟨_, _, rfl, eqA, entA⟩
    rw [hg15]
    try rw [hg15] at hF; dsimp only [cond_true, cond_false] at hF
    iterate 5 refine au ?_
    obtain ⟨r16, hx17, hF⟩ := bind_some hF
    refine Cx0 (s_l1In_ok _ _ _ _ hx17) (fun _ => ?_)
    iterate 4 refine au ?_
    rcases Bool.eq_false_or_eq_true (!r16) with hg19 | hg19
    · rw [hg19]
      try rw [hg19] at hF; dsimp only [cond_true, cond_false] at hF
      iterate 6 refine au ?_
      cases hF
      exact ⟨_, _, rfl, eqA, entA⟩
    rw [hg19]
    try rw [hg19] at hF; dsimp only [cond_true, cond_false] at hF
    iterate 5 refine au ?_
    obtain ⟨r20, hx21, hF⟩ := bind_some hF
    refine Cx0 (s_l1In_ok _ _ _ _ hx21) (fun _ => ?_)
    iterate 4 refine au ?_
    cases hF
    exact ⟨_, _, rfl, eqA, entA⟩
  rintro _ _ ⟨c23, g64, rfl, rfl, hE⟩
  replace hF := hO3
  clear hO3
  try dsimp only at hF
  refine K_ent hE ?_
  refine Cc (fun hb63 => ?_) (fun hb63 => ?_)
  · rw [if_pos hb63] at hF
    iterate 4 refine au ?_
    cases hF
    exact Er ()
  rw [if_neg (nt hb63)] at hF
  iterate 5 refine au ?_
  refine CW_block (CW_loop (m := a_m.Inputs.length) (fun m25 f' cs' => ∃ (g : Fr) (k27 : Nat) (rest28 : List Int), m25 = rest28.length ∧ f' = updL g [(0, v0_0.v), (3, (.pointer (some ⟨k1, 0, some 0⟩))), (5, (.int .i64 (k27 : Int)))] ∧ List.drop k27 a_m.Inputs = rest28 ∧ Ent cs' [crd (RdS 3 rdInt) v0_0.v a_s, cboR k1 114 (.agg [(.int .i64 a_m.Rel), v1_1.v, (.int .i64 a_m.Limit), (.int .i64 a_m.Cost), (.int .i64 a_m.Quota)].toArray), crd (RdS 3 rdInt) v1_1.v a_m.Inputs] ∧ s_IsMethod_L1 a_s a_m rest28 k27 = some R) ⟨_, 0, _, rfl, eqA, rfl, entA, hF⟩ ?_)
  clear hF
  rintro m25 _ _ ⟨g26, k27, rest28, rfl, rfl, hd30, hE, hF⟩
  refine K_ent hE ?_
  clear hE
  refine K_pure (c := crd (RdS 3 rdInt) v1_1.v a_m.Inputs) (.t (.t .h)) crd_bound (fun hbd35 => ?_)
  rcases rest28 with _ | ⟨x29, rest28⟩
  · have hk31 := List.drop_eq_nil_iff.1 hd30
    rw [s_IsMethod_L1] at hF
    iterate 8 refine au ?_
    refine CdF ?_
    iterate 8 refine au ?_
    cases hF
    exact Er ()
  obtain ⟨hk31, hx32, hd33⟩ := drop_cons hd30
  rw [s_IsMethod_L1] at hF
  iterate 8 refine au ?_
  refine CdT ?_
  iterate 2 refine au ?_
  obtain ⟨o36, hio36, hO37⟩ := bind_some hF
  refine K_draw [0, 1, 2, 3, 4, 5, 6, 7, 8, 9, 10, 11, 12, 13, 14, 15, 16, 17, 18, 19, 20, 21, 22, 23, 24, 25, 26, 27, 28, 29, 30] [0, 1, 0, 7, 15, 0, 0, 64, 224, 480, 992, 2047, 4095, 8191, 16383, 32767, 65535, 131071, 262143, 131071, 1048575, 2097151, 131071, 4325375, 131071, 16908287, 63045631, 130154495, 268435455, 536870911, 1073741823] [11] mixed (by decide +kernel) ?_
  refine D_cut (fun f' cs' => ∃ (c59 : Bool) (g : Fr), c59 = o36 ∧ f' = updL g [(0, v0_0.v), (3, (.pointer (some ⟨k1, 0, some 0⟩))), (5, (.int .i64 (k27 : Int))), (73, (.bool c59))] ∧ Ent cs' [crd (RdS 3 rdInt) v0_0.v a_s, cboR k1 114 (.agg [(.int .i64 a_m.Rel), v1_1.v, (.int .i64 a_m.Limit), (.int .i64 a_m.Cost), (.int .i64 a_m.Quota)].toArray), crd (RdS 3 rdInt) v1_1.v a_m.Inputs]) ?_ ?_
  · replace hF := hio36
    iterate 3 refine du ?_
    refine Di hx32 (fun k38 j39 => ?_)
    refine Dl ls3_0 ?_
    iterate 3 refine du ?_
    obtain ⟨x40, hx41, hF⟩ := bind_some hF
    obtain ⟨hp42, hx43⟩ := ix_some hx41
    refine Di hx43 (fun k44 j45 => ?_)
    refine Dl ls3_0 ?_
    refine du ?_
    obtain ⟨r46, hx47, hF⟩ := bind_some hF
    refine Dx0 (s_l1In_ok _ _ _ _ hx47) (fun _ => ?_)
    iterate 2 refine du ?_
    rcases Bool.eq_false_or_eq_true (!r46) with hg49 | hg49
    · rw [hg49]
      try rw [hg49] at hF; dsimp only [cond_true, cond_false] at hF
      iterate 18 refine du ?_
      cases hF
      exact ⟨_, _, rfl, eqA, entA⟩
    rw [hg49]
    try rw [hg49] at hF; dsimp only [cond_true, cond_false] at hF
    iterate 3 refine du ?_
    rcases Bool.eq_false_or_eq_true (decide ((0 : Int) < (k27 : Int))) with hg50 | hg50
    · rw [hg50]
      try rw [hg50] at hF; dsimp only [cond_true, cond_false] at hF
      iterate 3 refine du ?_
      refine Di hx32 (fun k51 j52 => ?_)
      refine Dl ls3_0 ?_
      iterate 4 refine du ?_
      obtain ⟨x53, hx54, hF⟩ := bind_some hF
      obtain ⟨hp55, hx56⟩ := ix_some hx54
      refine Di hx56 (fun k57 j58 => ?_)
      refine Dl ls3_0 ?_
      iterate 4 refine du ?_
      cases hF
      exact ⟨_, _, rfl, eqA, entA⟩
    rw [hg50]
    try rw [hg50] at hF; dsimp only [cond_true, cond_false] at hF
    iterate 15 refine du ?_
    cases hF
    exact ⟨_, _, rfl, eqA, entA⟩
  rintro _ _ ⟨c59, g62, rfl, rfl, hE⟩
  replace hF := hO37
  clear hO37
  try dsimp only at hF
  refine K_ent hE ?_
  refine Cc (fun hb61 => ?_) (fun hb61 => ?_)
  · rw [if_pos hb61] at hF
    iterate 4 refine au ?_
    cases hF
    exact Er ()
  rw [if_neg (nt hb61)] at hF
  iterate 6 refine au ?_
  rw [wk k27]
  exact ⟨_, Nat.lt_succ_self _, _, k27 + 1, rest28, rfl, eqA, hd33, entA, hF⟩

/-! spec.AreMethods -/
def s_AreMethods_L1 (a_s : List Int) (a_l : List Method) : List Method → Nat → Option (Bool)
  | [], k4 => ((s_IsSchema a_s).bind fun r15 =>
      bif r15 then (some (decide (((a_l.length : Int) : Int) ≤ 5)))
      else (some false)).bind fun o13 =>
    match o13 with
    | c19 => some c19
  | x6 :: rest5, k4 => (s_IsMethod a_s x6).bind fun r24 =>
    if (!r24) then (
      some false)
    else (
      s_AreMethods_L1 a_s a_l rest5 (k4 + 1))
def s_AreMethods (a_s : List Int) (a_l : List Method) : Option (Bool) :=
  s_AreMethods_L1 a_s a_l a_l 0
theorem s_AreMethods_ok (a_s : List Int) (v0_0 : Sv) (a_l : List Method) (v1_0 : Sv) (R : Bool) (hF : s_AreMethods a_s a_l = some R) :
    Fw.Spec Tryz.prog 72 [v0_0.v, v1_0.v] [crd (RdS 3 rdInt) v0_0.v a_s, crd (RdS 114 rd114) v1_0.v a_l] (fun _ : Unit => (.bool R)) (fun _ => []) := by
  refine Spec_enter (n := 26) Tryz.func72 rfl rfl (rs := [.tmp 4]) rfl rfl rfl ?_
  intro H0 F0
  unfold s_AreMethods at hF
  iterate 7 refine au ?_
  refine CW_block (CW_loop (m := a_l.length) (fun m2 f' cs' => ∃ (g : Fr) (k4 : Nat) (rest5 : List Method), m2 = rest5.length ∧ f' = updL g [(0, v0_0.v), (1, v1_0.v), (5, (.int .i64 (k4 : Int)))] ∧ List.drop k4 a_l = rest5 ∧ Ent cs' [crd (RdS 3 rdInt) v0_0.v a_s, crd (RdS 114 rd114) v1_0.v a_l] ∧ s_AreMethods_L1 a_s a_l rest5 k4 = some R) ⟨_, 0, _, rfl, eqA, rfl, entA, hF⟩ ?_)
  clear hF
  rintro m2 _ _ ⟨g3, k4, rest5, rfl, rfl, hd7, hE, hF⟩
  refine K_ent hE ?_
  clear hE
  refine K_pure (c := crd (RdS 114 rd114) v1_0.v a_l) (.t .h) crd_bound (fun hbd12 => ?_)
  rcases rest5 with _ | ⟨x6, rest5⟩
  · have hk8 := List.drop_eq_nil_iff.1 hd7
    rw [s_AreMethods_L1] at hF
    iterate 7 refine au ?_
    refine CdF ?_
    iterate 4 refine au ?_
    obtain ⟨o13, hio13, hO14⟩ := bind_some hF
    refine au ?_
    refine C_cut (fun f' cs' => ∃ (c19 : Bool) (g : Fr), c19 = o13 ∧ f' = updL g [(4, (.bool c19))] ∧ Ent cs' []) ?_ ?_
    · replace hF := hio13
      refine au ?_
      obtain ⟨r15, hx16, hF⟩ := bind_some hF
      refine Cx0 (s_IsSchema_ok _ _ _ hx16) (fun _ => ?_)
      refine au ?_
      rcases Bool.eq_false_or_eq_true r15 with hg18 | hg18
      · rw [hg18]
        try rw [hg18] at hF; dsimp only [cond_true, cond_false] at hF
        iterate 9 refine au ?_
        cases hF
        exact ⟨_, _, rfl, eqA, entA⟩
      rw [hg18]
      try rw [hg18] at hF; dsimp only [cond_true, cond_false] at hF
      iterate 6 refine au ?_
      cases hF
      exact ⟨_, _, rfl, eqA, entA⟩
    rintro _ _ ⟨c19, g20, rfl, rfl, hE⟩
    replace hF := hO14
    clear hO14
    try dsimp only at hF
    refine K_ent hE ?_
    refine au ?_
    cases hF
    exact Er ()
  obtain ⟨hk8, hx9, hd10⟩ := drop_cons hd7
  rw [s_AreMethods_L1] at hF
  iterate 7 refine au ?_
  refine CdT ?_
  iterate 6 refine au ?_
  refine Ai hx9 (fun k21 j22 => ?_)
  refine AlA1 (ul114_0_114 x6) la114_0_114 (fun p23 => ?_)
  obtain ⟨r24, hx25, hF⟩ := bind_some hF
  refine Cx0 (s_IsMethod_ok _ _ _ _ _ hx25) (fun _ => ?_)
  iterate 2 refine au ?_
  refine Cc (fun hb28 => ?_) (fun hb28 => ?_)
  · rw [if_pos hb28] at hF
    iterate 4 refine au ?_
    cases hF
    exact Er ()
  rw [if_neg (nt hb28)] at hF
  iterate 6 refine au ?_
  rw [wk k4]
  exact ⟨_, Nat.lt_succ_self _, _, k4 + 1, rest5, rfl, eqA, hd10, entA, hF⟩

/-! spec.IsRule -/
def s_IsRule_L1 (a_s : List Int) (a_r : Rule) : List Int → Nat → Option (Bool)
  | [], k26 => some true
  | x28 :: rest27, k26 => (ix a_s a_r.From).bind fun x37 =>
    (s_l1In x28 0 (IntKind.i64.wrap (x37 - 1))).bind fun r43 =>
    if (!r43) then (
      some false)
    else (
      s_IsRule_L1 a_s a_r rest27 (k26 + 1))
def s_IsRule (a_s : List Int) (a_r : Rule) : Option (Bool) :=
  ((s_IsSchema a_s).bind fun r4 =>
    bif (!r4) then (some true)
    else ((s_l1In a_r.From 0 (IntKind.i64.wrap ((a_s.length : Int) - 1))).bind fun r8 =>
      bif (!r8) then (some true)
      else ((s_l1In a_r.To 0 (IntKind.i64.wrap ((a_s.length : Int) - 1))).bind fun r12 =>
        bif (!r12) then (some true)
        else ((ix a_s a_r.To).bind fun x16 =>
          some (((a_r.Map.length : Int) : Int) != x16))))).bind fun o2 =>
  match o2 with
  | c22 => if c22 then (
      some false)
    else (
      s_IsRule_L1 a_s a_r a_r.Map 0)
theorem s_IsRule_ok (a_s : List Int) (v0_0 : Sv) (a_r : Rule) (v1_2 : Sv) (R : Bool) (hF : s_IsRule a_s a_r = some R) :
    Fw.Spec Tryz.prog 130 [v0_0.v, (.agg [(.int .i64 a_r.From), (.int .i64 a_r.To), v1_2.v].toArray)] [crd (RdS 3 rdInt) v0_0.v a_s, crd (RdS 3 rdInt) v1_2.v a_r.Map] (fun _ : Unit => (.bool R)) (fun _ => []) := by
  refine Spec_enter (n := 58) Tryz.func130 rfl rfl (rs := [.tmp 4]) rfl rfl rfl ?_
  intro H0 F0
  unfold s_IsRule at hF
  refine au ?_
  refine AbR (fun k1 => ?_)
  iterate 3 refine au ?_
  obtain ⟨o2, hio2, hO3⟩ := bind_some hF
  refine K_draw [0, 1, 2, 3, 4, 5, 6, 7, 8, 9, 10, 11, 12, 13, 14, 15, 16, 17, 18, 19, 20, 21, 22, 23, 24, 25, 26, 27, 28, 29, 30, 31] [0, 1, 3, 7, 15, 31, 15, 79, 207, 511, 1023, 2047, 4095, 8191, 16383, 8191, 40959, 106495, 262143, 524287, 1048575, 2097151, 4194303, 8388607, 16777215, 4194303, 4194303, 71303167, 239075327, 507510783, 1073741823, 2147483647] [1, 9, 18] mixed (by decide +kernel) ?_
  refine D_cut (fun f' cs' => ∃ (c22 : Bool) (g : Fr), c22 = o2 ∧ f' = updL g [(0, v0_0.v), (3, (.pointer (some ⟨k1, 0, some 0⟩))), (37, (.bool c22))] ∧ Ent cs' [crd (RdS 3 rdInt) v0_0.v a_s, cboR k1 116 (.agg [(.int .i64 a_r.From), (.int .i64 a_r.To), v1_2.v].toArray), crd (RdS 3 rdInt) v1_2.v a_r.Map]) ?_ ?_
  · replace hF := hio2
    refine du ?_
    obtain ⟨r4, hx5, hF⟩ := bind_some hF
    refine Dx0 (s_IsSchema_ok _ _ _ hx5) (fun _ => ?_)
    iterate 2 refine du ?_
    rcases Bool.eq_false_or_eq_true (!r4) with hg7 | hg7
    · rw [hg7]
      try rw [hg7] at hF; dsimp only [cond_true, cond_false] at hF
      iterate 29 refine du ?_
      cases hF
      exact ⟨_, _, rfl, eqA, entA⟩
    rw [hg7]
    try rw [hg7] at hF; dsimp only [cond_true, cond_false] at hF
    iterate 5 refine du ?_
    obtain ⟨r8, hx9, hF⟩ := bind_some hF
    refine Dx0 (s_l1In_ok _ _ _ _ hx9) (fun _ => ?_)
    iterate 3 refine du ?_
    rcases Bool.eq_false_or_eq_true (!r8) with hg11 | hg11
    · rw [hg11]
      try rw [hg11] at hF; dsimp only [cond_true, cond_false] at hF
      iterate 20 refine du ?_
      cases hF
      exact ⟨_, _, rfl, eqA, entA⟩
    rw [hg11]
    try rw [hg11] at hF; dsimp only [cond_true, cond_false] at hF
    iterate 5 refine du ?_
    obtain ⟨r12, hx13, hF⟩ := bind_some hF
    refine Dx0 (s_l1In_ok _ _ _ _ hx13) (fun _ => ?_)
    iterate 3 refine du ?_
    rcases Bool.eq_false_or_eq_true (!r12) with hg15 | hg15
    · rw [hg15]
      try rw [hg15] at hF; dsimp only [cond_true, cond_false] at hF
      iterate 11 refine du ?_
      cases hF
      exact ⟨_, _, rfl, eqA, entA⟩
    rw [hg15]
    try rw [hg15] at hF; dsimp only [cond_true, cond_false] at hF
    iterate 6 refine du ?_
    obtain ⟨x16, hx17, hF⟩ := bind_some hF
    obtain ⟨hp18, hx19⟩ := ix_some hx17
    refine Di hx19 (fun k20 j21 => ?_)
    refine Dl ls3_0 ?_
    iterate 3 refine du ?_
    cases hF
    exact ⟨_, _, rfl, eqA, entA⟩
  rintro _ _ ⟨c22, g49, rfl, rfl, hE⟩
  replace hF := hO3
  clear hO3
  try dsimp only at hF
  refine K_ent hE ?_
  refine Cc (fun hb48 => ?_) (fun hb48 => ?_)
  · rw [if_pos hb48] at hF
    iterate 4 refine au ?_
    cases hF
    exact Er ()
  rw [if_neg (nt hb48)] at hF
  iterate 5 refine au ?_
  refine CW_block (CW_loop (m := a_r.Map.length) (fun m24 f' cs' => ∃ (g : Fr) (k26 : Nat) (rest27 : List Int), m24 = rest27.length ∧ f' = updL g [(0, v0_0.v), (3, (.pointer (some ⟨k1, 0, some 0⟩))), (5, (.int .i64 (k26 : Int)))] ∧ List.drop k26 a_r.Map = rest27 ∧ Ent cs' [crd (RdS 3 rdInt) v0_0.v a_s, cboR k1 116 (.agg [(.int .i64 a_r.From), (.int .i64 a_r.To), v1_2.v].toArray), crd (RdS 3 rdInt) v1_2.v a_r.Map] ∧ s_IsRule_L1 a_s a_r rest27 k26 = some R) ⟨_, 0, _, rfl, eqA, rfl, entA, hF⟩ ?_)
  clear hF
  rintro m24 _ _ ⟨g25, k26, rest27, rfl, rfl, hd29, hE, hF⟩
  refine K_ent hE ?_
  clear hE
  refine K_pure (c := crd (RdS 3 rdInt) v1_2.v a_r.Map) (.t (.t .h)) crd_bound (fun hbd34 => ?_)
  rcases rest27 with _ | ⟨x28, rest27⟩
  · have hk30 := List.drop_eq_nil_iff.1 hd29
    rw [s_IsRule_L1] at hF
    iterate 8 refine au ?_
    refine CdF ?_
    iterate 8 refine au ?_
    cases hF
    exact Er ()
  obtain ⟨hk30, hx31, hd32⟩ := drop_cons hd29
  rw [s_IsRule_L1] at hF
  iterate 8 refine au ?_
  refine CdT ?_
  iterate 2 refine au ?_
  refine K_draw [0, 1, 2, 3, 4, 5, 6, 7, 8, 9, 10, 11, 12] [0, 1, 0, 7, 15, 0, 0, 64, 224, 480, 992, 2047, 4095] [11] mixed (by decide +kernel) ?_
  iterate 3 refine du ?_
  refine Di hx31 (fun k35 j36 => ?_)
  refine Dl ls3_0 ?_
  iterate 3 refine du ?_
  obtain ⟨x37, hx38, hF⟩ := bind_some hF
  obtain ⟨hp39, hx40⟩ := ix_some hx38
  refine Di hx40 (fun k41 j42 => ?_)
  refine Dl ls3_0 ?_
  refine du ?_
  obtain ⟨r43, hx44, hF⟩ := bind_some hF
  refine Dx0 (s_l1In_ok _ _ _ _ hx44) (fun _ => ?_)
  iterate 2 refine du ?_
  refine Cc (fun hb47 => ?_) (fun hb47 => ?_)
  · rw [if_pos hb47] at hF
    iterate 4 refine au ?_
    cases hF
    exact Er ()
  rw [if_neg (nt hb47)] at hF
  iterate 6 refine au ?_
  rw [wk k26]
  exact ⟨_, Nat.lt_succ_self _, _, k26 + 1, rest27, rfl, eqA, hd32, entA, hF⟩

/-! spec.AreRules -/
def s_AreRules_L1 (a_s : List Int) (a_l : List Rule) : List Rule → Nat → Option (Bool)
  | [], k4 => ((s_IsSchema a_s).bind fun r15 =>
      bif r15 then (some (decide (((a_l.length : Int) : Int) ≤ 4)))
      else (some false)).bind fun o13 =>
    match o13 with
    | c19 => some c19
  | x6 :: rest5, k4 => (s_IsRule a_s x6).bind fun r24 =>
    if (!r24) then (
      some false)
    else (
      s_AreRules_L1 a_s a_l rest5 (k4 + 1))
def s_AreRules (a_s : List Int) (a_l : List Rule) : Option (Bool) :=
  s_AreRules_L1 a_s a_l a_l 0
theorem s_AreRules_ok (a_s : List Int) (v0_0 : Sv) (a_l : List Rule) (v1_0 : Sv) (R : Bool) (hF : s_AreRules a_s a_l = some R) :
    Fw.Spec Tryz.prog 73 [v0_0.v, v1_0.v] [crd (RdS 3 rdInt) v0_0.v a_s, crd (RdS 116 rd116) v1_0.v a_l] (fun _ : Unit => (.bool R)) (fun _ => []) := by
  refine Spec_enter (n := 26) Tryz.func73 rfl rfl (rs := [.tmp 4]) rfl rfl rfl ?_
  intro H0 F0
  unfold s_AreRules at hF
  iterate 7 refine au ?_
  refine CW_block (CW_loop (m := a_l.length) (fun m2 f' cs' => ∃ (g : Fr) (k4 : Nat) (rest5 : List Rule), m2 = rest5.length ∧ f' = updL g [(0, v0_0.v), (1, v1_0.v), (5, (.int .i64 (k4 : Int)))] ∧ List.drop k4 a_l = rest5 ∧ Ent cs' [crd (RdS 3 rdInt) v0_0.v a_s, crd (RdS 116 rd116) v1_0.v a_l] ∧ s_AreRules_L1 a_s a_l rest5 k4 = some R) ⟨_, 0, _, rfl, eqA, rfl, entA, hF⟩ ?_)
  clear hF
  rintro m2 _ _ ⟨g3, k4, rest5, rfl, rfl, hd7, hE, hF⟩
  refine K_ent hE ?_
  clear hE
  refine K_pure (c := crd (RdS 116 rd116) v1_0.v a_l) (.t .h) crd_bound (fun hbd12 => ?_)
  rcases rest5 with _ | ⟨x6, rest5⟩
  · have hk8 := List.drop_eq_nil_iff.1 hd7
    rw [s_AreRules_L1] at hF
    iterate 7 refine au ?_
    refine CdF ?_
    iterate 4 refine au ?_
    obtain ⟨o13, hio13, hO14⟩ := bind_some hF
    refine au ?_
    refine C_cut (fun f' cs' => ∃ (c19 : Bool) (g : Fr), c19 = o13 ∧ f' = updL g [(4, (.bool c19))] ∧ Ent cs' []) ?_ ?_
    · replace hF := hio13
      refine au ?_
      obtain ⟨r15, hx16, hF⟩ := bind_some hF
      refine Cx0 (s_IsSchema_ok _ _ _ hx16) (fun _ => ?_)
      refine au ?_
      rcases Bool.eq_false_or_eq_true r15 with hg18 | hg18
      · rw [hg18]
        try rw [hg18] at hF; dsimp only [cond_true, cond_false] at hF
        iterate 9 refine au ?_
        cases hF
        exact ⟨_, _, rfl, eqA, entA⟩
      rw [hg18]
      try rw [hg18] at hF; dsimp only [cond_true, cond_false] at hF
      iterate 6 refine au ?_
      cases hF
      exact ⟨_, _, rfl, eqA, entA⟩
    rintro _ _ ⟨c19, g20, rfl, rfl, hE⟩
    replace hF := hO14
    clear hO14
    try dsimp only at hF
    refine K_ent hE ?_
    refine au ?_
    cases hF
    exact Er ()
  obtain ⟨hk8, hx9, hd10⟩ := drop_cons hd7
  rw [s_AreRules_L1] at hF
  iterate 7 refine au ?_
  refine CdT ?_
  iterate 6 refine au ?_
  refine Ai hx9 (fun k21 j22 => ?_)
  refine AlA1 (ul116_0_116 x6) la116_0_116 (fun p23 => ?_)
  obtain ⟨r24, hx25, hF⟩ := bind_some hF
  refine Cx0 (s_IsRule_ok _ _ _ _ _ hx25) (fun _ => ?_)
  iterate 2 refine au ?_
  refine Cc (fun hb28 => ?_) (fun hb28 => ?_)
  · rw [if_pos hb28] at hF
    iterate 4 refine au ?_
    cases hF
    exact Er ()
  rw [if_neg (nt hb28)] at hF
  iterate 6 refine au ?_
  rw [wk k4]
  exact ⟨_, Nat.lt_succ_self _, _, k4 + 1, rest5, rfl, eqA, hd10, entA, hF⟩

/-! spec.IsFact -/
def s_IsFact_L1 : List Int → Nat → Option (Bool)
  | [], k22 => some true
  | x24 :: rest23, k22 => (s_l1In x24 0 9).bind fun r33 =>
    if (!r33) then (
      some false)
    else (
      s_IsFact_L1 rest23 (k22 + 1))
def s_IsFact (a_s : List Int) (a_f : Fact) : Option (Bool) :=
  ((s_IsSchema a_s).bind fun r4 =>
    bif (!r4) then (some true)
    else ((s_l1In a_f.Rel 0 (IntKind.i64.wrap ((a_s.length : Int) - 1))).bind fun r8 =>
      bif (!r8) then (some true)
      else ((ix a_s a_f.Rel).bind fun x12 =>
        some (((a_f.Values.length : Int) : Int) != x12)))).bind fun o2 =>
  match o2 with
  | c18 => if c18 then (
      some false)
    else (
      s_IsFact_L1 a_f.Values 0)
theorem s_IsFact_ok (a_s : List Int) (v0_0 : Sv) (a_f : Fact) (v1_1 : Sv) (R : Bool) (hF : s_IsFact a_s a_f = some R) :
    Fw.Spec Tryz.prog 79 [v0_0.v, (.agg [(.int .i64 a_f.Rel), v1_1.v].toArray)] [crd (RdS 3 rdInt) v0_0.v a_s, crd (RdS 3 rdInt) v1_1.v a_f.Values] (fun _ : Unit => (.bool R)) (fun _ => []) := by
  refine Spec_enter (n := 43) Tryz.func79 rfl rfl (rs := [.tmp 4]) rfl rfl rfl ?_
  intro H0 F0
  unfold s_IsFact at hF
  refine au ?_
  refine AbR (fun k1 => ?_)
  iterate 3 refine au ?_
  obtain ⟨o2, hio2, hO3⟩ := bind_some hF
  refine K_draw [0, 1, 2, 3, 4, 5, 6, 7, 8, 9, 10, 11, 12, 13, 14, 15, 16, 17, 18, 19, 20, 21, 22] [0, 1, 3, 7, 15, 31, 15, 79, 207, 511, 1023, 2047, 4095, 8191, 16383, 32767, 8191, 8191, 139263, 466943, 991231, 2097151, 4194303] [1, 9] mixed (by decide +kernel) ?_
  refine D_cut (fun f' cs' => ∃ (c18 : Bool) (g : Fr), c18 = o2 ∧ f' = updL g [(3, (.pointer (some ⟨k1, 0, some 0⟩))), (28, (.bool c18))] ∧ Ent cs' [cboR k1 55 (.agg [(.int .i64 a_f.Rel), v1_1.v].toArray), crd (RdS 3 rdInt) v1_1.v a_f.Values]) ?_ ?_
  · replace hF := hio2
    refine du ?_
    obtain ⟨r4, hx5, hF⟩ := bind_some hF
    refine Dx0 (s_IsSchema_ok _ _ _ hx5) (fun _ => ?_)
    iterate 2 refine du ?_
    rcases Bool.eq_false_or_eq_true (!r4) with hg7 | hg7
    · rw [hg7]
      try rw [hg7] at hF; dsimp only [cond_true, cond_false] at hF
      iterate 20 refine du ?_
      cases hF
      exact ⟨_, _, rfl, eqA, entA⟩
    rw [hg7]
    try rw [hg7] at hF; dsimp only [cond_true, cond_false] at hF
    iterate 5 refine du ?_
    obtain ⟨r8, hx9, hF⟩ := bind_some hF
    refine Dx0 (s_l1In_ok _ _ _ _ hx9) (fun _ => ?_)
    iterate 3 refine du ?_
    rcases Bool.eq_false_or_eq_true (!r8) with hg11 | hg11
    · rw [hg11]
      try rw [hg11] at hF; dsimp only [cond_true, cond_false] at hF
      iterate 11 refine du ?_
      cases hF
      exact ⟨_, _, rfl, eqA, entA⟩
    rw [hg11]
    try rw [hg11] at hF; dsimp only [cond_true, cond_false] at hF
    iterate 6 refine du ?_
    obtain ⟨x12, hx13, hF⟩ := bind_some hF
    obtain ⟨hp14, hx15⟩ := ix_some hx13
    refine Di hx15 (fun k16 j17 => ?_)
    refine Dl ls3_0 ?_
    iterate 3 refine du ?_
    cases hF
    exact ⟨_, _, rfl, eqA, entA⟩
  rintro _ _ ⟨c18, g39, rfl, rfl, hE⟩
  replace hF := hO3
  clear hO3
  try dsimp only at hF
  refine K_ent hE ?_
  refine Cc (fun hb38 => ?_) (fun hb38 => ?_)
  · rw [if_pos hb38] at hF
    iterate 4 refine au ?_
    cases hF
    exact Er ()
  rw [if_neg (nt hb38)] at hF
  iterate 5 refine au ?_
  refine CW_block (CW_loop (m := a_f.Values.length) (fun m20 f' cs' => ∃ (g : Fr) (k22 : Nat) (rest23 : List Int), m20 = rest23.length ∧ f' = updL g [(3, (.pointer (some ⟨k1, 0, some 0⟩))), (5, (.int .i64 (k22 : Int)))] ∧ List.drop k22 a_f.Values = rest23 ∧ Ent cs' [cboR k1 55 (.agg [(.int .i64 a_f.Rel), v1_1.v].toArray), crd (RdS 3 rdInt) v1_1.v a_f.Values] ∧ s_IsFact_L1 rest23 k22 = some R) ⟨_, 0, _, rfl, eqA, rfl, entA, hF⟩ ?_)
  clear hF
  rintro m20 _ _ ⟨g21, k22, rest23, rfl, rfl, hd25, hE, hF⟩
  refine K_ent hE ?_
  clear hE
  refine K_pure (c := crd (RdS 3 rdInt) v1_1.v a_f.Values) (.t .h) crd_bound (fun hbd30 => ?_)
  rcases rest23 with _ | ⟨x24, rest23⟩
  · have hk26 := List.drop_eq_nil_iff.1 hd25
    rw [s_IsFact_L1] at hF
    iterate 8 refine au ?_
    refine CdF ?_
    iterate 8 refine au ?_
    cases hF
    exact Er ()
  obtain ⟨hk26, hx27, hd28⟩ := drop_cons hd25
  rw [s_IsFact_L1] at hF
  iterate 8 refine au ?_
  refine CdT ?_
  iterate 6 refine au ?_
  refine Ai hx27 (fun k31 j32 => ?_)
  refine Al ls3_0 ?_
  obtain ⟨r33, hx34, hF⟩ := bind_some hF
  refine Cx0 (s_l1In_ok _ _ _ _ hx34) (fun _ => ?_)
  iterate 2 refine au ?_
  refine Cc (fun hb37 => ?_) (fun hb37 => ?_)
  · rw [if_pos hb37] at hF
    iterate 4 refine au ?_
    cases hF
    exact Er ()
  rw [if_neg (nt hb37)] at hF
  iterate 6 refine au ?_
  rw [wk k22]
  exact ⟨_, Nat.lt_succ_self _, _, k22 + 1, rest23, rfl, eqA, hd28, entA, hF⟩

/-! spec.CompareFacts -/
def s_CompareFacts_L1 (a_a : Fact) (a_b : Fact) : Nat → Int → Option (Int)
  | 0, _ => none
  | m5 + 1, c4 => if ((decide ((c4 : Int) < (a_a.Values.length : Int))) && (decide ((c4 : Int) < (a_b.Values.length : Int)))) then (
      (ix a_a.Values c4).bind fun x15 =>
      (ix a_b.Values c4).bind fun x21 =>
      if (decide ((x15 : Int) < x21)) then (
        some (-1))
      else (
        (ix a_a.Values c4).bind fun x27 =>
        (ix a_b.Values c4).bind fun x33 =>
        if (decide ((x33 : Int) < x27)) then (
          some 1)
        else (
          s_CompareFacts_L1 a_a a_b m5 (IntKind.i64.wrap (c4 + 1)))))
    else (
      if (decide (((a_a.Values.length : Int) : Int) < (a_b.Values.length : Int))) then (
        some (-1))
      else (
        if (decide (((a_b.Values.length : Int) : Int) < (a_a.Values.length : Int))) then (
          some 1)
        else (
          some 0)))
def s_CompareFacts (a_a : Fact) (a_b : Fact) : Option (Int) :=
  if ((a_a.Rel : Int) != a_b.Rel) then (
    if (decide ((a_a.Rel : Int) < a_b.Rel)) then (
      some (-1))
    else (
      some 1))
  else (
    s_CompareFacts_L1 a_a a_b (((a_a.Values.length : Int) - 0).toNat + 2) 0)
theorem s_CompareFacts_ok (a_a : Fact) (v0_1 : Sv) (a_b : Fact) (v1_1 : Sv) (R : Int) (hF : s_CompareFacts a_a a_b = some R) :
    Fw.Spec Tryz.prog 82 [(.agg [(.int .i64 a_a.Rel), v0_1.v].toArray), (.agg [(.int .i64 a_b.Rel), v1_1.v].toArray)] [crd (RdS 3 rdInt) v0_1.v a_a.Values, crd (RdS 3 rdInt) v1_1.v a_b.Values] (fun _ : Unit => (.int .i64 R)) (fun _ => []) := by
  refine Spec_enter (n := 66) Tryz.func82 rfl rfl (rs := [.tmp 4]) rfl rfl rfl ?_
  intro H0 F0
  unfold s_CompareFacts at hF
  refine au ?_
  refine AbR (fun k1 => ?_)
  refine AbR (fun k2 => ?_)
  iterate 10 refine au ?_
  refine Cc (fun hb44 => ?_) (fun hb44 => ?_)
  · rw [if_pos hb44] at hF
    iterate 8 refine au ?_
    refine Cc (fun hb3 => ?_) (fun hb3 => ?_)
    · rw [if_pos hb3] at hF
      iterate 4 refine au ?_
      cases hF
      exact Er ()
    rw [if_neg (nt hb3)] at hF
    iterate 5 refine au ?_
    cases hF
    exact Er ()
  rw [if_neg (nt hb44)] at hF
  iterate 5 refine au ?_
  refine CW_block (CW_loop (m := (((a_a.Values.length : Int) - 0).toNat + 2)) (fun m5 f' cs' => ∃ (g : Fr) (c4 : Int), f' = updL g [(2, (.pointer (some ⟨k1, 0, some 0⟩))), (3, (.pointer (some ⟨k2, 0, some 0⟩))), (5, (.int .i64 c4))] ∧ Ent cs' [cboR k1 55 (.agg [(.int .i64 a_a.Rel), v0_1.v].toArray), crd (RdS 3 rdInt) v0_1.v a_a.Values, cboR k2 55 (.agg [(.int .i64 a_b.Rel), v1_1.v].toArray), crd (RdS 3 rdInt) v1_1.v a_b.Values] ∧ s_CompareFacts_L1 a_a a_b m5 c4 = some R) ⟨_, _, eqA, entA, hF⟩ ?_)
  clear hF
  rintro m5 _ _ ⟨g6, c4, rfl, hE, hF⟩
  refine K_ent hE ?_
  clear hE
  rcases m5 with _ | m5
  · rw [s_CompareFacts_L1] at hF
    exact absurd hF (by simp)
  rw [s_CompareFacts_L1] at hF
  iterate 2 refine au ?_
  refine C_cut (fun f' cs' => ∃ (g : Fr), f' = updL g [(2, (.pointer (some ⟨k1, 0, some 0⟩))), (3, (.pointer (some ⟨k2, 0, some 0⟩))), (5, (.int .i64 c4)), (27, (.bool ((decide ((c4 : Int) < (a_a.Values.length : Int))) && (decide ((c4 : Int) < (a_b.Values.length : Int))))))] ∧ Ent cs' [cboR k1 55 (.agg [(.int .i64 a_a.Rel), v0_1.v].toArray), crd (RdS 3 rdInt) v0_1.v a_a.Values, cboR k2 55 (.agg [(.int .i64 a_b.Rel), v1_1.v].toArray), crd (RdS 3 rdInt) v1_1.v a_b.Values]) ?_ ?_
  · iterate 6 refine au ?_
    rcases Bool.eq_false_or_eq_true (decide ((c4 : Int) < (a_a.Values.length : Int))) with hg13 | hg13
    · rw [hg13]
      try rw [hg13] at hF; dsimp only [cond_true, cond_false] at hF
      iterate 12 refine au ?_
      exact ⟨_, eqA, entA⟩
    rw [hg13]
    try rw [hg13] at hF; dsimp only [cond_true, cond_false] at hF
    iterate 7 refine au ?_
    exact ⟨_, eqA, entA⟩
  rintro _ _ ⟨g14, rfl, hE⟩
  refine K_ent hE ?_
  refine Cc (fun hb43 => ?_) (fun hb43 => ?_)
  · rw [if_pos hb43] at hF
    iterate 3 refine au ?_
    refine K_draw [0, 1, 2, 3, 4, 5, 6, 7, 8, 9, 10] [0, 1, 0, 7, 15, 0, 32, 0, 224, 480, 1023] [] mixed (by decide +kernel) ?_
    iterate 3 refine du ?_
    obtain ⟨x15, hx16, hF⟩ := bind_some hF
    obtain ⟨hp17, hx18⟩ := ix_some hx16
    refine Di hx18 (fun k19 j20 => ?_)
    refine Dl ls3_0 ?_
    iterate 3 refine du ?_
    obtain ⟨x21, hx22, hF⟩ := bind_some hF
    obtain ⟨hp23, hx24⟩ := ix_some hx22
    refine Di hx24 (fun k25 j26 => ?_)
    refine Dl ls3_0 ?_
    iterate 2 refine du ?_
    refine Cc (fun hb40 => ?_) (fun hb40 => ?_)
    · rw [if_pos hb40] at hF
      iterate 4 refine au ?_
      cases hF
      exact Er ()
    rw [if_neg (nt hb40)] at hF
    refine au ?_
    refine K_draw [0, 1, 2, 3, 4, 5, 6, 7, 8, 9, 10] [0, 1, 0, 7, 15, 0, 32, 0, 224, 480, 1023] [] mixed (by decide +kernel) ?_
    iterate 3 refine du ?_
    obtain ⟨x27, hx28, hF⟩ := bind_some hF
    obtain ⟨hp29, hx30⟩ := ix_some hx28
    refine Di hx30 (fun k31 j32 => ?_)
    refine Dl ls3_0 ?_
    iterate 3 refine du ?_
    obtain ⟨x33, hx34, hF⟩ := bind_some hF
    obtain ⟨hp35, hx36⟩ := ix_some hx34
    refine Di hx36 (fun k37 j38 => ?_)
    refine Dl ls3_0 ?_
    iterate 2 refine du ?_
    refine Cc (fun hb39 => ?_) (fun hb39 => ?_)
    · rw [if_pos hb39] at hF
      iterate 4 refine au ?_
      cases hF
      exact Er ()
    rw [if_neg (nt hb39)] at hF
    iterate 6 refine au ?_
    exact ⟨m5, Nat.lt_succ_self _, _, _, eqA, entA, hF⟩
  rw [if_neg (nt hb43)] at hF
  iterate 14 refine au ?_
  refine Cc (fun hb42 => ?_) (fun hb42 => ?_)
  · rw [if_pos hb42] at hF
    iterate 4 refine au ?_
    cases hF
    exact Er ()
  rw [if_neg (nt hb42)] at hF
  iterate 11 refine au ?_
  refine Cc (fun hb41 => ?_) (fun hb41 => ?_)
  · rw [if_pos hb41] at hF
    iterate 4 refine au ?_
    cases hF
    exact Er ()
  rw [if_neg (nt hb41)] at hF
  iterate 5 refine au ?_
  cases hF
  exact Er ()

end Go.Proofs.YtelpifelhmfdmaaGreat
