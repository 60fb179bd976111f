/-
  Functions of the program as Lean functions, and that the calls return what these say: part 1. No conditions.
-/
import Derived.Test.YtopbakibjfoccaaGreatFcWhyReached
import Derived.Shelf.Sort.Plain
import Derived.Shelf.Slices.In.SortNone
import Derived.Shelf.Slices.CompactI
import Derived.Test.YtopbakibjfoccaaGreatProg
import Derived.KernelRfl
set_option maxRecDepth 100000
set_option maxHeartbeats 1000000
set_option linter.unusedVariables false
namespace Go.Proofs.YtopbakibjfoccaaGreat
open Go Go.Fw

instance : LaidP Tryz.prog := ⟨fun _ => True⟩
structure Method where
 Rel : Int
 Inputs : List Int
 Limit : Int
 Cost : Int
 Quota : Int
structure Fact where
 Rel : Int
 Values : List Int
instance ty26 : ITY Tryz.prog 26 2 32 (.agg [(.int .i64 0), (.slice none 0 0)].toArray) := ⟨by unfold TY; kernel_rfl⟩
instance sl22 : ISL Tryz.prog 22 3 := ⟨by unfold SL; kernel_rfl⟩
instance cf5 : ICF Tryz.prog 5 := ⟨Tryz.call5⟩
instance sl23 : ISL Tryz.prog 23 61 := ⟨by unfold SL; kernel_rfl⟩
def rd61 (H : AHeap) (v : Value) (a : Method) : Prop := ∃ v0 : Sv, v = .agg [(.int .i64 a.Rel), v0.v, (.int .i64 a.Limit), (.int .i64 a.Cost), (.int .i64 a.Quota)].toArray ∧ (RdS 3 rdInt) H v0.v a.Inputs
instance : Mono rd61 := ⟨fun h hi => by
 obtain ⟨v0, h, h0⟩ := h
 exact ⟨v0, h, Mono.up h0 hi⟩⟩
instance : Cells rd61 5 := ⟨fun h => by
 obtain ⟨v0, rfl, h0⟩ := h
 exact ⟨rfl, rfl⟩⟩
instance ty61 : ITY Tryz.prog 61 5 56 (.agg [(.int .i64 0), (.slice none 0 0), (.int .i64 0), (.int .i64 0), (.int .i64 0)].toArray) := ⟨by unfold TY; kernel_rfl⟩
def ul61_0_61 (a : Method) (p : Sv) : List Value := [(.int .i64 a.Rel), p.v, (.int .i64 a.Limit), (.int .i64 a.Cost), (.int .i64 a.Quota)]
theorem la61_0_61 {a : Method} : ∀ H e, rd61 H e a → ∃ i : Sv, 0 + 5 ≤ e.cells.size ∧ (e.cells.toList.drop 0).take 5 = ul61_0_61 a i ∧ ∀ c ∈ ([crd (RdS 3 rdInt) i.v a.Inputs] : List Comp), c.P H ∧ c.F = [] := by
 intro H e h
 obtain ⟨v0, rfl, h0⟩ := h
 refine ⟨v0, Nat.le_of_ble_eq_true rfl, rfl, fun c hc => by
   simp only [List.mem_cons, List.not_mem_nil, or_false] at hc
   rcases hc with rfl
   · exact ⟨h0, rfl⟩
⟩
instance ag61 : IAG Tryz.prog 61 true := ⟨by unfold AG; kernel_rfl⟩
instance cf30 : ICF Tryz.prog 30 := ⟨Tryz.call30⟩
instance fd61_1 : IFD Tryz.prog 61 1 1 := ⟨by unfold FD; kernel_rfl⟩
instance ag22 : IAG Tryz.prog 22 false := ⟨by unfold AG; kernel_rfl⟩
instance cf31 : ICF Tryz.prog 31 := ⟨Tryz.call31⟩
instance cf6 : ICF Tryz.prog 6 := ⟨Tryz.call6⟩
instance sl24 : ISL Tryz.prog 24 26 := ⟨by unfold SL; kernel_rfl⟩
def rd26 (H : AHeap) (v : Value) (a : Fact) : Prop := ∃ v0 : Sv, v = .agg [(.int .i64 a.Rel), v0.v].toArray ∧ (RdS 3 rdInt) H v0.v a.Values
instance : Mono rd26 := ⟨fun h hi => by
 obtain ⟨v0, h, h0⟩ := h
 exact ⟨v0, h, Mono.up h0 hi⟩⟩
instance : Cells rd26 2 := ⟨fun h => by
 obtain ⟨v0, rfl, h0⟩ := h
 exact ⟨rfl, rfl⟩⟩
def ul26_0_26 (a : Fact) (p : Sv) : List Value := [(.int .i64 a.Rel), p.v]
theorem la26_0_26 {a : Fact} : ∀ H e, rd26 H e a → ∃ i : Sv, 0 + 2 ≤ e.cells.size ∧ (e.cells.toList.drop 0).take 2 = ul26_0_26 a i ∧ ∀ c ∈ ([crd (RdS 3 rdInt) i.v a.Values] : List Comp), c.P H ∧ c.F = [] := by
 intro H e h
 obtain ⟨v0, rfl, h0⟩ := h
 refine ⟨v0, Nat.le_of_ble_eq_true rfl, rfl, fun c hc => by
   simp only [List.mem_cons, List.not_mem_nil, or_false] at hc
   rcases hc with rfl
   · exact ⟨h0, rfl⟩
⟩
instance ag26 : IAG Tryz.prog 26 true := ⟨by unfold AG; kernel_rfl⟩
instance cf7 : ICF Tryz.prog 7 := ⟨Tryz.call7⟩
instance fd26_1 : IFD Tryz.prog 26 1 1 := ⟨by unfold FD; kernel_rfl⟩
theorem mixed : Tryz.prog.follows .mixedOrders = true := by kernel_rfl
structure Access where
 Method : Int
 Values : List Int
instance ty31 : ITY Tryz.prog 31 2 32 (.agg [(.int .i64 0), (.slice none 0 0)].toArray) := ⟨by unfold TY; kernel_rfl⟩
instance cf9 : ICF Tryz.prog 9 := ⟨Tryz.call9⟩
instance ty3 : ITY Tryz.prog 3 1 8 (.int .i64 0) := ⟨by unfold TY; kernel_rfl⟩
theorem ls3_0 {a : Int} : ∀ H e, rdInt H e a → e.cells.toList[0]? = some (.int .i64 a) := by
 intro H e h
 subst h
 rfl
instance ag3 : IAG Tryz.prog 3 false := ⟨by unfold AG; kernel_rfl⟩
instance cf10 : ICF Tryz.prog 10 := ⟨Tryz.call10⟩
instance sl35 : ISL Tryz.prog 35 65 := ⟨by unfold SL; kernel_rfl⟩
instance ty65 : ITY Tryz.prog 65 5 56 (.agg [(.int .i64 0), (.slice none 0 0), (.int .i64 0), (.int .i64 0), (.int .i64 0)].toArray) := ⟨by unfold TY; kernel_rfl⟩
def rd65 (H : AHeap) (v : Value) (a : Method) : Prop := ∃ v0 : Sv, v = .agg [(.int .i64 a.Rel), v0.v, (.int .i64 a.Limit), (.int .i64 a.Cost), (.int .i64 a.Quota)].toArray ∧ (RdS 3 rdInt) H v0.v a.Inputs
instance : Mono rd65 := ⟨fun h hi => by
 obtain ⟨v0, h, h0⟩ := h
 exact ⟨v0, h, Mono.up h0 hi⟩⟩
instance : Cells rd65 5 := ⟨fun h => by
 obtain ⟨v0, rfl, h0⟩ := h
 exact ⟨rfl, rfl⟩⟩
def ow65 : ORel Method := fun F H v a => ∃ (v0 : Sv) (F0 : List Nat), v = .agg [(.int .i64 a.Rel), v0.v, (.int .i64 a.Limit), (.int .i64 a.Cost), (.int .i64 a.Quota)].toArray ∧ F0 = F ∧ (OwnS 3 (roE rdInt)) F0 H v0.v a.Inputs
instance : Keep ow65 := ⟨fun h hi hg => by
 obtain ⟨v0, F0, rfl, rfl, h0⟩ := h
 exact ⟨v0, F0, rfl, rfl, Keep.keep h0 hi (fun k hk => hg k (by simp [hk]))⟩⟩
instance : Local ow65 := ⟨fun h hg => by
 obtain ⟨v0, F0, rfl, rfl, h0⟩ := h
 exact ⟨v0, F0, rfl, rfl, Local.keep h0 (fun k hk => hg k (by simp [hk]))⟩⟩
instance : Owns ow65 := ⟨fun h k hk => by
 obtain ⟨v0, F0, rfl, rfl, h0⟩ := h
 exact Owns.owns h0 k hk
⟩
instance : OCells ow65 5 := ⟨fun h => by
 obtain ⟨v0, F0, rfl, rfl, h0⟩ := h
 exact ⟨rfl, rfl⟩⟩
instance : Frz ow65 rd65 := ⟨fun h hg => by
 obtain ⟨v0, F0, rfl, rfl, h0⟩ := h
 exact ⟨v0, rfl, Frz.frz h0 (fun k hk => hg k (by simp [hk]))⟩⟩
instance cf35 : ICF Tryz.prog 35 := ⟨Tryz.call35⟩
instance fd61_0 : IFD Tryz.prog 61 0 0 := ⟨by unfold FD; kernel_rfl⟩
instance fd65_0 : IFD Tryz.prog 65 0 0 := ⟨by unfold FD; kernel_rfl⟩
instance fd65_1 : IFD Tryz.prog 65 1 1 := ⟨by unfold FD; kernel_rfl⟩
instance ty22 : ITY Tryz.prog 22 1 24 (.slice none 0 0) := ⟨by unfold TY; kernel_rfl⟩
instance fd61_2 : IFD Tryz.prog 61 2 2 := ⟨by unfold FD; kernel_rfl⟩
instance fd65_2 : IFD Tryz.prog 65 2 2 := ⟨by unfold FD; kernel_rfl⟩
instance fd61_3 : IFD Tryz.prog 61 3 3 := ⟨by unfold FD; kernel_rfl⟩
instance fd65_3 : IFD Tryz.prog 65 3 3 := ⟨by unfold FD; kernel_rfl⟩
instance fd61_4 : IFD Tryz.prog 61 4 4 := ⟨by unfold FD; kernel_rfl⟩
instance fd65_4 : IFD Tryz.prog 65 4 4 := ⟨by unfold FD; kernel_rfl⟩
instance ag65 : IAG Tryz.prog 65 true := ⟨by unfold AG; kernel_rfl⟩
theorem mk65 {a : Method} {v0 : Sv} {F0 : List Nat} : Mk ow65 F0 (.agg [(.int .i64 a.Rel), v0.v, (.int .i64 a.Limit), (.int .i64 a.Cost), (.int .i64 a.Quota)].toArray) a [cown (OwnS 3 (roE rdInt)) F0 v0.v a.Inputs] :=
 ⟨fun H h => ⟨v0, F0, rfl, rfl, h (cown (OwnS 3 (roE rdInt)) F0 v0.v a.Inputs) (by simp)⟩, by simp [cown]⟩
instance cf11 : ICF Tryz.prog 11 := ⟨Tryz.call11⟩
instance sl37 : ISL Tryz.prog 37 39 := ⟨by unfold SL; kernel_rfl⟩
instance ty39 : ITY Tryz.prog 39 2 32 (.agg [(.int .i64 0), (.slice none 0 0)].toArray) := ⟨by unfold TY; kernel_rfl⟩
def rd39 (H : AHeap) (v : Value) (a : Fact) : Prop := ∃ v0 : Sv, v = .agg [(.int .i64 a.Rel), v0.v].toArray ∧ (RdS 3 rdInt) H v0.v a.Values
instance : Mono rd39 := ⟨fun h hi => by
 obtain ⟨v0, h, h0⟩ := h
 exact ⟨v0, h, Mono.up h0 hi⟩⟩
instance : Cells rd39 2 := ⟨fun h => by
 obtain ⟨v0, rfl, h0⟩ := h
 exact ⟨rfl, rfl⟩⟩
def ow39 : ORel Fact := fun F H v a => ∃ (v0 : Sv) (F0 : List Nat), v = .agg [(.int .i64 a.Rel), v0.v].toArray ∧ F0 = F ∧ (OwnS 3 (roE rdInt)) F0 H v0.v a.Values
instance : Keep ow39 := ⟨fun h hi hg => by
 obtain ⟨v0, F0, rfl, rfl, h0⟩ := h
 exact ⟨v0, F0, rfl, rfl, Keep.keep h0 hi (fun k hk => hg k (by simp [hk]))⟩⟩
instance : Local ow39 := ⟨fun h hg => by
 obtain ⟨v0, F0, rfl, rfl, h0⟩ := h
 exact ⟨v0, F0, rfl, rfl, Local.keep h0 (fun k hk => hg k (by simp [hk]))⟩⟩
instance : Owns ow39 := ⟨fun h k hk => by
 obtain ⟨v0, F0, rfl, rfl, h0⟩ := h
 exact Owns.owns h0 k hk
⟩
instance : OCells ow39 2 := ⟨fun h => by
 obtain ⟨v0, F0, rfl, rfl, h0⟩ := h
 exact ⟨rfl, rfl⟩⟩
instance : Frz ow39 rd39 := ⟨fun h hg => by
 obtain ⟨v0, F0, rfl, rfl, h0⟩ := h
 exact ⟨v0, rfl, Frz.frz h0 (fun k hk => hg k (by simp [hk]))⟩⟩
instance cf12 : ICF Tryz.prog 12 := ⟨Tryz.call12⟩
instance fd26_0 : IFD Tryz.prog 26 0 0 := ⟨by unfold FD; kernel_rfl⟩
instance fd39_0 : IFD Tryz.prog 39 0 0 := ⟨by unfold FD; kernel_rfl⟩
instance fd39_1 : IFD Tryz.prog 39 1 1 := ⟨by unfold FD; kernel_rfl⟩
instance ag39 : IAG Tryz.prog 39 true := ⟨by unfold AG; kernel_rfl⟩
theorem mk39 {a : Fact} {v0 : Sv} {F0 : List Nat} : Mk ow39 F0 (.agg [(.int .i64 a.Rel), v0.v].toArray) a [cown (OwnS 3 (roE rdInt)) F0 v0.v a.Values] :=
 ⟨fun H h => ⟨v0, F0, rfl, rfl, h (cown (OwnS 3 (roE rdInt)) F0 v0.v a.Values) (by simp)⟩, by simp [cown]⟩
instance cf8 : ICF Tryz.prog 8 := ⟨Tryz.call8⟩
instance cf25 : ICF Tryz.prog 25 := ⟨Tryz.call25⟩
structure Reached where
 Facts : List Fact
 Values : List Int
 Log : List Access
 Rounds : Int
instance ty54 : ITY Tryz.prog 54 4 80 (.agg [(.slice none 0 0), (.slice none 0 0), (.slice none 0 0), (.int .i64 0)].toArray) := ⟨by unfold TY; kernel_rfl⟩
instance cf43 : ICF Tryz.prog 43 := ⟨Tryz.call43⟩
instance ag54 : IAG Tryz.prog 54 true := ⟨by unfold AG; kernel_rfl⟩
def rd31 (H : AHeap) (v : Value) (a : Access) : Prop := ∃ v0 : Sv, v = .agg [(.int .i64 a.Method), v0.v].toArray ∧ (RdS 3 rdInt) H v0.v a.Values
instance : Mono rd31 := ⟨fun h hi => by
 obtain ⟨v0, h, h0⟩ := h
 exact ⟨v0, h, Mono.up h0 hi⟩⟩
instance : Cells rd31 2 := ⟨fun h => by
 obtain ⟨v0, rfl, h0⟩ := h
 exact ⟨rfl, rfl⟩⟩
def ow31 : ORel Access := fun F H v a => ∃ (v0 : Sv) (F0 : List Nat), v = .agg [(.int .i64 a.Method), v0.v].toArray ∧ F0 = F ∧ (OwnS 3 (roE rdInt)) F0 H v0.v a.Values
instance : Keep ow31 := ⟨fun h hi hg => by
 obtain ⟨v0, F0, rfl, rfl, h0⟩ := h
 exact ⟨v0, F0, rfl, rfl, Keep.keep h0 hi (fun k hk => hg k (by simp [hk]))⟩⟩
instance : Local ow31 := ⟨fun h hg => by
 obtain ⟨v0, F0, rfl, rfl, h0⟩ := h
 exact ⟨v0, F0, rfl, rfl, Local.keep h0 (fun k hk => hg k (by simp [hk]))⟩⟩
instance : Owns ow31 := ⟨fun h k hk => by
 obtain ⟨v0, F0, rfl, rfl, h0⟩ := h
 exact Owns.owns h0 k hk
⟩
instance : OCells ow31 2 := ⟨fun h => by
 obtain ⟨v0, F0, rfl, rfl, h0⟩ := h
 exact ⟨rfl, rfl⟩⟩
instance : Frz ow31 rd31 := ⟨fun h hg => by
 obtain ⟨v0, F0, rfl, rfl, h0⟩ := h
 exact ⟨v0, rfl, Frz.frz h0 (fun k hk => hg k (by simp [hk]))⟩⟩
instance cf66 : ICF Tryz.prog 66 := ⟨Tryz.call66⟩
instance fd54_1 : IFD Tryz.prog 54 1 1 := ⟨by unfold FD; kernel_rfl⟩
instance cf67 : ICF Tryz.prog 67 := ⟨Tryz.call67⟩
instance cf92 : ICF Tryz.prog 92 := ⟨Tryz.call92⟩
theorem ni22 : NotInt Tryz.prog 22 := .inr ⟨3, by kernel_rfl⟩
instance cf44 : ICF Tryz.prog 44 := ⟨Tryz.call44⟩
instance cf68 : ICF Tryz.prog 68 := ⟨Tryz.call68⟩
instance cf74 : ICF Tryz.prog 74 := ⟨Tryz.call74⟩
def ul65_0_65 (a : Method) (p : Sv) : List Value := [(.int .i64 a.Rel), p.v, (.int .i64 a.Limit), (.int .i64 a.Cost), (.int .i64 a.Quota)]
theorem la65_0_65 {a : Method} : ∀ H e, rd65 H e a → ∃ i : Sv, 0 + 5 ≤ e.cells.size ∧ (e.cells.toList.drop 0).take 5 = ul65_0_65 a i ∧ ∀ c ∈ ([crd (RdS 3 rdInt) i.v a.Inputs] : List Comp), c.P H ∧ c.F = [] := by
 intro H e h
 obtain ⟨v0, rfl, h0⟩ := h
 refine ⟨v0, Nat.le_of_ble_eq_true rfl, rfl, fun c hc => by
   simp only [List.mem_cons, List.not_mem_nil, or_false] at hc
   rcases hc with rfl
   · exact ⟨h0, rfl⟩
⟩
instance cf93 : ICF Tryz.prog 93 := ⟨Tryz.call93⟩
instance cf52 : ICF Tryz.prog 52 := ⟨Tryz.call52⟩
def ul39_0_39 (a : Fact) (p : Sv) : List Value := [(.int .i64 a.Rel), p.v]
theorem la39_0_39 {a : Fact} : ∀ H e, rd39 H e a → ∃ i : Sv, 0 + 2 ≤ e.cells.size ∧ (e.cells.toList.drop 0).take 2 = ul39_0_39 a i ∧ ∀ c ∈ ([crd (RdS 3 rdInt) i.v a.Values] : List Comp), c.P H ∧ c.F = [] := by
 intro H e h
 obtain ⟨v0, rfl, h0⟩ := h
 refine ⟨v0, Nat.le_of_ble_eq_true rfl, rfl, fun c hc => by
   simp only [List.mem_cons, List.not_mem_nil, or_false] at hc
   rcases hc with rfl
   · exact ⟨h0, rfl⟩
⟩
instance cf73 : ICF Tryz.prog 73 := ⟨Tryz.call73⟩
instance cf50 : ICF Tryz.prog 50 := ⟨Tryz.call50⟩
instance cf69 : ICF Tryz.prog 69 := ⟨Tryz.call69⟩
instance fd54_0 : IFD Tryz.prog 54 0 0 := ⟨by unfold FD; kernel_rfl⟩
instance ag37 : IAG Tryz.prog 37 false := ⟨by unfold AG; kernel_rfl⟩
instance fd54_3 : IFD Tryz.prog 54 3 3 := ⟨by unfold FD; kernel_rfl⟩
instance cf70 : ICF Tryz.prog 70 := ⟨Tryz.call70⟩
instance cf94 : ICF Tryz.prog 94 := ⟨Tryz.call94⟩
theorem ls39_0 {a : Fact} : ∀ H e, rd39 H e a → e.cells.toList[0]? = some (.int .i64 a.Rel) := by
 intro H e h
 obtain ⟨_, rfl, _⟩ := h
 rfl
theorem lv39_1 {a : Fact} : ∀ H e, rd39 H e a → ∃ w : Sv, e.cells.toList[1]? = some w.v ∧ (RdS 3 rdInt) H w.v a.Values := by
 intro H e h
 obtain ⟨v0, rfl, h0⟩ := h
 exact ⟨v0, rfl, h0⟩
instance cf76 : ICF Tryz.prog 76 := ⟨Tryz.call76⟩
theorem ni37 : NotInt Tryz.prog 37 := .inr ⟨39, by kernel_rfl⟩
instance fd54_2 : IFD Tryz.prog 54 2 2 := ⟨by unfold FD; kernel_rfl⟩
instance ag52 : IAG Tryz.prog 52 false := ⟨by unfold AG; kernel_rfl⟩
instance cf95 : ICF Tryz.prog 95 := ⟨Tryz.call95⟩
instance sl52 : ISL Tryz.prog 52 31 := ⟨by unfold SL; kernel_rfl⟩
instance fd31_0 : IFD Tryz.prog 31 0 0 := ⟨by unfold FD; kernel_rfl⟩
theorem ls31_0 {a : Access} : ∀ H e, rd31 H e a → e.cells.toList[0]? = some (.int .i64 a.Method) := by
 intro H e h
 obtain ⟨_, rfl, _⟩ := h
 rfl
instance fd31_1 : IFD Tryz.prog 31 1 1 := ⟨by unfold FD; kernel_rfl⟩
theorem lv31_1 {a : Access} : ∀ H e, rd31 H e a → ∃ w : Sv, e.cells.toList[1]? = some w.v ∧ (RdS 3 rdInt) H w.v a.Values := by
 intro H e h
 obtain ⟨v0, rfl, h0⟩ := h
 exact ⟨v0, rfl, h0⟩
instance cf34 : ICF Tryz.prog 34 := ⟨Tryz.call34⟩
instance ag31 : IAG Tryz.prog 31 true := ⟨by unfold AG; kernel_rfl⟩
theorem mk31 {a : Access} {v0 : Sv} {F0 : List Nat} : Mk ow31 F0 (.agg [(.int .i64 a.Method), v0.v].toArray) a [cown (OwnS 3 (roE rdInt)) F0 v0.v a.Values] :=
 ⟨fun H h => ⟨v0, F0, rfl, rfl, h (cown (OwnS 3 (roE rdInt)) F0 v0.v a.Values) (by simp)⟩, by simp [cown]⟩
theorem ni52 : NotInt Tryz.prog 52 := .inr ⟨31, by kernel_rfl⟩
instance ty52 : ITY Tryz.prog 52 1 24 (.slice none 0 0) := ⟨by unfold TY; kernel_rfl⟩
instance cf71 : ICF Tryz.prog 71 := ⟨Tryz.call71⟩
instance cf96 : ICF Tryz.prog 96 := ⟨Tryz.call96⟩
theorem ls65_2 {a : Method} : ∀ H e, rd65 H e a → e.cells.toList[2]? = some (.int .i64 a.Limit) := by
 intro H e h
 obtain ⟨_, rfl, _⟩ := h
 rfl
theorem lv65_1 {a : Method} : ∀ H e, rd65 H e a → ∃ w : Sv, e.cells.toList[1]? = some w.v ∧ (RdS 3 rdInt) H w.v a.Inputs := by
 intro H e h
 obtain ⟨v0, rfl, h0⟩ := h
 exact ⟨v0, rfl, h0⟩
instance cf113 : ICF Tryz.prog 113 := ⟨Tryz.call113⟩
instance sl115 : ISL Tryz.prog 115 22 := ⟨by unfold SL; kernel_rfl⟩
theorem lv22_0 {a : List Int} : ∀ H e, (RdS 3 rdInt) H e a → ∃ w : Sv, e.cells.toList[0]? = some w.v ∧ (RdS 3 rdInt) H w.v a := by
 intro H e h
 obtain ⟨a0, m, rfl⟩ := RdS.len h
 exact ⟨⟨a0, _, m⟩, rfl, h⟩
theorem ni115 : NotInt Tryz.prog 115 := .inr ⟨22, by kernel_rfl⟩
instance cf114 : ICF Tryz.prog 114 := ⟨Tryz.call114⟩
def ul31_0_31 (a : Access) (p : Sv) : List Value := [(.int .i64 a.Method), p.v]
theorem la31_0_31 {a : Access} : ∀ H e, rd31 H e a → ∃ i : Sv, 0 + 2 ≤ e.cells.size ∧ (e.cells.toList.drop 0).take 2 = ul31_0_31 a i ∧ ∀ c ∈ ([crd (RdS 3 rdInt) i.v a.Values] : List Comp), c.P H ∧ c.F = [] := by
 intro H e h
 obtain ⟨v0, rfl, h0⟩ := h
 refine ⟨v0, Nat.le_of_ble_eq_true rfl, rfl, fun c hc => by
   simp only [List.mem_cons, List.not_mem_nil, or_false] at hc
   rcases hc with rfl
   · exact ⟨h0, rfl⟩
⟩
instance cf123 : ICF Tryz.prog 123 := ⟨Tryz.call123⟩
instance cf138 : ICF Tryz.prog 138 := ⟨Tryz.call138⟩
theorem mr31 {a : Access} {v0 : Sv} : Mk (roE rd31) [] (.agg [(.int .i64 a.Method), v0.v].toArray) a [crd (RdS 3 rdInt) v0.v a.Values] :=
 ⟨fun H h => ⟨rfl, v0, rfl, h (crd (RdS 3 rdInt) v0.v a.Values) (by simp)⟩, by simp [crd]⟩
instance cf53 : ICF Tryz.prog 53 := ⟨Tryz.call53⟩
instance cf75 : ICF Tryz.prog 75 := ⟨Tryz.call75⟩
instance cf97 : ICF Tryz.prog 97 := ⟨Tryz.call97⟩
instance cf32 : ICF Tryz.prog 32 := ⟨Tryz.call32⟩
instance ty37 : ITY Tryz.prog 37 1 24 (.slice none 0 0) := ⟨by unfold TY; kernel_rfl⟩
instance cf33 : ICF Tryz.prog 33 := ⟨Tryz.call33⟩
instance cf51 : ICF Tryz.prog 51 := ⟨Tryz.call51⟩
instance cf13 : ICF Tryz.prog 13 := ⟨Tryz.call13⟩
instance cf36 : ICF Tryz.prog 36 := ⟨Tryz.call36⟩
instance cf54 : ICF Tryz.prog 54 := ⟨Tryz.call54⟩
instance cf77 : ICF Tryz.prog 77 := ⟨Tryz.call77⟩
instance cf78 : ICF Tryz.prog 78 := ⟨Tryz.call78⟩
instance cf102 : ICF Tryz.prog 102 := ⟨Tryz.call102⟩
instance cf79 : ICF Tryz.prog 79 := ⟨Tryz.call79⟩
instance cf55 : ICF Tryz.prog 55 := ⟨Tryz.call55⟩
instance cf80 : ICF Tryz.prog 80 := ⟨Tryz.call80⟩
instance cf56 : ICF Tryz.prog 56 := ⟨Tryz.call56⟩
instance cf57 : ICF Tryz.prog 57 := ⟨Tryz.call57⟩
instance cf81 : ICF Tryz.prog 81 := ⟨Tryz.call81⟩
instance cf82 : ICF Tryz.prog 82 := ⟨Tryz.call82⟩
instance cf103 : ICF Tryz.prog 103 := ⟨Tryz.call103⟩
instance cf104 : ICF Tryz.prog 104 := ⟨Tryz.call104⟩
instance cf105 : ICF Tryz.prog 105 := ⟨Tryz.call105⟩
instance cf37 : ICF Tryz.prog 37 := ⟨Tryz.call37⟩
instance cf58 : ICF Tryz.prog 58 := ⟨Tryz.call58⟩
instance cf83 : ICF Tryz.prog 83 := ⟨Tryz.call83⟩
instance cf106 : ICF Tryz.prog 106 := ⟨Tryz.call106⟩
instance cf99 : ICF Tryz.prog 99 := ⟨Tryz.call99⟩
instance cf59 : ICF Tryz.prog 59 := ⟨Tryz.call59⟩
instance cf85 : ICF Tryz.prog 85 := ⟨Tryz.call85⟩
instance cf107 : ICF Tryz.prog 107 := ⟨Tryz.call107⟩
instance cf86 : ICF Tryz.prog 86 := ⟨Tryz.call86⟩
instance cf84 : ICF Tryz.prog 84 := ⟨Tryz.call84⟩
instance cf38 : ICF Tryz.prog 38 := ⟨Tryz.call38⟩
instance cf45 : ICF Tryz.prog 45 := ⟨Tryz.call45⟩
instance cf72 : ICF Tryz.prog 72 := ⟨Tryz.call72⟩
instance cf98 : ICF Tryz.prog 98 := ⟨Tryz.call98⟩
instance cf115 : ICF Tryz.prog 115 := ⟨Tryz.call115⟩
theorem ik3 : IK Tryz.prog 3 .i64 := by unfold IK; kernel_rfl
theorem lo3_0 {a : Int} : ∀ F H e, (roE rdInt) F H e a → e.cells.toList[0]? = some (.int .i64 a) := by
 intro F H e h
 obtain ⟨-, h⟩ := h
 subst h
 rfl
instance cf100 : ICF Tryz.prog 100 := ⟨Tryz.call100⟩
def lays189_ren : Go.Shelf.Ren := ⟨fun | 189 => 100 | 125 => 117 | 257 => 116 | 128 => 133 | 129 => 134 | 294 => 124 | 295 => 125 | 296 => 126 | 297 => 127 | 298 => 128 | 299 => 129 | 216 => 130 | 300 => 131 | 301 => 132 | 328 => 139 | 329 => 140 | 330 => 141 | 331 => 142 | 332 => 143 | 215 => 107 | 343 => 145 | n => n, fun | 28 => 22 | 3 => 3 | 46 => 121 | 0 => 0 | 51 => 135 | 53 => 137 | 4 => 4 | 183 => 127 | 182 => 126 | 131 => 132 | 5 => 5 | 9 => 9 | 218 => 139 | 222 => 143 | 228 => 146 | 229 => 147 | n => n, fun | n => n⟩
theorem lays189 : Go.Proofs.Lays.n189 Tryz.prog lays189_ren := {
 mixed := by kernel_rfl
 f125 := Tryz.func117.trans (congrArg some (by kernel_rfl))
 f128 := Tryz.func133.trans (congrArg some (by kernel_rfl))
 f129 := Tryz.func134.trans (congrArg some (by kernel_rfl))
 f189 := Tryz.func100.trans (congrArg some (by kernel_rfl))
 f215 := Tryz.func107.trans (congrArg some (by kernel_rfl))
 f216 := Tryz.func130.trans (congrArg some (by kernel_rfl))
 f257 := Tryz.func116.trans (congrArg some (by kernel_rfl))
 f294 := Tryz.func124.trans (congrArg some (by kernel_rfl))
 f295 := Tryz.func125.trans (congrArg some (by kernel_rfl))
 f296 := Tryz.func126.trans (congrArg some (by kernel_rfl))
 f297 := Tryz.func127.trans (congrArg some (by kernel_rfl))
 f298 := Tryz.func128.trans (congrArg some (by kernel_rfl))
 f299 := Tryz.func129.trans (congrArg some (by kernel_rfl))
 f300 := Tryz.func131.trans (congrArg some (by kernel_rfl))
 f301 := Tryz.func132.trans (congrArg some (by kernel_rfl))
 f328 := Tryz.func139.trans (congrArg some (by kernel_rfl))
 f329 := Tryz.func140.trans (congrArg some (by kernel_rfl))
 f330 := Tryz.func141.trans (congrArg some (by kernel_rfl))
 f331 := Tryz.func142.trans (congrArg some (by kernel_rfl))
 f332 := Tryz.func143.trans (congrArg some (by kernel_rfl))
 f343 := Tryz.func145.trans (congrArg some (by kernel_rfl))
 t0 := Tryz.underlying0
 a0 := Tryz.isAgg0
 z0 := Tryz.sizeOf0
 v0 := Tryz.zeroValue0
 t3 := Tryz.underlying3
 a3 := Tryz.isAgg3
 z3 := Tryz.sizeOf3
 v3 := Tryz.zeroValue3
 t4 := Tryz.underlying4
 a4 := Tryz.isAgg4
 z4 := Tryz.sizeOf4
 v4 := Tryz.zeroValue4
 t5 := Tryz.underlying5
 a5 := Tryz.isAgg5
 z5 := Tryz.sizeOf5
 v5 := Tryz.zeroValue5
 t9 := Tryz.underlying9
 a9 := Tryz.isAgg9
 z9 := Tryz.sizeOf9
 v9 := Tryz.zeroValue9
 t28 := Tryz.underlying22
 a28 := Tryz.isAgg22
 z28 := Tryz.sizeOf22
 v28 := Tryz.zeroValue22
 t46 := Tryz.underlying121
 a46 := Tryz.isAgg121
 z46 := Tryz.sizeOf121
 v46 := Tryz.zeroValue121
 t51 := Tryz.underlying135
 a51 := Tryz.isAgg135
 z51 := Tryz.sizeOf135
 v51 := Tryz.zeroValue135
 t53 := Tryz.underlying137
 a53 := Tryz.isAgg137
 z53 := Tryz.sizeOf137
 v53 := Tryz.zeroValue137
 t131 := Tryz.underlying132
 a131 := Tryz.isAgg132
 z131 := Tryz.sizeOf132
 v131 := Tryz.zeroValue132
 t182 := Tryz.underlying126
 a182 := Tryz.isAgg126
 z182 := Tryz.sizeOf126
 v182 := Tryz.zeroValue126
 t183 := Tryz.underlying127
 a183 := Tryz.isAgg127
 z183 := Tryz.sizeOf127
 v183 := Tryz.zeroValue127
 t218 := Tryz.underlying139
 a218 := Tryz.isAgg139
 z218 := Tryz.sizeOf139
 v218 := Tryz.zeroValue139
 t222 := Tryz.underlying143
 a222 := Tryz.isAgg143
 z222 := Tryz.sizeOf143
 v222 := Tryz.zeroValue143
 t228 := Tryz.underlying146
 a228 := Tryz.isAgg146
 z228 := Tryz.sizeOf146
 v228 := Tryz.zeroValue146
 t229 := Tryz.underlying147
 a229 := Tryz.isAgg147
 z229 := Tryz.sizeOf147
 v229 := Tryz.zeroValue147 }
instance cf101 : ICF Tryz.prog 101 := ⟨Tryz.call101⟩
def lays2020_ren : Go.Shelf.Ren := ⟨fun | 20 => 101 | n => n, fun | 22 => 22 | 3 => 3 | 4 => 4 | 0 => 0 | n => n, fun | n => n⟩
theorem lays2020 : Go.Proofs.Lays2.n20 Tryz.prog lays2020_ren := {
 mixed := by kernel_rfl
 f20 := Tryz.func101.trans (congrArg some (by kernel_rfl))
 t0 := Tryz.underlying0
 a0 := Tryz.isAgg0
 z0 := Tryz.sizeOf0
 v0 := Tryz.zeroValue0
 t3 := Tryz.underlying3
 a3 := Tryz.isAgg3
 z3 := Tryz.sizeOf3
 v3 := Tryz.zeroValue3
 t4 := Tryz.underlying4
 a4 := Tryz.isAgg4
 z4 := Tryz.sizeOf4
 v4 := Tryz.zeroValue4
 t22 := Tryz.underlying22
 a22 := Tryz.isAgg22
 z22 := Tryz.sizeOf22
 v22 := Tryz.zeroValue22
 i3 := by kernel_rfl }
instance cf60 : ICF Tryz.prog 60 := ⟨Tryz.call60⟩
instance cf87 : ICF Tryz.prog 87 := ⟨Tryz.call87⟩
instance cf108 : ICF Tryz.prog 108 := ⟨Tryz.call108⟩
instance cf112 : ICF Tryz.prog 112 := ⟨Tryz.call112⟩
instance cf109 : ICF Tryz.prog 109 := ⟨Tryz.call109⟩
instance cf118 : ICF Tryz.prog 118 := ⟨Tryz.call118⟩
instance cf135 : ICF Tryz.prog 135 := ⟨Tryz.call135⟩
instance cf119 : ICF Tryz.prog 119 := ⟨Tryz.call119⟩
instance cf120 : ICF Tryz.prog 120 := ⟨Tryz.call120⟩
instance cf136 : ICF Tryz.prog 136 := ⟨Tryz.call136⟩
instance cf89 : ICF Tryz.prog 89 := ⟨Tryz.call89⟩
theorem un31 {a : Access} : Un ow31 a (fun p : Sv × List Nat => .agg [(.int .i64 a.Method), p.1.v].toArray) (fun p => [cown (OwnS 3 (roE rdInt)) p.2 p.1.v a.Values]) := ⟨fun F H e h => by
 obtain ⟨v0, F0, rfl, rfl, h0⟩ := h
 refine ⟨(v0, F0), rfl, fun c hc => ?_, by simp [foot, cown]⟩
 simp only [List.mem_cons, List.not_mem_nil, or_false] at hc
 rcases hc with rfl
 · exact h0⟩
instance cf40 : ICF Tryz.prog 40 := ⟨Tryz.call40⟩
instance cf64 : ICF Tryz.prog 64 := ⟨Tryz.call64⟩
instance cf91 : ICF Tryz.prog 91 := ⟨Tryz.call91⟩
instance cf63 : ICF Tryz.prog 63 := ⟨Tryz.call63⟩
instance cf65 : ICF Tryz.prog 65 := ⟨Tryz.call65⟩
instance cf90 : ICF Tryz.prog 90 := ⟨Tryz.call90⟩
theorem un39 {a : Fact} : Un ow39 a (fun p : Sv × List Nat => .agg [(.int .i64 a.Rel), p.1.v].toArray) (fun p => [cown (OwnS 3 (roE rdInt)) p.2 p.1.v a.Values]) := ⟨fun F H e h => by
 obtain ⟨v0, F0, rfl, rfl, h0⟩ := h
 refine ⟨(v0, F0), rfl, fun c hc => ?_, by simp [foot, cown]⟩
 simp only [List.mem_cons, List.not_mem_nil, or_false] at hc
 rcases hc with rfl
 · exact h0⟩
instance cf88 : ICF Tryz.prog 88 := ⟨Tryz.call88⟩
instance cf39 : ICF Tryz.prog 39 := ⟨Tryz.call39⟩
instance cf61 : ICF Tryz.prog 61 := ⟨Tryz.call61⟩
instance cf62 : ICF Tryz.prog 62 := ⟨Tryz.call62⟩
instance cf110 : ICF Tryz.prog 110 := ⟨Tryz.call110⟩
instance cf111 : ICF Tryz.prog 111 := ⟨Tryz.call111⟩
theorem hov121 : ∀ args w, (callFunc 121 args).run Tryz.prog w = ((Extern.SlicesOverlaps.overlaps #[37, 37] #[4] args).run Tryz.prog w).andThen fun v w' => .ok (.value v) w' := fun args w => run_callFunc_extern Tryz.func121 (by kernel_rfl) (by kernel_rfl) (by kernel_rfl) (e := Extern.SlicesOverlaps.overlaps #[37, 37] #[4]) (by kernel_rfl) args w
theorem fdt54_2 : FDT Tryz.prog 54 2 2 52 := by unfold FDT; kernel_rfl
instance cf14 : ICF Tryz.prog 14 := ⟨Tryz.call14⟩
instance cf15 : ICF Tryz.prog 15 := ⟨Tryz.call15⟩
instance cf16 : ICF Tryz.prog 16 := ⟨Tryz.call16⟩
instance cf41 : ICF Tryz.prog 41 := ⟨Tryz.call41⟩
instance cf17 : ICF Tryz.prog 17 := ⟨Tryz.call17⟩
instance cf18 : ICF Tryz.prog 18 := ⟨Tryz.call18⟩
instance cf19 : ICF Tryz.prog 19 := ⟨Tryz.call19⟩
instance cf20 : ICF Tryz.prog 20 := ⟨Tryz.call20⟩
theorem sf65_0 {a : Method} {d : Int} : ∀ F H e, ow65 F H e a → ow65 F H (setPart e 0 (Value.cells (.int .i64 d)).toList) { a with Rel := d } := by
 intro F H e h
 obtain ⟨v0, F0, rfl, rfl, h0⟩ := h
 exact ⟨v0, F0, rfl, rfl, h0⟩
theorem fsf65_0 {a : Method} : ∀ F H e, ow65 F H e a → 0 + 1 ≤ e.cells.size := by
 intro F H e h
 obtain ⟨v0, F0, rfl, rfl, h0⟩ := h
 exact Nat.le_of_ble_eq_true rfl
theorem pt65_1 : Part ow65 1 (OwnS 3 (roE rdInt)) (fun a : Method => a.Inputs) (fun a d => { a with Inputs := d }) := ⟨fun {F H e a} h => by
 obtain ⟨v0, F0, rfl, rfl, h0⟩ := h
 exact ⟨v0, [], F0, [], rfl, by simp, h0, fun hi hk h' => ⟨v0, _, rfl, by simp, h'⟩⟩⟩
theorem sf65_2 {a : Method} {d : Int} : ∀ F H e, ow65 F H e a → ow65 F H (setPart e 2 (Value.cells (.int .i64 d)).toList) { a with Limit := d } := by
 intro F H e h
 obtain ⟨v0, F0, rfl, rfl, h0⟩ := h
 exact ⟨v0, F0, rfl, rfl, h0⟩
theorem fsf65_2 {a : Method} : ∀ F H e, ow65 F H e a → 2 + 1 ≤ e.cells.size := by
 intro F H e h
 obtain ⟨v0, F0, rfl, rfl, h0⟩ := h
 exact Nat.le_of_ble_eq_true rfl
theorem sf65_3 {a : Method} {d : Int} : ∀ F H e, ow65 F H e a → ow65 F H (setPart e 3 (Value.cells (.int .i64 d)).toList) { a with Cost := d } := by
 intro F H e h
 obtain ⟨v0, F0, rfl, rfl, h0⟩ := h
 exact ⟨v0, F0, rfl, rfl, h0⟩
theorem fsf65_3 {a : Method} : ∀ F H e, ow65 F H e a → 3 + 1 ≤ e.cells.size := by
 intro F H e h
 obtain ⟨v0, F0, rfl, rfl, h0⟩ := h
 exact Nat.le_of_ble_eq_true rfl
theorem sf65_4 {a : Method} {d : Int} : ∀ F H e, ow65 F H e a → ow65 F H (setPart e 4 (Value.cells (.int .i64 d)).toList) { a with Quota := d } := by
 intro F H e h
 obtain ⟨v0, F0, rfl, rfl, h0⟩ := h
 exact ⟨v0, F0, rfl, rfl, h0⟩
theorem fsf65_4 {a : Method} : ∀ F H e, ow65 F H e a → 4 + 1 ≤ e.cells.size := by
 intro F H e h
 obtain ⟨v0, F0, rfl, rfl, h0⟩ := h
 exact Nat.le_of_ble_eq_true rfl
instance cf21 : ICF Tryz.prog 21 := ⟨Tryz.call21⟩
theorem sf39_0 {a : Fact} {d : Int} : ∀ F H e, ow39 F H e a → ow39 F H (setPart e 0 (Value.cells (.int .i64 d)).toList) { a with Rel := d } := by
 intro F H e h
 obtain ⟨v0, F0, rfl, rfl, h0⟩ := h
 exact ⟨v0, F0, rfl, rfl, h0⟩
theorem fsf39_0 {a : Fact} : ∀ F H e, ow39 F H e a → 0 + 1 ≤ e.cells.size := by
 intro F H e h
 obtain ⟨v0, F0, rfl, rfl, h0⟩ := h
 exact Nat.le_of_ble_eq_true rfl
theorem pt39_1 : Part ow39 1 (OwnS 3 (roE rdInt)) (fun a : Fact => a.Values) (fun a d => { a with Values := d }) := ⟨fun {F H e a} h => by
 obtain ⟨v0, F0, rfl, rfl, h0⟩ := h
 exact ⟨v0, [], F0, [], rfl, by simp, h0, fun hi hk h' => ⟨v0, _, rfl, by simp, h'⟩⟩⟩
instance cf22 : ICF Tryz.prog 22 := ⟨Tryz.call22⟩
instance cf23 : ICF Tryz.prog 23 := ⟨Tryz.call23⟩
instance cf24 : ICF Tryz.prog 24 := ⟨Tryz.call24⟩
instance cf42 : ICF Tryz.prog 42 := ⟨Tryz.call42⟩
theorem fa61_0 : fieldAt Tryz.prog 61 0 = some (3, 0, 1) := by kernel_rfl
theorem fa61_1 : fieldAt Tryz.prog 61 1 = some (22, 1, 1) := by kernel_rfl
theorem fa61_2 : fieldAt Tryz.prog 61 2 = some (3, 2, 1) := by kernel_rfl
theorem fa61_3 : fieldAt Tryz.prog 61 3 = some (3, 3, 1) := by kernel_rfl
theorem fa61_4 : fieldAt Tryz.prog 61 4 = some (3, 4, 1) := by kernel_rfl
def wf61 (a : Method) : Prop := wfInt a.Rel ∧ (wfSl wfInt) a.Inputs ∧ wfInt a.Limit ∧ wfInt a.Cost ∧ wfInt a.Quota
theorem sh61 : ∀ H v a, rd61 H v a → isAgV v = aggT Tryz.prog 61 := by
 intro H v a h
 obtain ⟨v1, rfl, _⟩ := h
 kernel_rfl
theorem op61 : Opn Tryz.prog 61 rd61 wf61 := by
 intro T enc w fuel cs x h hw ρ H hr hF
 have hl := opn_len fa61_0 h (n := 5) ty61.h.sz.cells
 obtain ⟨ρ0, H0, av0, a0, r0, f0, u0, i0, v0, q0, w0⟩ := opn_field fa61_0 h hw (Opn.int (by kernel_rfl)) hr hF
 obtain ⟨ρ1, H1, av1, a1, r1, f1, u1, i1, v1, q1, w1⟩ := opn_field fa61_1 h hw (Opn.slice (s := 1) (by kernel_rfl) (by kernel_rfl) (by decide) (Nat.lt_of_lt_of_le (by decide) (Nat.le_of_eq (show 8 = _ from by kernel_rfl))) (Opn.int (by kernel_rfl))) r0 f0
 obtain ⟨ρ2, H2, av2, a2, r2, f2, u2, i2, v2, q2, w2⟩ := opn_field fa61_2 h hw (Opn.int (by kernel_rfl)) r1 f1
 obtain ⟨ρ3, H3, av3, a3, r3, f3, u3, i3, v3, q3, w3⟩ := opn_field fa61_3 h hw (Opn.int (by kernel_rfl)) r2 f2
 obtain ⟨ρ4, H4, av4, a4, r4, f4, u4, i4, v4, q4, w4⟩ := opn_field fa61_4 h hw (Opn.int (by kernel_rfl)) r3 f3
 obtain rfl : av0 = (.int .i64 a0) := q0
 replace v0 := v0.up (((u1.trans u2).trans u3).trans u4)
 obtain ⟨sa1, sm1, rfl⟩ := RdS.len q1
 replace v1 := v1.one rfl
 replace v1 := v1.up ((u2.trans u3).trans u4)
 obtain rfl : av2 = (.int .i64 a2) := q2
 replace v2 := v2.up (u3.trans u4)
 obtain rfl : av3 = (.int .i64 a3) := q3
 replace v3 := v3.up u4
 obtain rfl : av4 = (.int .i64 a4) := q4
 have hv := RelVs.field (o := 0) v0 (RelVs.field (o := 1) v1 (RelVs.field (o := 2) v2 (RelVs.field (o := 3) v3 (RelVs.field (o := 4) v4 (RelVs.end hl)))))
 rw [List.drop_zero] at hv
 refine ⟨ρ4, H4, (.agg [(.int .i64 a0), (.slice sa1 a1.length sm1), (.int .i64 a2), (.int .i64 a3), (.int .i64 a4)].toArray : Value), ({ Rel := a0, Inputs := a1, Limit := a2, Cost := a3, Quota := a4 } : Method), r4, f4, ((((u0.trans u1).trans u2).trans u3).trans u4), ((((i0.trans i1).trans i2).trans i3).trans i4), ?_, ?_, w0, w1, w2, w3, w4⟩
 · exact hv
 · exact ⟨⟨sa1, _, sm1⟩, rfl, (Mono.up q1 ((i2.trans i3).trans i4))⟩
theorem fa26_0 : fieldAt Tryz.prog 26 0 = some (3, 0, 1) := by kernel_rfl
theorem fa26_1 : fieldAt Tryz.prog 26 1 = some (22, 1, 1) := by kernel_rfl
def wf26 (a : Fact) : Prop := wfInt a.Rel ∧ (wfSl wfInt) a.Values
theorem sh26 : ∀ H v a, rd26 H v a → isAgV v = aggT Tryz.prog 26 := by
 intro H v a h
 obtain ⟨v1, rfl, _⟩ := h
 kernel_rfl
theorem op26 : Opn Tryz.prog 26 rd26 wf26 := by
 intro T enc w fuel cs x h hw ρ H hr hF
 have hl := opn_len fa26_0 h (n := 2) ty26.h.sz.cells
 obtain ⟨ρ0, H0, av0, a0, r0, f0, u0, i0, v0, q0, w0⟩ := opn_field fa26_0 h hw (Opn.int (by kernel_rfl)) hr hF
 obtain ⟨ρ1, H1, av1, a1, r1, f1, u1, i1, v1, q1, w1⟩ := opn_field fa26_1 h hw (Opn.slice (s := 1) (by kernel_rfl) (by kernel_rfl) (by decide) (Nat.lt_of_lt_of_le (by decide) (Nat.le_of_eq (show 8 = _ from by kernel_rfl))) (Opn.int (by kernel_rfl))) r0 f0
 obtain rfl : av0 = (.int .i64 a0) := q0
 replace v0 := v0.up u1
 obtain ⟨sa1, sm1, rfl⟩ := RdS.len q1
 replace v1 := v1.one rfl
 have hv := RelVs.field (o := 0) v0 (RelVs.field (o := 1) v1 (RelVs.end hl))
 rw [List.drop_zero] at hv
 refine ⟨ρ1, H1, (.agg [(.int .i64 a0), (.slice sa1 a1.length sm1)].toArray : Value), ({ Rel := a0, Values := a1 } : Fact), r1, f1, (u0.trans u1), (i0.trans i1), ?_, ?_, w0, w1⟩
 · exact hv
 · exact ⟨⟨sa1, _, sm1⟩, rfl, q1⟩
def l_szIntS (a_a : List Int) (a_left : Int) : Option (Int) :=
 if (decide (((IntKind.i64.wrap (a_left - (a_a.length : Int))) : Int) < 0)) then (
   some (-1))
 else (
   some (IntKind.i64.wrap (a_left - (a_a.length : Int))))
theorem l_szIntS_ok (a_a : List Int) (v0_0 : Sv) (a_left : Int) (R : Int) (hF : l_szIntS a_a a_left = some R) :
   Fw.Spec Tryz.prog 31 [v0_0.v, (.int .i64 a_left)] [crd (RdS 3 rdInt) v0_0.v a_a] (fun _ : Unit => (.int .i64 R)) (fun _ => []) := by
 refine Se 12 Tryz.func31 [.tmp 4] ?_
 intro H0 F0
 unfold l_szIntS at hF
 iterate 15 refine au ?_
 refine Ci hF (fun hb1 hF => ?_) (fun hb1 hF => ?_)
 · iterate 4 refine au ?_
   cases hF
   exact Er ()
 iterate 6 refine au ?_
 cases hF
 exact Er ()
def l_szMethod (a_a : Method) (a_left : Int) : Option (Int) :=
 (l_szIntS a_a.Inputs a_left).bind fun r2 =>
 if (decide ((r2 : Int) < 0)) then (
   some (-1))
 else (
   some r2)
theorem l_szMethod_ok (a_a : Method) (v0_1 : Sv) (a_left : Int) (R : Int) (hF : l_szMethod a_a a_left = some R) :
   Fw.Spec Tryz.prog 30 [(.agg [(.int .i64 a_a.Rel), v0_1.v, (.int .i64 a_a.Limit), (.int .i64 a_a.Cost), (.int .i64 a_a.Quota)].toArray), (.int .i64 a_left)] [crd (RdS 3 rdInt) v0_1.v a_a.Inputs] (fun _ : Unit => (.int .i64 R)) (fun _ => []) := by
 refine Se 12 Tryz.func30 [.tmp 4] ?_
 intro H0 F0
 unfold l_szMethod at hF
 refine au ?_
 refine AbR (fun k1 => ?_)
 iterate 6 refine au ?_
 refine bnd hF fun r2 hx3 hF => Cx0 (l_szIntS_ok _ _ _ _ hx3) (fun _ => ?_)
 iterate 7 refine au ?_
 refine Ci hF (fun hb5 hF => ?_) (fun hb5 hF => ?_)
 · iterate 4 refine au ?_
   cases hF
   exact Er ()
 iterate 6 refine au ?_
 cases hF
 exact Er ()
def l_szMethodS_L1 : List Method → Nat → Int → Option (Int)
 | [], k5, c1 => some c1
 | x7 :: rest6, k5, c1 => (l_szMethod x7 c1).bind fun r17 =>
   if (decide ((r17 : Int) < 0)) then (
     some (-1))
   else (
     l_szMethodS_L1 rest6 (k5 + 1) r17)
def l_szMethodS (a_a : List Method) (a_left : Int) : Option (Int) :=
 if (decide (((IntKind.i64.wrap (a_left - (a_a.length : Int))) : Int) < 0)) then (
   some (-1))
 else (
   l_szMethodS_L1 a_a 0 (IntKind.i64.wrap (a_left - (a_a.length : Int))))
theorem l_szMethodS_ok (a_a : List Method) (v0_0 : Sv) (a_left : Int) (R : Int) (hF : l_szMethodS a_a a_left = some R) :
   Fw.Spec Tryz.prog 5 [v0_0.v, (.int .i64 a_left)] [crd (RdS 61 rd61) v0_0.v a_a] (fun _ : Unit => (.int .i64 R)) (fun _ => []) := by
 refine Se 27 Tryz.func5 [.tmp 4] ?_
 intro H0 F0
 unfold l_szMethodS at hF
 iterate 15 refine au ?_
 refine Ci hF (fun hb22 hF => ?_) (fun hb22 hF => ?_)
 · iterate 4 refine au ?_
   cases hF
   exact Er ()
 iterate 5 refine au ?_
 refine CW_block (CW_loop (m := a_a.length) (fun m3 f' cs' => ∃ (g : Fr) (k5 : Nat) (rest6 : List Method) (c1 : Int), m3 = rest6.length ∧ f' = updL g [(0, v0_0.v), (1, (.int .i64 c1)), (5, (.int .i64 (k5 : Int)))] ∧ List.drop k5 a_a = rest6 ∧ Ent cs' [crd (RdS 61 rd61) v0_0.v a_a] ∧ l_szMethodS_L1 rest6 k5 c1 = some R) ⟨_, 0, _, _, rfl, eqA, rfl, entA, hF⟩ ?_)
 rintro m3 _ _ ⟨g4, k5, rest6, c1, rfl, rfl, hd8, hE, hF⟩
 refine Kb hE a_a (fun hbd13 => ?_)
 rcases rest6 with _ | ⟨x7, rest6⟩
 · have hk9 := dn hd8
   rw [l_szMethodS_L1] at hF
   iterate 7 refine au ?_
   refine CdF ?_
   iterate 9 refine au ?_
   cases hF
   exact Er ()
 obtain ⟨hk9, hx10, hd11⟩ := drop_cons hd8
 rw [l_szMethodS_L1] at hF
 iterate 7 refine au ?_
 refine CdT ?_
 iterate 5 refine au ?_
 refine Ai hx10 (fun k14 j15 => ?_)
 refine AlA1 (ul61_0_61 x7) la61_0_61 (fun p16 => ?_)
 refine au ?_
 refine bnd hF fun r17 hx18 hF => Cx0 (l_szMethod_ok _ _ _ _ hx18) (fun _ => ?_)
 iterate 6 refine au ?_
 refine Ci hF (fun hb21 hF => ?_) (fun hb21 hF => ?_)
 · iterate 4 refine au ?_
   cases hF
   exact Er ()
 iterate 6 refine au ?_
 rw [wk k5]
 exact ⟨_, Nat.lt_succ_self _, _, k5 + 1, rest6, _, rfl, eqA, hd11, entA, hF⟩
def l_szFact (a_a : Fact) (a_left : Int) : Option (Int) :=
 (l_szIntS a_a.Values a_left).bind fun r2 =>
 if (decide ((r2 : Int) < 0)) then (
   some (-1))
 else (
   some r2)
theorem l_szFact_ok (a_a : Fact) (v0_1 : Sv) (a_left : Int) (R : Int) (hF : l_szFact a_a a_left = some R) :
   Fw.Spec Tryz.prog 7 [(.agg [(.int .i64 a_a.Rel), v0_1.v].toArray), (.int .i64 a_left)] [crd (RdS 3 rdInt) v0_1.v a_a.Values] (fun _ : Unit => (.int .i64 R)) (fun _ => []) := by
 refine Se 12 Tryz.func7 [.tmp 4] ?_
 intro H0 F0
 unfold l_szFact at hF
 refine au ?_
 refine AbR (fun k1 => ?_)
 iterate 6 refine au ?_
 refine bnd hF fun r2 hx3 hF => Cx0 (l_szIntS_ok _ _ _ _ hx3) (fun _ => ?_)
 iterate 7 refine au ?_
 refine Ci hF (fun hb5 hF => ?_) (fun hb5 hF => ?_)
 · iterate 4 refine au ?_
   cases hF
   exact Er ()
 iterate 6 refine au ?_
 cases hF
 exact Er ()
def l_szFactS_L1 : List Fact → Nat → Int → Option (Int)
 | [], k5, c1 => some c1
 | x7 :: rest6, k5, c1 => (l_szFact x7 c1).bind fun r17 =>
   if (decide ((r17 : Int) < 0)) then (
     some (-1))
   else (
     l_szFactS_L1 rest6 (k5 + 1) r17)
def l_szFactS (a_a : List Fact) (a_left : Int) : Option (Int) :=
 if (decide (((IntKind.i64.wrap (a_left - (a_a.length : Int))) : Int) < 0)) then (
   some (-1))
 else (
   l_szFactS_L1 a_a 0 (IntKind.i64.wrap (a_left - (a_a.length : Int))))
theorem l_szFactS_ok (a_a : List Fact) (v0_0 : Sv) (a_left : Int) (R : Int) (hF : l_szFactS a_a a_left = some R) :
   Fw.Spec Tryz.prog 6 [v0_0.v, (.int .i64 a_left)] [crd (RdS 26 rd26) v0_0.v a_a] (fun _ : Unit => (.int .i64 R)) (fun _ => []) := by
 refine Se 27 Tryz.func6 [.tmp 4] ?_
 intro H0 F0
 unfold l_szFactS at hF
 iterate 15 refine au ?_
 refine Ci hF (fun hb22 hF => ?_) (fun hb22 hF => ?_)
 · iterate 4 refine au ?_
   cases hF
   exact Er ()
 iterate 5 refine au ?_
 refine CW_block (CW_loop (m := a_a.length) (fun m3 f' cs' => ∃ (g : Fr) (k5 : Nat) (rest6 : List Fact) (c1 : Int), m3 = rest6.length ∧ f' = updL g [(0, v0_0.v), (1, (.int .i64 c1)), (5, (.int .i64 (k5 : Int)))] ∧ List.drop k5 a_a = rest6 ∧ Ent cs' [crd (RdS 26 rd26) v0_0.v a_a] ∧ l_szFactS_L1 rest6 k5 c1 = some R) ⟨_, 0, _, _, rfl, eqA, rfl, entA, hF⟩ ?_)
 rintro m3 _ _ ⟨g4, k5, rest6, c1, rfl, rfl, hd8, hE, hF⟩
 refine Kb hE a_a (fun hbd13 => ?_)
 rcases rest6 with _ | ⟨x7, rest6⟩
 · have hk9 := dn hd8
   rw [l_szFactS_L1] at hF
   iterate 7 refine au ?_
   refine CdF ?_
   iterate 9 refine au ?_
   cases hF
   exact Er ()
 obtain ⟨hk9, hx10, hd11⟩ := drop_cons hd8
 rw [l_szFactS_L1] at hF
 iterate 7 refine au ?_
 refine CdT ?_
 iterate 5 refine au ?_
 refine Ai hx10 (fun k14 j15 => ?_)
 refine AlA1 (ul26_0_26 x7) la26_0_26 (fun p16 => ?_)
 refine au ?_
 refine bnd hF fun r17 hx18 hF => Cx0 (l_szFact_ok _ _ _ _ hx18) (fun _ => ?_)
 iterate 6 refine au ?_
 refine Ci hF (fun hb21 hF => ?_) (fun hb21 hF => ?_)
 · iterate 4 refine au ?_
   cases hF
   exact Er ()
 iterate 6 refine au ?_
 rw [wk k5]
 exact ⟨_, Nat.lt_succ_self _, _, k5 + 1, rest6, _, rfl, eqA, hd11, entA, hF⟩
def l_toIntS_L1 : List Int → Nat → (List Int) → Option ((List Int))
 | [], k32, c27 => some c27
 | x34 :: rest33, k32, c27 => (chk (decide (0 ≤ (k32 : Int)) && decide ((k32 : Int) < (c27.length : Int)))).bind fun u46 =>
   (some (c27.set ((k32 : Int)).toNat x34)).bind fun z48 =>
   l_toIntS_L1 rest33 (k32 + 1) z48
def l_toIntS (a_a : List Int) : Option ((List Int)) :=
 (mkz (a_a.length : Int) (0 : Int)).bind fun z1 =>
 l_toIntS_L1 a_a 0 z1
theorem l_toIntS_ok (a_a : List Int) (v0_0 : Sv) (R : (List Int)) (hF : l_toIntS a_a = some R) :
   Fw.Spec Tryz.prog 9 [v0_0.v] [crd (RdS 3 rdInt) v0_0.v a_a] (fun p : Sv × List Nat => p.1.v) (fun p => [cown (OwnS 3 (roE rdInt)) p.2 p.1.v R]) := by
 refine Se 22 Tryz.func9 [.tmp 2] ?_
 intro H0 F0
 unfold l_toIntS at hF
 iterate 6 refine au ?_
 refine bnd hF fun z1 hx2 hF => ?_
 have hm3 := mkz_some hx2
 refine C_new rfl (N_makeSlice (g := true) (c := (a_a.length : Int)) sl22.h ty3.h rfl rfl (by decide) (.tmp rfl rfl) hm3.2.1 hm3.2.2) (fun k4 => ?_)
 refine Cv1 (.cons .h .nil) (own_make (Ro := (roE rdInt)) (E := 3) (a := (0 : Int)) hx2 (fun _ => ⟨rfl, rfl⟩)) ?_
 iterate 6 refine au ?_
 refine CW_block (CW_loop (m := a_a.length) (fun m30 f' cs' => ∃ (g : Fr) (k32 : Nat) (rest33 : List Int) (c27 : List Int) (F28 : List Nat), m30 = rest33.length ∧ f' = updL g [(0, v0_0.v), (3, (.slice (some ⟨k4, 0, none⟩) (a_a.length : Int).toNat 1)), (4, (.int .i64 (k32 : Int)))] ∧ List.drop k32 a_a = rest33 ∧ Ent cs' [crd (RdS 3 rdInt) v0_0.v a_a, cown (OwnS 3 (roE rdInt)) F28 (.slice (some ⟨k4, 0, none⟩) (a_a.length : Int).toNat 1) c27] ∧ l_toIntS_L1 rest33 k32 c27 = some R) ⟨_, 0, _, _, [k4], rfl, eqA, rfl, entA, hF⟩ ?_)
 rintro m30 _ _ ⟨g31, k32, rest33, c27, F28, rfl, rfl, hd35, hE, hF⟩
 refine Kb hE a_a (fun hbd40 => ?_)
 rcases rest33 with _ | ⟨x34, rest33⟩
 · have hk36 := dn hd35
   rw [l_toIntS_L1] at hF
   iterate 7 refine au ?_
   refine CdF ?_
   iterate 9 refine au ?_
   cases hF
   exact Er (⟨(some ⟨k4, 0, none⟩), (a_a.length : Int).toNat, 1⟩, F28)
 obtain ⟨hk36, hx37, hd38⟩ := drop_cons hd35
 rw [l_toIntS_L1] at hF
 iterate 7 refine au ?_
 refine CdT ?_
 iterate 7 refine au ?_
 refine Ai hx37 (fun k41 j42 => ?_)
 refine Al ls3_0 ?_
 refine bnd hF fun u46 hx47 hF => ?_
 have hi45 := chk_some hx47
 refine C_idxO sl22.h ty3.h.sz (.tmp rfl rfl) (.tmp rfl rfl) (.t (.t .h)) hi45 (fun k43 hk44 => ?_)
 refine bnd hF fun z48 hx49 hF => ?_
 replace hx49 := Option.some.inj hx49
 refine C_x1 (.cons (.t (.t .h)) .nil) (X_storeO (Ro := (roE rdInt)) (a := x34) (i := (k32 : Int)) ty3.h.sz rfl (.tmp rfl rfl) (.tmp rfl rfl) hk44 hi45 (Mk_pure (fun _ => rfl)) (fun _ _ _ _ h => by obtain ⟨-, h⟩ := h; cases h; rfl)) (fun F50 => ?_)
 rw [hx49]
 iterate 6 refine au ?_
 rw [wk k32]
 exact ⟨_, Nat.lt_succ_self _, _, k32 + 1, rest33, _, F50, rfl, eqA, hd38, entA, hF⟩
def l_toMethod (a_a : Method) : Option (Method) :=
 (l_toIntS a_a.Inputs).bind fun r4 =>
 some ({ Rel := a_a.Rel, Inputs := r4, Limit := a_a.Limit, Cost := a_a.Cost, Quota := a_a.Quota } : Method)
theorem l_toMethod_ok (a_a : Method) (v0_1 : Sv) (R : Method) (hF : l_toMethod a_a = some R) :
   Fw.Spec Tryz.prog 35 [(.agg [(.int .i64 a_a.Rel), v0_1.v, (.int .i64 a_a.Limit), (.int .i64 a_a.Cost), (.int .i64 a_a.Quota)].toArray)] [crd (RdS 3 rdInt) v0_1.v a_a.Inputs] (fun p : Sv × List Nat => (.agg [(.int .i64 R.Rel), p.1.v, (.int .i64 R.Limit), (.int .i64 R.Cost), (.int .i64 R.Quota)].toArray)) (fun p => [cown (OwnS 3 (roE rdInt)) p.2 p.1.v R.Inputs]) := by
 refine Se 21 Tryz.func35 [.cell 2 65] ?_
 intro H0 F0
 unfold l_toMethod at hF
 refine au ?_
 refine AbR (fun k1 => ?_)
 refine AnW (fun k2 => ?_)
 iterate 2 refine au ?_
 refine AnW (fun k3 => ?_)
 iterate 5 refine au ?_
 refine As (.agg [(.int .i64 a_a.Rel), (.slice none 0 0), (.int .i64 0), (.int .i64 0), (.int .i64 0)].toArray) ?_
 iterate 4 refine au ?_
 refine bnd hF fun r4 hx5 hF => Cx1 (l_toIntS_ok _ _ _ hx5) (fun p6 => ?_)
 refine au ?_
 refine As (.agg [(.int .i64 a_a.Rel), p6.1.v, (.int .i64 0), (.int .i64 0), (.int .i64 0)].toArray) ?_
 iterate 5 refine au ?_
 refine As (.agg [(.int .i64 a_a.Rel), p6.1.v, (.int .i64 a_a.Limit), (.int .i64 0), (.int .i64 0)].toArray) ?_
 iterate 5 refine au ?_
 refine As (.agg [(.int .i64 a_a.Rel), p6.1.v, (.int .i64 a_a.Limit), (.int .i64 a_a.Cost), (.int .i64 0)].toArray) ?_
 iterate 5 refine au ?_
 refine As (.agg [(.int .i64 a_a.Rel), p6.1.v, (.int .i64 a_a.Limit), (.int .i64 a_a.Cost), (.int .i64 a_a.Quota)].toArray) ?_
 iterate 3 refine au ?_
 refine As (.agg [(.int .i64 a_a.Rel), p6.1.v, (.int .i64 a_a.Limit), (.int .i64 a_a.Cost), (.int .i64 a_a.Quota)].toArray) ?_
 iterate 2 refine au ?_
 cases hF
 exact Er (p6.1, p6.2)
def l_toMethodS_L1 : List Method → Nat → (List Method) → Option ((List Method))
 | [], k36, c31 => some c31
 | x38 :: rest37, k36, c31 => (l_toMethod x38).bind fun r48 =>
   (chk (decide (0 ≤ (k36 : Int)) && decide ((k36 : Int) < (c31.length : Int)))).bind fun u54 =>
   (some (c31.set ((k36 : Int)).toNat r48)).bind fun z56 =>
   l_toMethodS_L1 rest37 (k36 + 1) z56
def l_toMethodS (a_a : List Method) : Option ((List Method)) :=
 (mkz (a_a.length : Int) (({ Rel := 0, Inputs := [], Limit := 0, Cost := 0, Quota := 0 } : Method) : Method)).bind fun z1 =>
 l_toMethodS_L1 a_a 0 z1
theorem l_toMethodS_ok (a_a : List Method) (v0_0 : Sv) (R : (List Method)) (hF : l_toMethodS a_a = some R) :
   Fw.Spec Tryz.prog 10 [v0_0.v] [crd (RdS 61 rd61) v0_0.v a_a] (fun p : Sv × List Nat => p.1.v) (fun p => [cown (OwnS 65 ow65) p.2 p.1.v R]) := by
 refine Se 23 Tryz.func10 [.tmp 2] ?_
 intro H0 F0
 unfold l_toMethodS at hF
 iterate 6 refine au ?_
 refine bnd hF fun z1 hx2 hF => ?_
 have hm3 := mkz_some hx2
 refine C_new rfl (N_makeSlice (g := true) (c := (a_a.length : Int)) sl35.h ty65.h rfl rfl (by decide) (.tmp rfl rfl) hm3.2.1 hm3.2.2) (fun k4 => ?_)
 refine Cv1 (.cons .h .nil) (own_make (Ro := ow65) (E := 65) (a := (({ Rel := 0, Inputs := [], Limit := 0, Cost := 0, Quota := 0 } : Method) : Method)) hx2 (fun _ => ⟨⟨none, 0, 0⟩, [], rfl, rfl, .inl ⟨rfl, rfl, rfl⟩⟩)) ?_
 iterate 6 refine au ?_
 refine CW_block (CW_loop (m := a_a.length) (fun m34 f' cs' => ∃ (g : Fr) (k36 : Nat) (rest37 : List Method) (c31 : List Method) (F32 : List Nat), m34 = rest37.length ∧ f' = updL g [(0, v0_0.v), (3, (.slice (some ⟨k4, 0, none⟩) (a_a.length : Int).toNat 1)), (4, (.int .i64 (k36 : Int)))] ∧ List.drop k36 a_a = rest37 ∧ Ent cs' [crd (RdS 61 rd61) v0_0.v a_a, cown (OwnS 65 ow65) F32 (.slice (some ⟨k4, 0, none⟩) (a_a.length : Int).toNat 1) c31] ∧ l_toMethodS_L1 rest37 k36 c31 = some R) ⟨_, 0, _, _, [k4], rfl, eqA, rfl, entA, hF⟩ ?_)
 rintro m34 _ _ ⟨g35, k36, rest37, c31, F32, rfl, rfl, hd39, hE, hF⟩
 refine Kb hE a_a (fun hbd44 => ?_)
 rcases rest37 with _ | ⟨x38, rest37⟩
 · have hk40 := dn hd39
   rw [l_toMethodS_L1] at hF
   iterate 7 refine au ?_
   refine CdF ?_
   iterate 9 refine au ?_
   cases hF
   exact Er (⟨(some ⟨k4, 0, none⟩), (a_a.length : Int).toNat, 1⟩, F32)
 obtain ⟨hk40, hx41, hd42⟩ := drop_cons hd39
 rw [l_toMethodS_L1] at hF
 iterate 7 refine au ?_
 refine CdT ?_
 iterate 7 refine au ?_
 refine Ai hx41 (fun k45 j46 => ?_)
 refine AlA1 (ul61_0_61 x38) la61_0_61 (fun p47 => ?_)
 refine bnd hF fun r48 hx49 hF => Cx1 (l_toMethod_ok _ _ _ hx49) (fun p50 => ?_)
 refine bnd hF fun u54 hx55 hF => ?_
 have hi53 := chk_some hx55
 refine C_idxO sl35.h ty65.h.sz (.tmp rfl rfl) (.tmp rfl rfl) (.t (.t (.t (.t .h)))) hi53 (fun k51 hk52 => ?_)
 refine bnd hF fun z56 hx57 hF => ?_
 replace hx57 := Option.some.inj hx57
 refine C_x1 (.cons (.t (.t (.t (.t .h)))) (.cons .h .nil)) (X_storeO (Ro := ow65) (a := r48) (i := (k36 : Int)) ty65.h.sz rfl (.tmp rfl rfl) (.tmp rfl rfl) hk52 hi53 mk65 (fun _ _ _ _ h => by obtain ⟨_, _, rfl, rfl, _⟩ := h; rfl)) (fun F58 => ?_)
 rw [hx57]
 iterate 6 refine au ?_
 rw [wk k36]
 exact ⟨_, Nat.lt_succ_self _, _, k36 + 1, rest37, _, F58, rfl, eqA, hd42, entA, hF⟩
def l_toFact (a_a : Fact) : Option (Fact) :=
 (l_toIntS a_a.Values).bind fun r4 =>
 some ({ Rel := a_a.Rel, Values := r4 } : Fact)
theorem l_toFact_ok (a_a : Fact) (v0_1 : Sv) (R : Fact) (hF : l_toFact a_a = some R) :
   Fw.Spec Tryz.prog 12 [(.agg [(.int .i64 a_a.Rel), v0_1.v].toArray)] [crd (RdS 3 rdInt) v0_1.v a_a.Values] (fun p : Sv × List Nat => (.agg [(.int .i64 R.Rel), p.1.v].toArray)) (fun p => [cown (OwnS 3 (roE rdInt)) p.2 p.1.v R.Values]) := by
 refine Se 12 Tryz.func12 [.cell 2 39] ?_
 intro H0 F0
 unfold l_toFact at hF
 refine au ?_
 refine AbR (fun k1 => ?_)
 refine AnW (fun k2 => ?_)
 iterate 2 refine au ?_
 refine AnW (fun k3 => ?_)
 iterate 5 refine au ?_
 refine As (.agg [(.int .i64 a_a.Rel), (.slice none 0 0)].toArray) ?_
 iterate 4 refine au ?_
 refine bnd hF fun r4 hx5 hF => Cx1 (l_toIntS_ok _ _ _ hx5) (fun p6 => ?_)
 refine au ?_
 refine As (.agg [(.int .i64 a_a.Rel), p6.1.v].toArray) ?_
 iterate 3 refine au ?_
 refine As (.agg [(.int .i64 a_a.Rel), p6.1.v].toArray) ?_
 iterate 2 refine au ?_
 cases hF
 exact Er (p6.1, p6.2)
def l_toFactS_L1 : List Fact → Nat → (List Fact) → Option ((List Fact))
 | [], k36, c31 => some c31
 | x38 :: rest37, k36, c31 => (l_toFact x38).bind fun r48 =>
   (chk (decide (0 ≤ (k36 : Int)) && decide ((k36 : Int) < (c31.length : Int)))).bind fun u54 =>
   (some (c31.set ((k36 : Int)).toNat r48)).bind fun z56 =>
   l_toFactS_L1 rest37 (k36 + 1) z56
def l_toFactS (a_a : List Fact) : Option ((List Fact)) :=
 (mkz (a_a.length : Int) (({ Rel := 0, Values := [] } : Fact) : Fact)).bind fun z1 =>
 l_toFactS_L1 a_a 0 z1
theorem l_toFactS_ok (a_a : List Fact) (v0_0 : Sv) (R : (List Fact)) (hF : l_toFactS a_a = some R) :
   Fw.Spec Tryz.prog 11 [v0_0.v] [crd (RdS 26 rd26) v0_0.v a_a] (fun p : Sv × List Nat => p.1.v) (fun p => [cown (OwnS 39 ow39) p.2 p.1.v R]) := by
 refine Se 23 Tryz.func11 [.tmp 2] ?_
 intro H0 F0
 unfold l_toFactS at hF
 iterate 6 refine au ?_
 refine bnd hF fun z1 hx2 hF => ?_
 have hm3 := mkz_some hx2
 refine C_new rfl (N_makeSlice (g := true) (c := (a_a.length : Int)) sl37.h ty39.h rfl rfl (by decide) (.tmp rfl rfl) hm3.2.1 hm3.2.2) (fun k4 => ?_)
 refine Cv1 (.cons .h .nil) (own_make (Ro := ow39) (E := 39) (a := (({ Rel := 0, Values := [] } : Fact) : Fact)) hx2 (fun _ => ⟨⟨none, 0, 0⟩, [], rfl, rfl, .inl ⟨rfl, rfl, rfl⟩⟩)) ?_
 iterate 6 refine au ?_
 refine CW_block (CW_loop (m := a_a.length) (fun m34 f' cs' => ∃ (g : Fr) (k36 : Nat) (rest37 : List Fact) (c31 : List Fact) (F32 : List Nat), m34 = rest37.length ∧ f' = updL g [(0, v0_0.v), (3, (.slice (some ⟨k4, 0, none⟩) (a_a.length : Int).toNat 1)), (4, (.int .i64 (k36 : Int)))] ∧ List.drop k36 a_a = rest37 ∧ Ent cs' [crd (RdS 26 rd26) v0_0.v a_a, cown (OwnS 39 ow39) F32 (.slice (some ⟨k4, 0, none⟩) (a_a.length : Int).toNat 1) c31] ∧ l_toFactS_L1 rest37 k36 c31 = some R) ⟨_, 0, _, _, [k4], rfl, eqA, rfl, entA, hF⟩ ?_)
 rintro m34 _ _ ⟨g35, k36, rest37, c31, F32, rfl, rfl, hd39, hE, hF⟩
 refine Kb hE a_a (fun hbd44 => ?_)
 rcases rest37 with _ | ⟨x38, rest37⟩
 · have hk40 := dn hd39
   rw [l_toFactS_L1] at hF
   iterate 7 refine au ?_
   refine CdF ?_
   iterate 9 refine au ?_
   cases hF
   exact Er (⟨(some ⟨k4, 0, none⟩), (a_a.length : Int).toNat, 1⟩, F32)
 obtain ⟨hk40, hx41, hd42⟩ := drop_cons hd39
 rw [l_toFactS_L1] at hF
 iterate 7 refine au ?_
 refine CdT ?_
 iterate 7 refine au ?_
 refine Ai hx41 (fun k45 j46 => ?_)
 refine AlA1 (ul26_0_26 x38) la26_0_26 (fun p47 => ?_)
 refine bnd hF fun r48 hx49 hF => Cx1 (l_toFact_ok _ _ _ hx49) (fun p50 => ?_)
 refine bnd hF fun u54 hx55 hF => ?_
 have hi53 := chk_some hx55
 refine C_idxO sl37.h ty39.h.sz (.tmp rfl rfl) (.tmp rfl rfl) (.t (.t (.t (.t .h)))) hi53 (fun k51 hk52 => ?_)
 refine bnd hF fun z56 hx57 hF => ?_
 replace hx57 := Option.some.inj hx57
 refine C_x1 (.cons (.t (.t (.t (.t .h)))) (.cons .h .nil)) (X_storeO (Ro := ow39) (a := r48) (i := (k36 : Int)) ty39.h.sz rfl (.tmp rfl rfl) (.tmp rfl rfl) hk52 hi53 mk39 (fun _ _ _ _ h => by obtain ⟨_, _, rfl, rfl, _⟩ := h; rfl)) (fun F58 => ?_)
 rw [hx57]
 iterate 6 refine au ?_
 rw [wk k36]
 exact ⟨_, Nat.lt_succ_self _, _, k36 + 1, rest37, _, F58, rfl, eqA, hd42, entA, hF⟩
def s_l1In (a_x : Int) (a_low : Int) (a_high : Int) : Option (Bool) :=
 some ((decide ((a_low : Int) ≤ a_x)) && (decide ((a_x : Int) ≤ a_high)))
theorem s_l1In_ok (a_x : Int) (a_low : Int) (a_high : Int) (R : Bool) (hF : s_l1In a_x a_low a_high = some R) :
   Fw.Spec Tryz.prog 66 [(.int .i64 a_x), (.int .i64 a_low), (.int .i64 a_high)] [] (fun _ : Unit => (.bool R)) (fun _ => []) := by
 refine Se 15 Tryz.func66 [.tmp 6] ?_
 intro H0 F0
 unfold s_l1In at hF
 iterate 4 refine au ?_
 refine C_cut (fun f' cs' => ∃ (g : Fr), f' = updL g [(6, (.bool ((decide ((a_low : Int) ≤ a_x)) && (decide ((a_x : Int) ≤ a_high)))))] ∧ Ent cs' []) ?_ ?_
 · iterate 4 refine au ?_
   rcases Bool.eq_false_or_eq_true (decide ((a_low : Int) ≤ a_x)) with hg1 | hg1
   · rw [hg1]
     try rw [hg1] at hF; dsimp only [cond_true, cond_false] at hF
     iterate 9 refine au ?_
     exact ⟨_, eqA, entA⟩
   rw [hg1]
   try rw [hg1] at hF; dsimp only [cond_true, cond_false] at hF
   iterate 6 refine au ?_
   exact ⟨_, eqA, entA⟩
 rintro _ _ ⟨g2, rfl, hE⟩
 refine K_ent hE ?_
 refine au ?_
 cases hF
 exact Er ()
def s_l2Has_L1 (a_x : Int) : List Int → Nat → Option (Bool)
 | [], k4 => some false
 | x6 :: rest5, k4 => if ((x6 : Int) == a_x) then (
     some true)
   else (
     s_l2Has_L1 a_x rest5 (k4 + 1))
def s_l2Has (a_l : List Int) (a_x : Int) : Option (Bool) :=
 s_l2Has_L1 a_x a_l 0
theorem s_l2Has_ok (a_l : List Int) (v0_0 : Sv) (a_x : Int) (R : Bool) (hF : s_l2Has a_l a_x = some R) :
   Fw.Spec Tryz.prog 92 [v0_0.v, (.int .i64 a_x)] [crd (RdS 3 rdInt) v0_0.v a_l] (fun _ : Unit => (.bool R)) (fun _ => []) := by
 refine Se 18 Tryz.func92 [.tmp 4] ?_
 intro H0 F0
 unfold s_l2Has at hF
 iterate 7 refine au ?_
 refine CW_block (CW_loop (m := a_l.length) (fun m2 f' cs' => ∃ (g : Fr) (k4 : Nat) (rest5 : List Int), m2 = rest5.length ∧ f' = updL g [(0, v0_0.v), (1, (.int .i64 a_x)), (5, (.int .i64 (k4 : Int)))] ∧ List.drop k4 a_l = rest5 ∧ Ent cs' [crd (RdS 3 rdInt) v0_0.v a_l] ∧ s_l2Has_L1 a_x rest5 k4 = some R) ⟨_, 0, _, rfl, eqA, rfl, entA, hF⟩ ?_)
 rintro m2 _ _ ⟨g3, k4, rest5, rfl, rfl, hd7, hE, hF⟩
 refine Kb hE a_l (fun hbd12 => ?_)
 rcases rest5 with _ | ⟨x6, rest5⟩
 · have hk8 := dn hd7
   rw [s_l2Has_L1] at hF
   iterate 7 refine au ?_
   refine CdF ?_
   iterate 8 refine au ?_
   cases hF
   exact Er ()
 obtain ⟨hk8, hx9, hd10⟩ := drop_cons hd7
 rw [s_l2Has_L1] at hF
 iterate 7 refine au ?_
 refine CdT ?_
 iterate 5 refine au ?_
 refine Ai hx9 (fun k13 j14 => ?_)
 refine Al ls3_0 ?_
 iterate 3 refine au ?_
 refine Ci hF (fun hb16 hF => ?_) (fun hb16 hF => ?_)
 · iterate 4 refine au ?_
   cases hF
   exact Er ()
 iterate 6 refine au ?_
 rw [wk k4]
 exact ⟨_, Nat.lt_succ_self _, _, k4 + 1, rest5, rfl, eqA, hd10, entA, hF⟩
def s_l3Put_L1 (a_x : Int) : List Int → Nat → (List Int) → Bool → Option ((List Int))
 | [], k12, c5, c8 => if (!c8) then (
     (app c5 ([a_x] : List Int)).bind fun z22 =>
     some z22)
   else (
     some c5)
 | x14 :: rest13, k12, c5, c8 => (if ((!c8) && (decide ((a_x : Int) < x14))) then (
       (app c5 ([a_x] : List Int)).bind fun z33 =>
       (app z33 ([x14] : List Int)).bind fun z39 =>
       some (z39, true))
     else (
       (app c5 ([x14] : List Int)).bind fun z45 =>
       some (z45, c8))).bind fun o26 =>
   match o26 with
   | (c49, c52) => s_l3Put_L1 a_x rest13 (k12 + 1) c49 c52
def s_l3Put (a_l : List Int) (a_x : Int) : Option ((List Int)) :=
 (s_l2Has a_l a_x).bind fun r1 =>
 if r1 then (
   some a_l)
 else (
   s_l3Put_L1 a_x a_l 0 ([] : List Int) false)
theorem s_l3Put_ok (a_l : List Int) (v0_0 : Sv) (a_x : Int) (R : (List Int)) (hF : s_l3Put a_l a_x = some R) :
   Fw.Spec Tryz.prog 67 [v0_0.v, (.int .i64 a_x)] [crd (RdS 3 rdInt) v0_0.v a_l] (fun p : Sv => p.v) (fun p => [crd (RdS 3 rdInt) p.v R]) := by
 refine Se 47 Tryz.func67 [.tmp 4] ?_
 intro H0 F0
 unfold s_l3Put at hF
 iterate 7 refine au ?_
 refine bnd hF fun r1 hx2 hF => Cx0 (s_l2Has_ok _ _ _ _ hx2) (fun _ => ?_)
 refine au ?_
 refine Ci hF (fun hb55 hF => ?_) (fun hb55 hF => ?_)
 · iterate 5 refine au ?_
   cases hF
   exact Er v0_0
 iterate 2 refine au ?_
 refine C_new rfl (N_buildSliceT (g := true) sl22.h ty3.h .nil (vs := []) rfl rfl rfl (by simp)) (fun k4 => ?_)
 refine Cv1 (.cons .h .nil) (own_lit (Ro := (roE rdInt)) (E := 3) (F := []) (xs := ([] : List Int)) MkL_nil rfl rfl) ?_
 iterate 9 refine au ?_
 refine CW_block (CW_loop (m := a_l.length) (fun m10 f' cs' => ∃ (g : Fr) (k12 : Nat) (rest13 : List Int) (c5 : List Int) (c8 : Bool) (v6 : Sv) (F7 : List Nat), m10 = rest13.length ∧ f' = updL g [(0, v0_0.v), (1, (.int .i64 a_x)), (5, v6.v), (6, (.bool c8)), (7, (.int .i64 (k12 : Int)))] ∧ List.drop k12 a_l = rest13 ∧ Ent cs' [crd (RdS 3 rdInt) v0_0.v a_l, cown (OwnS 3 (roE rdInt)) F7 v6.v c5] ∧ s_l3Put_L1 a_x rest13 k12 c5 c8 = some R) ⟨_, 0, _, _, _, ⟨(some ⟨k4, 0, none⟩), 0, 1⟩, (k4 :: []), rfl, eqA, rfl, entA, hF⟩ ?_)
 rintro m10 _ _ ⟨g11, k12, rest13, c5, c8, v6, F7, rfl, rfl, hd15, hE, hF⟩
 refine Kb hE a_l (fun hbd20 => ?_)
 rcases rest13 with _ | ⟨x14, rest13⟩
 · have hk16 := dn hd15
   rw [s_l3Put_L1] at hF
   iterate 7 refine au ?_
   refine CdF ?_
   iterate 9 refine au ?_
   refine Ci hF (fun hb25 hF => ?_) (fun hb25 hF => ?_)
   · iterate 3 refine au ?_
     refine C_new rfl (N_buildSliceT (g := true) sl22.h ty3.h (.cons (.tmp rfl rfl) .nil) (vs := [(.int .i64 a_x)]) rfl rfl rfl (by intro v hv; simp at hv; rcases hv with rfl <;> rfl)) (fun k21 => ?_)
     refine Cv1 (.cons .h .nil) (own_lit (Ro := (roE rdInt)) (E := 3) (F := ([] ++ [])) (xs := ([a_x] : List Int)) (MkL_cons (Mk_pure (fun _ => rfl)) MkL_nil apps) rfl rfl) ?_
     refine bnd hF fun z22 hx23 hF => C_x1 (.cons (.t (.t .h)) (.cons .h .nil)) (X_appendO (Ro := (roE rdInt)) sl22.h ni22 ty3.h rfl rfl rfl (.tmp rfl rfl) (.tmp rfl rfl) hx23 src_own) (fun p24 => ?_)
     iterate 7 refine au ?_
     cases hF
     exact End_ret p24.1 (.tmp rfl rfl .nil) rfl (.frz .h frz_own (.sel (.rd .h rfl .nil)))
   iterate 6 refine au ?_
   cases hF
   exact End_ret v6 (.tmp rfl rfl .nil) rfl (.frz (.t .h) frz_own (.sel (.rd .h rfl .nil)))
 obtain ⟨hk16, hx17, hd18⟩ := drop_cons hd15
 rw [s_l3Put_L1] at hF
 iterate 7 refine au ?_
 refine CdT ?_
 refine au ?_
 obtain ⟨o26, hio26, hO27⟩ := bind_some hF
 refine K_cut (fun f' cs' => ∃ (c49 : List Int) (c52 : Bool) (v50 : Sv) (F51 : List Nat) (g : Fr), o26 = (c49, c52) ∧ f' = updL g [(0, v0_0.v), (1, (.int .i64 a_x)), (5, v50.v), (6, (.bool c52)), (7, (.int .i64 (k12 : Int)))] ∧ Ent cs' [crd (RdS 3 rdInt) v0_0.v a_l, cown (OwnS 3 (roE rdInt)) F51 v50.v c49]) ?_ ?_
 · replace hF := hio26
   refine CW_block (K_in (K_region (C_cut (fun f' cs' => ∃ (g : Fr), f' = updL g [(0, v0_0.v), (1, (.int .i64 a_x)), (5, v6.v), (6, (.bool c8)), (7, (.int .i64 (k12 : Int))), (28, (.bool ((!c8) && (decide ((a_x : Int) < x14)))))] ∧ Ent cs' [crd (RdS 3 rdInt) v0_0.v a_l, cown (OwnS 3 (roE rdInt)) F7 v6.v c5]) ?_ ?_)))
   · iterate 3 refine au ?_
     rcases Bool.eq_false_or_eq_true (!c8) with hg28 | hg28
     · rw [hg28]
       try rw [hg28] at hF; dsimp only [cond_true, cond_false] at hF
       iterate 5 refine au ?_
       refine Ai hx17 (fun k29 j30 => ?_)
       refine au ?_
       refine Al ls3_0 ?_
       iterate 6 refine au ?_
       exact ⟨_, eqA, entA⟩
     rw [hg28]
     try rw [hg28] at hF; dsimp only [cond_true, cond_false] at hF
     iterate 8 refine au ?_
     exact ⟨_, eqA, entA⟩
   rintro _ _ ⟨g31, rfl, hE⟩
   refine K_ent hE ?_
   refine Ci hF (fun hb48 hF => ?_) (fun hb48 hF => ?_)
   · iterate 3 refine au ?_
     refine C_new rfl (N_buildSliceT (g := true) sl22.h ty3.h (.cons (.tmp rfl rfl) .nil) (vs := [(.int .i64 a_x)]) rfl rfl rfl (by intro v hv; simp at hv; rcases hv with rfl <;> rfl)) (fun k32 => ?_)
     refine Cv1 (.cons .h .nil) (own_lit (Ro := (roE rdInt)) (E := 3) (F := ([] ++ [])) (xs := ([a_x] : List Int)) (MkL_cons (Mk_pure (fun _ => rfl)) MkL_nil apps) rfl rfl) ?_
     refine bnd hF fun z33 hx34 hF => C_x1 (.cons (.t (.t .h)) (.cons .h .nil)) (X_appendO (Ro := (roE rdInt)) sl22.h ni22 ty3.h rfl rfl rfl (.tmp rfl rfl) (.tmp rfl rfl) hx34 src_own) (fun p35 => ?_)
     iterate 9 refine au ?_
     refine Ai hx17 (fun k36 j37 => ?_)
     refine Al ls3_0 ?_
     refine C_new rfl (N_buildSliceT (g := true) sl22.h ty3.h (.cons (.tmp rfl rfl) .nil) (vs := [(.int .i64 x14)]) rfl rfl rfl (by intro v hv; simp at hv; rcases hv with rfl <;> rfl)) (fun k38 => ?_)
     refine Cv1 (.cons .h .nil) (own_lit (Ro := (roE rdInt)) (E := 3) (F := ([] ++ [])) (xs := ([x14] : List Int)) (MkL_cons (Mk_pure (fun _ => rfl)) MkL_nil apps) rfl rfl) ?_
     refine bnd hF fun z39 hx40 hF => C_x1 (.cons (.t (.t .h)) (.cons .h .nil)) (X_appendO (Ro := (roE rdInt)) sl22.h ni22 ty3.h rfl rfl rfl (.tmp rfl rfl) (.tmp rfl rfl) hx40 src_own) (fun p41 => ?_)
     iterate 2 refine au ?_
     cases hF
     exact ⟨_, _, p41.1, p41.2, _, rfl, eqA, entA⟩
   iterate 5 refine au ?_
   refine Ai hx17 (fun k42 j43 => ?_)
   refine Al ls3_0 ?_
   refine C_new rfl (N_buildSliceT (g := true) sl22.h ty3.h (.cons (.tmp rfl rfl) .nil) (vs := [(.int .i64 x14)]) rfl rfl rfl (by intro v hv; simp at hv; rcases hv with rfl <;> rfl)) (fun k44 => ?_)
   refine Cv1 (.cons .h .nil) (own_lit (Ro := (roE rdInt)) (E := 3) (F := ([] ++ [])) (xs := ([x14] : List Int)) (MkL_cons (Mk_pure (fun _ => rfl)) MkL_nil apps) rfl rfl) ?_
   refine bnd hF fun z45 hx46 hF => C_x1 (.cons (.t (.t (.t .h))) (.cons .h .nil)) (X_appendO (Ro := (roE rdInt)) sl22.h ni22 ty3.h rfl rfl rfl (.tmp rfl rfl) (.tmp rfl rfl) hx46 src_own) (fun p47 => ?_)
   iterate 2 refine au ?_
   cases hF
   exact ⟨_, _, p47.1, p47.2, _, rfl, eqA, entA⟩
 rintro _ _ ⟨c49, c52, v50, F51, g54, rfl, rfl, hE⟩
 replace hF := hO27
 try dsimp only at hF
 refine K_ent hE ?_
 iterate 5 refine au ?_
 rw [wk k12]
 exact ⟨_, Nat.lt_succ_self _, _, k12 + 1, rest13, _, _, v50, F51, rfl, eqA, hd18, entA, hF⟩
def s_StartReach_L1 : List Int → Nat → (List Int) → Option (Reached)
 | [], k67, c62 => some ({ Facts := [], Values := c62, Log := [], Rounds := 0 } : Reached)
 | x69 :: rest68, k67, c62 => ((s_l1In x69 0 9).bind fun r80 =>
     if r80 then (
       (s_l3Put c62 x69).bind fun r85 =>
       some r85)
     else (
       some c62)).bind fun o76 =>
   match o76 with
   | c89 => s_StartReach_L1 rest68 (k67 + 1) c89
def s_StartReach (a_seeds : List Int) : Option (Reached) :=
 s_StartReach_L1 a_seeds 0 ([] : List Int)
theorem s_StartReach_ok (a_seeds : List Int) (v0_0 : Sv) (R : Reached) (hF : s_StartReach a_seeds = some R) :
   Fw.Spec Tryz.prog 43 [v0_0.v] [crd (RdS 3 rdInt) v0_0.v a_seeds] (fun p : Sv × List Nat × Sv × Sv × List Nat => (.agg [p.1.v, p.2.2.1.v, p.2.2.2.1.v, (.int .i64 R.Rounds)].toArray)) (fun p => [cown (OwnS 39 ow39) p.2.1 p.1.v R.Facts, crd (RdS 3 rdInt) p.2.2.1.v R.Values, cown (OwnS 31 ow31) p.2.2.2.2 p.2.2.2.1.v R.Log]) := by
 refine Se 26 Tryz.func43 [.cell 2 54] ?_
 intro H0 F0
 unfold s_StartReach at hF
 refine au ?_
 refine AnW (fun k1 => ?_)
 iterate 2 refine au ?_
 refine C_val (V_build ty54.h rfl (vs := []) .nil (cells := [(.slice none 0 0), (.slice none 0 0), (.slice none 0 0), (.int .i64 0)]) rfl) ?_
 refine AnW (fun k2 => ?_)
 refine As (.agg [(.slice none 0 0), (.slice none 0 0), (.slice none 0 0), (.int .i64 0)].toArray) ?_
 iterate 5 refine au ?_
 refine CW_block (CW_loop (m := a_seeds.length) (fun m65 f' cs' => ∃ (g : Fr) (k67 : Nat) (rest68 : List Int) (c62 : List Int) (v63 : Sv), m65 = rest68.length ∧ f' = updL g [(0, v0_0.v), (2, (pz k1)), (3, (pz k2)), (4, (.int .i64 (k67 : Int)))] ∧ List.drop k67 a_seeds = rest68 ∧ Ent cs' [crd (RdS 3 rdInt) v0_0.v a_seeds, cbox k1 54 (.agg [(.slice none 0 0), (.slice none 0 0), (.slice none 0 0), (.int .i64 0)].toArray), cbox k2 54 (.agg [(.slice none 0 0), v63.v, (.slice none 0 0), (.int .i64 0)].toArray), crd (RdS 3 rdInt) v63.v c62] ∧ s_StartReach_L1 rest68 k67 c62 = some R) ⟨_, 0, _, _, ⟨none, 0, 0⟩, rfl, eqA, rfl, (.conv .nil (rd_nil (R := rdInt) (E := 3)) (.cons .nil) entA), hF⟩ ?_)
 rintro m65 _ _ ⟨g66, k67, rest68, c62, v63, rfl, rfl, hd70, hE, hF⟩
 refine Kb hE a_seeds (fun hbd75 => ?_)
 rcases rest68 with _ | ⟨x69, rest68⟩
 · have hk71 := dn hd70
   rw [s_StartReach_L1] at hF
   iterate 7 refine au ?_
   refine CdF ?_
   iterate 6 refine au ?_
   refine As (.agg [(.slice none 0 0), v63.v, (.slice none 0 0), (.int .i64 0)].toArray) ?_
   iterate 2 refine au ?_
   cases hF
   exact End_ret (⟨none, 0, 0⟩, [], v63, ⟨none, 0, 0⟩, []) (.cellA rfl rfl .h rfl ag54.h ty54.h.sz rfl rfl .nil) rfl (.conv .nil (own_nil (Ro := ow39) (E := 39)) (.cons .nil) (.conv .nil (own_nil (Ro := ow31) (E := 31)) (.cons .nil) (.sel (.cons (.t .h) (.rd (.t (.t (.t (.t .h)))) rfl (.cons .h .nil))))))
 obtain ⟨hk71, hx72, hd73⟩ := drop_cons hd70
 rw [s_StartReach_L1] at hF
 iterate 7 refine au ?_
 refine CdT ?_
 refine au ?_
 obtain ⟨o76, hio76, hO77⟩ := bind_some hF
 refine K_cut (fun f' cs' => ∃ (c89 : List Int) (v90 : Sv) (g : Fr), c89 = o76 ∧ f' = updL g [(0, v0_0.v), (2, (pz k1)), (3, (pz k2)), (4, (.int .i64 (k67 : Int)))] ∧ Ent cs' [crd (RdS 3 rdInt) v0_0.v a_seeds, cbox k1 54 (.agg [(.slice none 0 0), (.slice none 0 0), (.slice none 0 0), (.int .i64 0)].toArray), cbox k2 54 (.agg [(.slice none 0 0), v90.v, (.slice none 0 0), (.int .i64 0)].toArray), crd (RdS 3 rdInt) v90.v c89]) ?_ ?_
 · replace hF := hio76
   refine CW_block (K_region (Cm v0_0.v rfl rfl ?_))
   refine au ?_
   refine Ai hx72 (fun k78 j79 => ?_)
   refine Al ls3_0 ?_
   refine bnd hF fun r80 hx81 hF => Cx0 (s_l1In_ok _ _ _ _ hx81) (fun _ => ?_)
   refine au ?_
   refine Ci hF (fun hb88 hF => ?_) (fun hb88 hF => ?_)
   · refine CW_draw [0, 1, 2, 3, 4, 5, 6, 7, 8] [0, 1, 0, 0, 12, 28, 63, 127, 255] [6, 8] mixed (by decide +kernel) ?_
     refine du ?_
     refine D_atO rfl .no (.t (.t (.t .h))) (fun ha hp => V_load (v := v63.v) ag22.h (EN ha (.tmp rfl rfl) rfl) hp.2 rfl rfl) ?_
     iterate 2 refine du ?_
     refine Di hx72 (fun k83 j84 => ?_)
     refine Dl ls3_0 ?_
     refine bnd hF fun r85 hx86 hF => Dx1 (s_l3Put_ok _ _ _ _ hx86) (fun p87 => ?_)
     refine du ?_
     refine D_act1 rfl rfl .no (.cons (.t (.t (.t (.t (.t .h))))) .nil) (.dep rfl .nil) (fun ha => X_storeB (e' := (.agg [(.slice none 0 0), p87.v, (.slice none 0 0), (.int .i64 0)].toArray)) ty22.h.sz (EN ha (.tmp rfl rfl) rfl) (EN ha (.tmp rfl rfl) rfl) rfl rfl rfl rfl rfl) (fun _ => ?_)
     refine du ?_
     cases hF
     exact ⟨_, p87, _, rfl, eqA, entA⟩
   refine au ?_
   cases hF
   exact ⟨_, v63, _, rfl, eqA, entA⟩
 rintro _ _ ⟨c89, v90, g92, rfl, rfl, hE⟩
 replace hF := hO77
 try dsimp only at hF
 refine K_ent hE ?_
 iterate 5 refine au ?_
 rw [wk k67]
 exact ⟨_, Nat.lt_succ_self _, _, k67 + 1, rest68, _, v90, rfl, eqA, hd73, entA, hF⟩
def s_IsSchema_L1 (a_s : List Int) : List Int → Nat → Option (Bool)
 | [], k4 => (s_l1In (a_s.length : Int) 1 3).bind fun r13 =>
   some r13
 | x6 :: rest5, k4 => (s_l1In x6 1 3).bind fun r18 =>
   if (!r18) then (
     some false)
   else (
     s_IsSchema_L1 a_s rest5 (k4 + 1))
def s_IsSchema (a_s : List Int) : Option (Bool) :=
 s_IsSchema_L1 a_s a_s 0
theorem s_IsSchema_ok (a_s : List Int) (v0_0 : Sv) (R : Bool) (hF : s_IsSchema a_s = some R) :
   Fw.Spec Tryz.prog 74 [v0_0.v] [crd (RdS 3 rdInt) v0_0.v a_s] (fun _ : Unit => (.bool R)) (fun _ => []) := by
 refine Se 19 Tryz.func74 [.tmp 2] ?_
 intro H0 F0
 unfold s_IsSchema at hF
 iterate 7 refine au ?_
 refine CW_block (CW_loop (m := a_s.length) (fun m2 f' cs' => ∃ (g : Fr) (k4 : Nat) (rest5 : List Int), m2 = rest5.length ∧ f' = updL g [(0, v0_0.v), (3, (.int .i64 (k4 : Int)))] ∧ List.drop k4 a_s = rest5 ∧ Ent cs' [crd (RdS 3 rdInt) v0_0.v a_s] ∧ s_IsSchema_L1 a_s rest5 k4 = some R) ⟨_, 0, _, rfl, eqA, rfl, entA, hF⟩ ?_)
 rintro m2 _ _ ⟨g3, k4, rest5, rfl, rfl, hd7, hE, hF⟩
 refine Kb hE a_s (fun hbd12 => ?_)
 rcases rest5 with _ | ⟨x6, rest5⟩
 · have hk8 := dn hd7
   rw [s_IsSchema_L1] at hF
   iterate 7 refine au ?_
   refine CdF ?_
   iterate 7 refine au ?_
   refine bnd hF fun r13 hx14 hF => Cx0 (s_l1In_ok _ _ _ _ hx14) (fun _ => ?_)
   iterate 3 refine au ?_
   cases hF
   exact Er ()
 obtain ⟨hk8, hx9, hd10⟩ := drop_cons hd7
 rw [s_IsSchema_L1] at hF
 iterate 7 refine au ?_
 refine CdT ?_
 iterate 5 refine au ?_
 refine Ai hx9 (fun k16 j17 => ?_)
 refine Al ls3_0 ?_
 refine bnd hF fun r18 hx19 hF => Cx0 (s_l1In_ok _ _ _ _ hx19) (fun _ => ?_)
 iterate 2 refine au ?_
 refine Ci hF (fun hb22 hF => ?_) (fun hb22 hF => ?_)
 · iterate 4 refine au ?_
   cases hF
   exact Er ()
 iterate 6 refine au ?_
 rw [wk k4]
 exact ⟨_, Nat.lt_succ_self _, _, k4 + 1, rest5, rfl, eqA, hd10, entA, hF⟩
def s_IsMethod_L1 (a_s : List Int) (a_m : Method) : List Int → Nat → Option (Bool)
 | [], k27 => some true
 | x29 :: rest28, k27 => ((ix a_s a_m.Rel).bind fun x40 =>
     (s_l1In x29 0 (IntKind.i64.wrap (x40 - 1))).bind fun r46 =>
     bif (!r46) then (some true)
     else (bif (decide ((0 : Int) < (k27 : Int))) then ((ix a_m.Inputs (IntKind.i64.wrap ((k27 : Int) - 1))).bind fun x53 =>
         some (decide ((x29 : Int) ≤ x53)))
       else (some false))).bind fun o36 =>
   match o36 with
   | c59 => if c59 then (
       some false)
     else (
       s_IsMethod_L1 a_s a_m rest28 (k27 + 1))
def s_IsMethod (a_s : List Int) (a_m : Method) : Option (Bool) :=
 ((s_IsSchema a_s).bind fun r4 =>
   bif (!r4) then (some true)
   else ((s_l1In a_m.Rel 0 (IntKind.i64.wrap ((a_s.length : Int) - 1))).bind fun r8 =>
     bif (!r8) then (some true)
     else ((s_l1In a_m.Limit 0 9).bind fun r12 =>
       bif (!r12) then (some true)
       else ((s_l1In a_m.Cost 0 99).bind fun r16 =>
         bif (!r16) then (some true)
         else ((s_l1In a_m.Quota 1 99).bind fun r20 =>
           some (!r20)))))).bind fun o2 =>
 match o2 with
 | c23 => if c23 then (
     some false)
   else (
     s_IsMethod_L1 a_s a_m a_m.Inputs 0)
theorem s_IsMethod_ok (a_s : List Int) (v0_0 : Sv) (a_m : Method) (v1_1 : Sv) (R : Bool) (hF : s_IsMethod a_s a_m = some R) :
   Fw.Spec Tryz.prog 93 [v0_0.v, (.agg [(.int .i64 a_m.Rel), v1_1.v, (.int .i64 a_m.Limit), (.int .i64 a_m.Cost), (.int .i64 a_m.Quota)].toArray)] [crd (RdS 3 rdInt) v0_0.v a_s, crd (RdS 3 rdInt) v1_1.v a_m.Inputs] (fun _ : Unit => (.bool R)) (fun _ => []) := by
 refine Se 74 Tryz.func93 [.tmp 4] ?_
 intro H0 F0
 unfold s_IsMethod at hF
 refine au ?_
 refine AbR (fun k1 => ?_)
 iterate 3 refine au ?_
 obtain ⟨o2, hio2, hO3⟩ := bind_some hF
 refine au ?_
 refine C_cut (fun f' cs' => ∃ (c23 : Bool) (g : Fr), c23 = o2 ∧ f' = updL g [(0, v0_0.v), (3, (pz k1)), (35, (.bool c23))] ∧ Ent cs' [crd (RdS 3 rdInt) v0_0.v a_s, cboR k1 65 (.agg [(.int .i64 a_m.Rel), v1_1.v, (.int .i64 a_m.Limit), (.int .i64 a_m.Cost), (.int .i64 a_m.Quota)].toArray), crd (RdS 3 rdInt) v1_1.v a_m.Inputs]) ?_ ?_
 · replace hF := hio2
   refine au ?_
   refine bnd hF fun r4 hx5 hF => Cx0 (s_IsSchema_ok _ _ _ hx5) (fun _ => ?_)
   iterate 2 refine au ?_
   rcases Bool.eq_false_or_eq_true (!r4) with hg7 | hg7
   · rw [hg7]
     try rw [hg7] at hF; dsimp only [cond_true, cond_false] at hF
     iterate 27 refine au ?_
     cases hF
     exact ⟨_, _, rfl, eqA, entA⟩
   rw [hg7]
   try rw [hg7] at hF; dsimp only [cond_true, cond_false] at hF
   iterate 11 refine au ?_
   refine bnd hF fun r8 hx9 hF => Cx0 (s_l1In_ok _ _ _ _ hx9) (fun _ => ?_)
   iterate 4 refine au ?_
   rcases Bool.eq_false_or_eq_true (!r8) with hg11 | hg11
   · rw [hg11]
     try rw [hg11] at hF; dsimp only [cond_true, cond_false] at hF
     iterate 18 refine au ?_
     cases hF
     exact ⟨_, _, rfl, eqA, entA⟩
   rw [hg11]
   try rw [hg11] at hF; dsimp only [cond_true, cond_false] at hF
   iterate 5 refine au ?_
   refine bnd hF fun r12 hx13 hF => Cx0 (s_l1In_ok _ _ _ _ hx13) (fun _ => ?_)
   iterate 4 refine au ?_
   rcases Bool.eq_false_or_eq_true (!r12) with hg15 | hg15
   · rw [hg15]
     try rw [hg15] at hF; dsimp only [cond_true, cond_false] at hF
     iterate 12 refine au ?_
     cases hF
     exact ⟨_, _, rfl, eqA, entA⟩
   rw [hg15]
   try rw [hg15] at hF; dsimp only [cond_true, cond_false] at hF
   iterate 5 refine au ?_
   refine bnd hF fun r16 hx17 hF => Cx0 (s_l1In_ok _ _ _ _ hx17) (fun _ => ?_)
   iterate 4 refine au ?_
   rcases Bool.eq_false_or_eq_true (!r16) with hg19 | hg19
   · rw [hg19]
     try rw [hg19] at hF; dsimp only [cond_true, cond_false] at hF
     iterate 6 refine au ?_
     cases hF
     exact ⟨_, _, rfl, eqA, entA⟩
   rw [hg19]
   try rw [hg19] at hF; dsimp only [cond_true, cond_false] at hF
   iterate 5 refine au ?_
   refine bnd hF fun r20 hx21 hF => Cx0 (s_l1In_ok _ _ _ _ hx21) (fun _ => ?_)
   iterate 4 refine au ?_
   cases hF
   exact ⟨_, _, rfl, eqA, entA⟩
 rintro _ _ ⟨c23, g64, rfl, rfl, hE⟩
 replace hF := hO3
 try dsimp only at hF
 refine K_ent hE ?_
 refine Ci hF (fun hb63 hF => ?_) (fun hb63 hF => ?_)
 · iterate 4 refine au ?_
   cases hF
   exact Er ()
 iterate 5 refine au ?_
 refine CW_block (CW_loop (m := a_m.Inputs.length) (fun m25 f' cs' => ∃ (g : Fr) (k27 : Nat) (rest28 : List Int), m25 = rest28.length ∧ f' = updL g [(0, v0_0.v), (3, (pz k1)), (5, (.int .i64 (k27 : Int)))] ∧ List.drop k27 a_m.Inputs = rest28 ∧ Ent cs' [crd (RdS 3 rdInt) v0_0.v a_s, cboR k1 65 (.agg [(.int .i64 a_m.Rel), v1_1.v, (.int .i64 a_m.Limit), (.int .i64 a_m.Cost), (.int .i64 a_m.Quota)].toArray), crd (RdS 3 rdInt) v1_1.v a_m.Inputs] ∧ s_IsMethod_L1 a_s a_m rest28 k27 = some R) ⟨_, 0, _, rfl, eqA, rfl, entA, hF⟩ ?_)
 rintro m25 _ _ ⟨g26, k27, rest28, rfl, rfl, hd30, hE, hF⟩
 refine Kb hE a_m.Inputs (fun hbd35 => ?_)
 rcases rest28 with _ | ⟨x29, rest28⟩
 · have hk31 := dn hd30
   rw [s_IsMethod_L1] at hF
   iterate 8 refine au ?_
   refine CdF ?_
   iterate 8 refine au ?_
   cases hF
   exact Er ()
 obtain ⟨hk31, hx32, hd33⟩ := drop_cons hd30
 rw [s_IsMethod_L1] at hF
 iterate 8 refine au ?_
 refine CdT ?_
 iterate 2 refine au ?_
 obtain ⟨o36, hio36, hO37⟩ := bind_some hF
 refine K_draw [0, 1, 2, 3, 4, 5, 6, 7, 8, 9, 10, 11, 12, 13, 14, 15, 16, 17, 18, 19, 20, 21, 22, 23, 24, 25, 26, 27, 28, 29, 30] [0, 1, 0, 7, 15, 0, 0, 64, 224, 480, 992, 2047, 4095, 8191, 16383, 32767, 65535, 131071, 262143, 131071, 1048575, 2097151, 131071, 4325375, 131071, 16908287, 63045631, 130154495, 268435455, 536870911, 1073741823] [11] mixed (by decide +kernel) ?_
 refine D_cut (fun f' cs' => ∃ (c59 : Bool) (g : Fr), c59 = o36 ∧ f' = updL g [(0, v0_0.v), (3, (pz k1)), (5, (.int .i64 (k27 : Int))), (73, (.bool c59))] ∧ Ent cs' [crd (RdS 3 rdInt) v0_0.v a_s, cboR k1 65 (.agg [(.int .i64 a_m.Rel), v1_1.v, (.int .i64 a_m.Limit), (.int .i64 a_m.Cost), (.int .i64 a_m.Quota)].toArray), crd (RdS 3 rdInt) v1_1.v a_m.Inputs]) ?_ ?_
 · replace hF := hio36
   iterate 3 refine du ?_
   refine Di hx32 (fun k38 j39 => ?_)
   refine Dl ls3_0 ?_
   iterate 3 refine du ?_
   refine bnd hF fun x40 hx41 hF => ?_
   obtain ⟨hp42, hx43⟩ := ix_some hx41
   refine Di hx43 (fun k44 j45 => ?_)
   refine Dl ls3_0 ?_
   refine du ?_
   refine bnd hF fun r46 hx47 hF => Dx0 (s_l1In_ok _ _ _ _ hx47) (fun _ => ?_)
   iterate 2 refine du ?_
   rcases Bool.eq_false_or_eq_true (!r46) with hg49 | hg49
   · rw [hg49]
     try rw [hg49] at hF; dsimp only [cond_true, cond_false] at hF
     iterate 18 refine du ?_
     cases hF
     exact ⟨_, _, rfl, eqA, entA⟩
   rw [hg49]
   try rw [hg49] at hF; dsimp only [cond_true, cond_false] at hF
   iterate 3 refine du ?_
   rcases Bool.eq_false_or_eq_true (decide ((0 : Int) < (k27 : Int))) with hg50 | hg50
   · rw [hg50]
     try rw [hg50] at hF; dsimp only [cond_true, cond_false] at hF
     iterate 3 refine du ?_
     refine Di hx32 (fun k51 j52 => ?_)
     refine Dl ls3_0 ?_
     iterate 4 refine du ?_
     refine bnd hF fun x53 hx54 hF => ?_
     obtain ⟨hp55, hx56⟩ := ix_some hx54
     refine Di hx56 (fun k57 j58 => ?_)
     refine Dl ls3_0 ?_
     iterate 4 refine du ?_
     cases hF
     exact ⟨_, _, rfl, eqA, entA⟩
   rw [hg50]
   try rw [hg50] at hF; dsimp only [cond_true, cond_false] at hF
   iterate 15 refine du ?_
   cases hF
   exact ⟨_, _, rfl, eqA, entA⟩
 rintro _ _ ⟨c59, g62, rfl, rfl, hE⟩
 replace hF := hO37
 try dsimp only at hF
 refine K_ent hE ?_
 refine Ci hF (fun hb61 hF => ?_) (fun hb61 hF => ?_)
 · iterate 4 refine au ?_
   cases hF
   exact Er ()
 iterate 6 refine au ?_
 rw [wk k27]
 exact ⟨_, Nat.lt_succ_self _, _, k27 + 1, rest28, rfl, eqA, hd33, entA, hF⟩
def s_AreMethods_L1 (a_s : List Int) (a_l : List Method) : List Method → Nat → Option (Bool)
 | [], k4 => ((s_IsSchema a_s).bind fun r15 =>
     bif r15 then (some (decide (((a_l.length : Int) : Int) ≤ 5)))
     else (some false)).bind fun o13 =>
   match o13 with
   | c19 => some c19
 | x6 :: rest5, k4 => (s_IsMethod a_s x6).bind fun r24 =>
   if (!r24) then (
     some false)
   else (
     s_AreMethods_L1 a_s a_l rest5 (k4 + 1))
def s_AreMethods (a_s : List Int) (a_l : List Method) : Option (Bool) :=
 s_AreMethods_L1 a_s a_l a_l 0
theorem s_AreMethods_ok (a_s : List Int) (v0_0 : Sv) (a_l : List Method) (v1_0 : Sv) (R : Bool) (hF : s_AreMethods a_s a_l = some R) :
   Fw.Spec Tryz.prog 68 [v0_0.v, v1_0.v] [crd (RdS 3 rdInt) v0_0.v a_s, crd (RdS 65 rd65) v1_0.v a_l] (fun _ : Unit => (.bool R)) (fun _ => []) := by
 refine Se 26 Tryz.func68 [.tmp 4] ?_
 intro H0 F0
 unfold s_AreMethods at hF
 iterate 7 refine au ?_
 refine CW_block (CW_loop (m := a_l.length) (fun m2 f' cs' => ∃ (g : Fr) (k4 : Nat) (rest5 : List Method), m2 = rest5.length ∧ f' = updL g [(0, v0_0.v), (1, v1_0.v), (5, (.int .i64 (k4 : Int)))] ∧ List.drop k4 a_l = rest5 ∧ Ent cs' [crd (RdS 3 rdInt) v0_0.v a_s, crd (RdS 65 rd65) v1_0.v a_l] ∧ s_AreMethods_L1 a_s a_l rest5 k4 = some R) ⟨_, 0, _, rfl, eqA, rfl, entA, hF⟩ ?_)
 rintro m2 _ _ ⟨g3, k4, rest5, rfl, rfl, hd7, hE, hF⟩
 refine Kb hE a_l (fun hbd12 => ?_)
 rcases rest5 with _ | ⟨x6, rest5⟩
 · have hk8 := dn hd7
   rw [s_AreMethods_L1] at hF
   iterate 7 refine au ?_
   refine CdF ?_
   iterate 4 refine au ?_
   obtain ⟨o13, hio13, hO14⟩ := bind_some hF
   refine au ?_
   refine C_cut (fun f' cs' => ∃ (c19 : Bool) (g : Fr), c19 = o13 ∧ f' = updL g [(4, (.bool c19))] ∧ Ent cs' []) ?_ ?_
   · replace hF := hio13
     refine au ?_
     refine bnd hF fun r15 hx16 hF => Cx0 (s_IsSchema_ok _ _ _ hx16) (fun _ => ?_)
     refine au ?_
     rcases Bool.eq_false_or_eq_true r15 with hg18 | hg18
     · rw [hg18]
       try rw [hg18] at hF; dsimp only [cond_true, cond_false] at hF
       iterate 9 refine au ?_
       cases hF
       exact ⟨_, _, rfl, eqA, entA⟩
     rw [hg18]
     try rw [hg18] at hF; dsimp only [cond_true, cond_false] at hF
     iterate 6 refine au ?_
     cases hF
     exact ⟨_, _, rfl, eqA, entA⟩
   rintro _ _ ⟨c19, g20, rfl, rfl, hE⟩
   replace hF := hO14
   try dsimp only at hF
   refine K_ent hE ?_
   refine au ?_
   cases hF
   exact Er ()
 obtain ⟨hk8, hx9, hd10⟩ := drop_cons hd7
 rw [s_AreMethods_L1] at hF
 iterate 7 refine au ?_
 refine CdT ?_
 iterate 6 refine au ?_
 refine Ai hx9 (fun k21 j22 => ?_)
 refine AlA1 (ul65_0_65 x6) la65_0_65 (fun p23 => ?_)
 refine bnd hF fun r24 hx25 hF => Cx0 (s_IsMethod_ok _ _ _ _ _ hx25) (fun _ => ?_)
 iterate 2 refine au ?_
 refine Ci hF (fun hb28 hF => ?_) (fun hb28 hF => ?_)
 · iterate 4 refine au ?_
   cases hF
   exact Er ()
 iterate 6 refine au ?_
 rw [wk k4]
 exact ⟨_, Nat.lt_succ_self _, _, k4 + 1, rest5, rfl, eqA, hd10, entA, hF⟩
def s_IsFact_L1 : List Int → Nat → Option (Bool)
 | [], k22 => some true
 | x24 :: rest23, k22 => (s_l1In x24 0 9).bind fun r33 =>
   if (!r33) then (
     some false)
   else (
     s_IsFact_L1 rest23 (k22 + 1))
def s_IsFact (a_s : List Int) (a_f : Fact) : Option (Bool) :=
 ((s_IsSchema a_s).bind fun r4 =>
   bif (!r4) then (some true)
   else ((s_l1In a_f.Rel 0 (IntKind.i64.wrap ((a_s.length : Int) - 1))).bind fun r8 =>
     bif (!r8) then (some true)
     else ((ix a_s a_f.Rel).bind fun x12 =>
       some (((a_f.Values.length : Int) : Int) != x12)))).bind fun o2 =>
 match o2 with
 | c18 => if c18 then (
     some false)
   else (
     s_IsFact_L1 a_f.Values 0)
theorem s_IsFact_ok (a_s : List Int) (v0_0 : Sv) (a_f : Fact) (v1_1 : Sv) (R : Bool) (hF : s_IsFact a_s a_f = some R) :
   Fw.Spec Tryz.prog 73 [v0_0.v, (.agg [(.int .i64 a_f.Rel), v1_1.v].toArray)] [crd (RdS 3 rdInt) v0_0.v a_s, crd (RdS 3 rdInt) v1_1.v a_f.Values] (fun _ : Unit => (.bool R)) (fun _ => []) := by
 refine Se 43 Tryz.func73 [.tmp 4] ?_
 intro H0 F0
 unfold s_IsFact at hF
 refine au ?_
 refine AbR (fun k1 => ?_)
 iterate 3 refine au ?_
 obtain ⟨o2, hio2, hO3⟩ := bind_some hF
 refine K_draw [0, 1, 2, 3, 4, 5, 6, 7, 8, 9, 10, 11, 12, 13, 14, 15, 16, 17, 18, 19, 20, 21, 22] [0, 1, 3, 7, 15, 31, 15, 79, 207, 511, 1023, 2047, 4095, 8191, 16383, 32767, 8191, 8191, 139263, 466943, 991231, 2097151, 4194303] [1, 9] mixed (by decide +kernel) ?_
 refine D_cut (fun f' cs' => ∃ (c18 : Bool) (g : Fr), c18 = o2 ∧ f' = updL g [(3, (pz k1)), (28, (.bool c18))] ∧ Ent cs' [cboR k1 39 (.agg [(.int .i64 a_f.Rel), v1_1.v].toArray), crd (RdS 3 rdInt) v1_1.v a_f.Values]) ?_ ?_
 · replace hF := hio2
   refine du ?_
   refine bnd hF fun r4 hx5 hF => Dx0 (s_IsSchema_ok _ _ _ hx5) (fun _ => ?_)
   iterate 2 refine du ?_
   rcases Bool.eq_false_or_eq_true (!r4) with hg7 | hg7
   · rw [hg7]
     try rw [hg7] at hF; dsimp only [cond_true, cond_false] at hF
     iterate 20 refine du ?_
     cases hF
     exact ⟨_, _, rfl, eqA, entA⟩
   rw [hg7]
   try rw [hg7] at hF; dsimp only [cond_true, cond_false] at hF
   iterate 5 refine du ?_
   refine bnd hF fun r8 hx9 hF => Dx0 (s_l1In_ok _ _ _ _ hx9) (fun _ => ?_)
   iterate 3 refine du ?_
   rcases Bool.eq_false_or_eq_true (!r8) with hg11 | hg11
   · rw [hg11]
     try rw [hg11] at hF; dsimp only [cond_true, cond_false] at hF
     iterate 11 refine du ?_
     cases hF
     exact ⟨_, _, rfl, eqA, entA⟩
   rw [hg11]
   try rw [hg11] at hF; dsimp only [cond_true, cond_false] at hF
   iterate 6 refine du ?_
   refine bnd hF fun x12 hx13 hF => ?_
   obtain ⟨hp14, hx15⟩ := ix_some hx13
   refine Di hx15 (fun k16 j17 => ?_)
   refine Dl ls3_0 ?_
   iterate 3 refine du ?_
   cases hF
   exact ⟨_, _, rfl, eqA, entA⟩
 rintro _ _ ⟨c18, g39, rfl, rfl, hE⟩
 replace hF := hO3
 try dsimp only at hF
 refine K_ent hE ?_
 refine Ci hF (fun hb38 hF => ?_) (fun hb38 hF => ?_)
 · iterate 4 refine au ?_
   cases hF
   exact Er ()
 iterate 5 refine au ?_
 refine CW_block (CW_loop (m := a_f.Values.length) (fun m20 f' cs' => ∃ (g : Fr) (k22 : Nat) (rest23 : List Int), m20 = rest23.length ∧ f' = updL g [(3, (pz k1)), (5, (.int .i64 (k22 : Int)))] ∧ List.drop k22 a_f.Values = rest23 ∧ Ent cs' [cboR k1 39 (.agg [(.int .i64 a_f.Rel), v1_1.v].toArray), crd (RdS 3 rdInt) v1_1.v a_f.Values] ∧ s_IsFact_L1 rest23 k22 = some R) ⟨_, 0, _, rfl, eqA, rfl, entA, hF⟩ ?_)
 rintro m20 _ _ ⟨g21, k22, rest23, rfl, rfl, hd25, hE, hF⟩
 refine Kb hE a_f.Values (fun hbd30 => ?_)
 rcases rest23 with _ | ⟨x24, rest23⟩
 · have hk26 := dn hd25
   rw [s_IsFact_L1] at hF
   iterate 8 refine au ?_
   refine CdF ?_
   iterate 8 refine au ?_
   cases hF
   exact Er ()
 obtain ⟨hk26, hx27, hd28⟩ := drop_cons hd25
 rw [s_IsFact_L1] at hF
 iterate 8 refine au ?_
 refine CdT ?_
 iterate 6 refine au ?_
 refine Ai hx27 (fun k31 j32 => ?_)
 refine Al ls3_0 ?_
 refine bnd hF fun r33 hx34 hF => Cx0 (s_l1In_ok _ _ _ _ hx34) (fun _ => ?_)
 iterate 2 refine au ?_
 refine Ci hF (fun hb37 hF => ?_) (fun hb37 hF => ?_)
 · iterate 4 refine au ?_
   cases hF
   exact Er ()
 iterate 6 refine au ?_
 rw [wk k22]
 exact ⟨_, Nat.lt_succ_self _, _, k22 + 1, rest23, rfl, eqA, hd28, entA, hF⟩
def s_CompareFacts_L1 (a_a : Fact) (a_b : Fact) : Nat → Int → Option (Int)
 | 0, _ => none
 | m5 + 1, c4 => if ((decide ((c4 : Int) < (a_a.Values.length : Int))) && (decide ((c4 : Int) < (a_b.Values.length : Int)))) then (
     (ix a_a.Values c4).bind fun x15 =>
     (ix a_b.Values c4).bind fun x21 =>
     if (decide ((x15 : Int) < x21)) then (
       some (-1))
     else (
       (ix a_a.Values c4).bind fun x27 =>
       (ix a_b.Values c4).bind fun x33 =>
       if (decide ((x33 : Int) < x27)) then (
         some 1)
       else (
         s_CompareFacts_L1 a_a a_b m5 (IntKind.i64.wrap (c4 + 1)))))
   else (
     if (decide (((a_a.Values.length : Int) : Int) < (a_b.Values.length : Int))) then (
       some (-1))
     else (
       if (decide (((a_b.Values.length : Int) : Int) < (a_a.Values.length : Int))) then (
         some 1)
       else (
         some 0)))
def s_CompareFacts (a_a : Fact) (a_b : Fact) : Option (Int) :=
 if ((a_a.Rel : Int) != a_b.Rel) then (
   if (decide ((a_a.Rel : Int) < a_b.Rel)) then (
     some (-1))
   else (
     some 1))
 else (
   s_CompareFacts_L1 a_a a_b (((a_a.Values.length : Int) - 0).toNat + 2) 0)
theorem s_CompareFacts_ok (a_a : Fact) (v0_1 : Sv) (a_b : Fact) (v1_1 : Sv) (R : Int) (hF : s_CompareFacts a_a a_b = some R) :
   Fw.Spec Tryz.prog 50 [(.agg [(.int .i64 a_a.Rel), v0_1.v].toArray), (.agg [(.int .i64 a_b.Rel), v1_1.v].toArray)] [crd (RdS 3 rdInt) v0_1.v a_a.Values, crd (RdS 3 rdInt) v1_1.v a_b.Values] (fun _ : Unit => (.int .i64 R)) (fun _ => []) := by
 refine Se 66 Tryz.func50 [.tmp 4] ?_
 intro H0 F0
 unfold s_CompareFacts at hF
 refine au ?_
 refine AbR (fun k1 => ?_)
 refine AbR (fun k2 => ?_)
 iterate 10 refine au ?_
 refine Ci hF (fun hb44 hF => ?_) (fun hb44 hF => ?_)
 · iterate 8 refine au ?_
   refine Ci hF (fun hb3 hF => ?_) (fun hb3 hF => ?_)
   · iterate 4 refine au ?_
     cases hF
     exact Er ()
   iterate 5 refine au ?_
   cases hF
   exact Er ()
 iterate 5 refine au ?_
 refine CW_block (CW_loop (m := (((a_a.Values.length : Int) - 0).toNat + 2)) (fun m5 f' cs' => ∃ (g : Fr) (c4 : Int), f' = updL g [(2, (pz k1)), (3, (pz k2)), (5, (.int .i64 c4))] ∧ Ent cs' [cboR k1 39 (.agg [(.int .i64 a_a.Rel), v0_1.v].toArray), crd (RdS 3 rdInt) v0_1.v a_a.Values, cboR k2 39 (.agg [(.int .i64 a_b.Rel), v1_1.v].toArray), crd (RdS 3 rdInt) v1_1.v a_b.Values] ∧ s_CompareFacts_L1 a_a a_b m5 c4 = some R) ⟨_, _, eqA, entA, hF⟩ ?_)
 rintro m5 _ _ ⟨g6, c4, rfl, hE, hF⟩
 refine K_ent hE ?_
 rcases m5 with _ | m5
 · rw [s_CompareFacts_L1] at hF
   exact absurd hF (by simp)
 rw [s_CompareFacts_L1] at hF
 iterate 2 refine au ?_
 refine C_cut (fun f' cs' => ∃ (g : Fr), f' = updL g [(2, (pz k1)), (3, (pz k2)), (5, (.int .i64 c4)), (27, (.bool ((decide ((c4 : Int) < (a_a.Values.length : Int))) && (decide ((c4 : Int) < (a_b.Values.length : Int))))))] ∧ Ent cs' [cboR k1 39 (.agg [(.int .i64 a_a.Rel), v0_1.v].toArray), crd (RdS 3 rdInt) v0_1.v a_a.Values, cboR k2 39 (.agg [(.int .i64 a_b.Rel), v1_1.v].toArray), crd (RdS 3 rdInt) v1_1.v a_b.Values]) ?_ ?_
 · iterate 6 refine au ?_
   rcases Bool.eq_false_or_eq_true (decide ((c4 : Int) < (a_a.Values.length : Int))) with hg13 | hg13
   · rw [hg13]
     try rw [hg13] at hF; dsimp only [cond_true, cond_false] at hF
     iterate 12 refine au ?_
     exact ⟨_, eqA, entA⟩
   rw [hg13]
   try rw [hg13] at hF; dsimp only [cond_true, cond_false] at hF
   iterate 7 refine au ?_
   exact ⟨_, eqA, entA⟩
 rintro _ _ ⟨g14, rfl, hE⟩
 refine K_ent hE ?_
 refine Ci hF (fun hb43 hF => ?_) (fun hb43 hF => ?_)
 · iterate 3 refine au ?_
   refine K_draw [0, 1, 2, 3, 4, 5, 6, 7, 8, 9, 10] [0, 1, 0, 7, 15, 0, 32, 0, 224, 480, 1023] [] mixed (by decide +kernel) ?_
   iterate 3 refine du ?_
   refine bnd hF fun x15 hx16 hF => ?_
   obtain ⟨hp17, hx18⟩ := ix_some hx16
   refine Di hx18 (fun k19 j20 => ?_)
   refine Dl ls3_0 ?_
   iterate 3 refine du ?_
   refine bnd hF fun x21 hx22 hF => ?_
   obtain ⟨hp23, hx24⟩ := ix_some hx22
   refine Di hx24 (fun k25 j26 => ?_)
   refine Dl ls3_0 ?_
   iterate 2 refine du ?_
   refine Ci hF (fun hb40 hF => ?_) (fun hb40 hF => ?_)
   · iterate 4 refine au ?_
     cases hF
     exact Er ()
   refine au ?_
   refine K_draw [0, 1, 2, 3, 4, 5, 6, 7, 8, 9, 10] [0, 1, 0, 7, 15, 0, 32, 0, 224, 480, 1023] [] mixed (by decide +kernel) ?_
   iterate 3 refine du ?_
   refine bnd hF fun x27 hx28 hF => ?_
   obtain ⟨hp29, hx30⟩ := ix_some hx28
   refine Di hx30 (fun k31 j32 => ?_)
   refine Dl ls3_0 ?_
   iterate 3 refine du ?_
   refine bnd hF fun x33 hx34 hF => ?_
   obtain ⟨hp35, hx36⟩ := ix_some hx34
   refine Di hx36 (fun k37 j38 => ?_)
   refine Dl ls3_0 ?_
   iterate 2 refine du ?_
   refine Ci hF (fun hb39 hF => ?_) (fun hb39 hF => ?_)
   · iterate 4 refine au ?_
     cases hF
     exact Er ()
   iterate 6 refine au ?_
   exact ⟨m5, Nat.lt_succ_self _, _, _, eqA, entA, hF⟩
 iterate 14 refine au ?_
 refine Ci hF (fun hb42 hF => ?_) (fun hb42 hF => ?_)
 · iterate 4 refine au ?_
   cases hF
   exact Er ()
 iterate 11 refine au ?_
 refine Ci hF (fun hb41 hF => ?_) (fun hb41 hF => ?_)
 · iterate 4 refine au ?_
   cases hF
   exact Er ()
 iterate 5 refine au ?_
 cases hF
 exact Er ()
def s_AreFacts_L1 (a_s : List Int) (a_l : List Fact) : List Fact → Nat → Option (Bool)
 | [], k4 => ((s_IsSchema a_s).bind fun r15 =>
     bif r15 then (some (decide (((a_l.length : Int) : Int) ≤ 24)))
     else (some false)).bind fun o13 =>
   match o13 with
   | c19 => some c19
 | x6 :: rest5, k4 => ((s_IsFact a_s x6).bind fun r26 =>
     bif (!r26) then (some true)
     else (bif (decide ((0 : Int) < (k4 : Int))) then ((ix a_l (IntKind.i64.wrap ((k4 : Int) - 1))).bind fun x31 =>
         (s_CompareFacts x31 x6).bind fun r41 =>
         some (decide ((0 : Int) ≤ r41)))
       else (some false))).bind fun o21 =>
   match o21 with
   | c44 => if c44 then (
       some false)
     else (
       s_AreFacts_L1 a_s a_l rest5 (k4 + 1))
def s_AreFacts (a_s : List Int) (a_l : List Fact) : Option (Bool) :=
 s_AreFacts_L1 a_s a_l a_l 0
theorem s_AreFacts_ok (a_s : List Int) (v0_0 : Sv) (a_l : List Fact) (v1_0 : Sv) (R : Bool) (hF : s_AreFacts a_s a_l = some R) :
   Fw.Spec Tryz.prog 52 [v0_0.v, v1_0.v] [crd (RdS 3 rdInt) v0_0.v a_s, crd (RdS 39 rd39) v1_0.v a_l] (fun _ : Unit => (.bool R)) (fun _ => []) := by
 refine Se 43 Tryz.func52 [.tmp 4] ?_
 intro H0 F0
 unfold s_AreFacts at hF
 iterate 7 refine au ?_
 refine CW_block (CW_loop (m := a_l.length) (fun m2 f' cs' => ∃ (g : Fr) (k4 : Nat) (rest5 : List Fact), m2 = rest5.length ∧ f' = updL g [(0, v0_0.v), (1, v1_0.v), (5, (.int .i64 (k4 : Int)))] ∧ List.drop k4 a_l = rest5 ∧ Ent cs' [crd (RdS 3 rdInt) v0_0.v a_s, crd (RdS 39 rd39) v1_0.v a_l] ∧ s_AreFacts_L1 a_s a_l rest5 k4 = some R) ⟨_, 0, _, rfl, eqA, rfl, entA, hF⟩ ?_)
 rintro m2 _ _ ⟨g3, k4, rest5, rfl, rfl, hd7, hE, hF⟩
 refine Kb hE a_l (fun hbd12 => ?_)
 rcases rest5 with _ | ⟨x6, rest5⟩
 · have hk8 := dn hd7
   rw [s_AreFacts_L1] at hF
   iterate 7 refine au ?_
   refine CdF ?_
   iterate 4 refine au ?_
   obtain ⟨o13, hio13, hO14⟩ := bind_some hF
   refine au ?_
   refine C_cut (fun f' cs' => ∃ (c19 : Bool) (g : Fr), c19 = o13 ∧ f' = updL g [(4, (.bool c19))] ∧ Ent cs' []) ?_ ?_
   · replace hF := hio13
     refine au ?_
     refine bnd hF fun r15 hx16 hF => Cx0 (s_IsSchema_ok _ _ _ hx16) (fun _ => ?_)
     refine au ?_
     rcases Bool.eq_false_or_eq_true r15 with hg18 | hg18
     · rw [hg18]
       try rw [hg18] at hF; dsimp only [cond_true, cond_false] at hF
       iterate 9 refine au ?_
       cases hF
       exact ⟨_, _, rfl, eqA, entA⟩
     rw [hg18]
     try rw [hg18] at hF; dsimp only [cond_true, cond_false] at hF
     iterate 6 refine au ?_
     cases hF
     exact ⟨_, _, rfl, eqA, entA⟩
   rintro _ _ ⟨c19, g20, rfl, rfl, hE⟩
   replace hF := hO14
   try dsimp only at hF
   refine K_ent hE ?_
   refine au ?_
   cases hF
   exact Er ()
 obtain ⟨hk8, hx9, hd10⟩ := drop_cons hd7
 rw [s_AreFacts_L1] at hF
 iterate 7 refine au ?_
 refine CdT ?_
 iterate 2 refine au ?_
 obtain ⟨o21, hio21, hO22⟩ := bind_some hF
 refine K_draw [0, 1, 2, 3, 4, 5, 6, 7, 8, 9, 10, 11, 12, 13, 14, 15, 16, 17, 18, 19, 20, 21, 22, 23] [0, 0, 0, 6, 14, 31, 63, 127, 255, 511, 1023, 2047, 2047, 6143, 16383, 32767, 2047, 2047, 198655, 460799, 1048575, 2097151, 4194303, 8388607] [5, 20] mixed (by decide +kernel) ?_
 refine D_cut (fun f' cs' => ∃ (c44 : Bool) (g : Fr), c44 = o21 ∧ f' = updL g [(0, v0_0.v), (1, v1_0.v), (5, (.int .i64 (k4 : Int))), (35, (.bool c44))] ∧ Ent cs' [crd (RdS 3 rdInt) v0_0.v a_s, crd (RdS 39 rd39) v1_0.v a_l]) ?_ ?_
 · replace hF := hio21
   iterate 3 refine du ?_
   refine Di hx9 (fun k23 j24 => ?_)
   refine DlA1 (ul39_0_39 x6) la39_0_39 (fun p25 => ?_)
   refine bnd hF fun r26 hx27 hF => Dx0 (s_IsFact_ok _ _ _ _ _ hx27) (fun _ => ?_)
   iterate 2 refine du ?_
   rcases Bool.eq_false_or_eq_true (!r26) with hg29 | hg29
   · rw [hg29]
     try rw [hg29] at hF; dsimp only [cond_true, cond_false] at hF
     iterate 17 refine du ?_
     cases hF
     exact ⟨_, _, rfl, eqA, entA⟩
   rw [hg29]
   try rw [hg29] at hF; dsimp only [cond_true, cond_false] at hF
   iterate 3 refine du ?_
   rcases Bool.eq_false_or_eq_true (decide ((0 : Int) < (k4 : Int))) with hg30 | hg30
   · rw [hg30]
     try rw [hg30] at hF; dsimp only [cond_true, cond_false] at hF
     iterate 3 refine du ?_
     refine bnd hF fun x31 hx32 hF => ?_
     obtain ⟨hp33, hx34⟩ := ix_some hx32
     refine Di hx34 (fun k35 j36 => ?_)
     refine DlA1 (ul39_0_39 x31) la39_0_39 (fun p37 => ?_)
     iterate 2 refine du ?_
     refine Di hx9 (fun k38 j39 => ?_)
     refine DlA1 (ul39_0_39 x6) la39_0_39 (fun p40 => ?_)
     refine bnd hF fun r41 hx42 hF => Dx0 (s_CompareFacts_ok _ _ _ _ _ hx42) (fun _ => ?_)
     iterate 4 refine du ?_
     cases hF
     exact ⟨_, _, rfl, eqA, entA⟩
   rw [hg30]
   try rw [hg30] at hF; dsimp only [cond_true, cond_false] at hF
   iterate 14 refine du ?_
   cases hF
   exact ⟨_, _, rfl, eqA, entA⟩
 rintro _ _ ⟨c44, g47, rfl, rfl, hE⟩
 replace hF := hO22
 try dsimp only at hF
 refine K_ent hE ?_
 refine Ci hF (fun hb46 hF => ?_) (fun hb46 hF => ?_)
 · iterate 4 refine au ?_
   cases hF
   exact Er ()
 iterate 6 refine au ?_
 rw [wk k4]
 exact ⟨_, Nat.lt_succ_self _, _, k4 + 1, rest5, rfl, eqA, hd10, entA, hF⟩
def s_l8Values_L1 (a_l : List Int) : List Int → Nat → Option (Bool)
 | [], k4 => some true
 | x6 :: rest5, k4 => ((s_l1In x6 0 9).bind fun r17 =>
     bif (!r17) then (some true)
     else (bif (decide ((0 : Int) < (k4 : Int))) then ((ix a_l (IntKind.i64.wrap ((k4 : Int) - 1))).bind fun x24 =>
         some (decide ((x6 : Int) ≤ x24)))
       else (some false))).bind fun o13 =>
   match o13 with
   | c30 => if c30 then (
       some false)
     else (
       s_l8Values_L1 a_l rest5 (k4 + 1))
def s_l8Values (a_l : List Int) : Option (Bool) :=
 s_l8Values_L1 a_l a_l 0
theorem s_l8Values_ok (a_l : List Int) (v0_0 : Sv) (R : Bool) (hF : s_l8Values a_l = some R) :
   Fw.Spec Tryz.prog 69 [v0_0.v] [crd (RdS 3 rdInt) v0_0.v a_l] (fun _ : Unit => (.bool R)) (fun _ => []) := by
 refine Se 32 Tryz.func69 [.tmp 2] ?_
 intro H0 F0
 unfold s_l8Values at hF
 iterate 7 refine au ?_
 refine CW_block (CW_loop (m := a_l.length) (fun m2 f' cs' => ∃ (g : Fr) (k4 : Nat) (rest5 : List Int), m2 = rest5.length ∧ f' = updL g [(0, v0_0.v), (3, (.int .i64 (k4 : Int)))] ∧ List.drop k4 a_l = rest5 ∧ Ent cs' [crd (RdS 3 rdInt) v0_0.v a_l] ∧ s_l8Values_L1 a_l rest5 k4 = some R) ⟨_, 0, _, rfl, eqA, rfl, entA, hF⟩ ?_)
 rintro m2 _ _ ⟨g3, k4, rest5, rfl, rfl, hd7, hE, hF⟩
 refine Kb hE a_l (fun hbd12 => ?_)
 rcases rest5 with _ | ⟨x6, rest5⟩
 · have hk8 := dn hd7
   rw [s_l8Values_L1] at hF
   iterate 7 refine au ?_
   refine CdF ?_
   iterate 8 refine au ?_
   cases hF
   exact Er ()
 obtain ⟨hk8, hx9, hd10⟩ := drop_cons hd7
 rw [s_l8Values_L1] at hF
 iterate 7 refine au ?_
 refine CdT ?_
 iterate 2 refine au ?_
 obtain ⟨o13, hio13, hO14⟩ := bind_some hF
 refine K_draw [0, 1, 2, 3, 4, 5, 6, 7, 8, 9, 10, 11, 12, 13, 14, 15, 16, 17, 18, 19, 20, 21] [0, 0, 3, 7, 15, 31, 63, 127, 255, 511, 1023, 1023, 4095, 8191, 1023, 1023, 33791, 115711, 246783, 524287, 1048575, 2097151] [4] mixed (by decide +kernel) ?_
 refine D_cut (fun f' cs' => ∃ (c30 : Bool) (g : Fr), c30 = o13 ∧ f' = updL g [(0, v0_0.v), (3, (.int .i64 (k4 : Int))), (31, (.bool c30))] ∧ Ent cs' [crd (RdS 3 rdInt) v0_0.v a_l]) ?_ ?_
 · replace hF := hio13
   iterate 2 refine du ?_
   refine Di hx9 (fun k15 j16 => ?_)
   refine Dl ls3_0 ?_
   refine bnd hF fun r17 hx18 hF => Dx0 (s_l1In_ok _ _ _ _ hx18) (fun _ => ?_)
   iterate 2 refine du ?_
   rcases Bool.eq_false_or_eq_true (!r17) with hg20 | hg20
   · rw [hg20]
     try rw [hg20] at hF; dsimp only [cond_true, cond_false] at hF
     iterate 16 refine du ?_
     cases hF
     exact ⟨_, _, rfl, eqA, entA⟩
   rw [hg20]
   try rw [hg20] at hF; dsimp only [cond_true, cond_false] at hF
   iterate 3 refine du ?_
   rcases Bool.eq_false_or_eq_true (decide ((0 : Int) < (k4 : Int))) with hg21 | hg21
   · rw [hg21]
     try rw [hg21] at hF; dsimp only [cond_true, cond_false] at hF
     iterate 2 refine du ?_
     refine Di hx9 (fun k22 j23 => ?_)
     refine Dl ls3_0 ?_
     iterate 3 refine du ?_
     refine bnd hF fun x24 hx25 hF => ?_
     obtain ⟨hp26, hx27⟩ := ix_some hx25
     refine Di hx27 (fun k28 j29 => ?_)
     refine Dl ls3_0 ?_
     iterate 4 refine du ?_
     cases hF
     exact ⟨_, _, rfl, eqA, entA⟩
   rw [hg21]
   try rw [hg21] at hF; dsimp only [cond_true, cond_false] at hF
   iterate 13 refine du ?_
   cases hF
   exact ⟨_, _, rfl, eqA, entA⟩
 rintro _ _ ⟨c30, g33, rfl, rfl, hE⟩
 replace hF := hO14
 try dsimp only at hF
 refine K_ent hE ?_
 refine Ci hF (fun hb32 hF => ?_) (fun hb32 hF => ?_)
 · iterate 4 refine au ?_
   cases hF
   exact Er ()
 iterate 6 refine au ?_
 rw [wk k4]
 exact ⟨_, Nat.lt_succ_self _, _, k4 + 1, rest5, rfl, eqA, hd10, entA, hF⟩
def s_l2One (a_rel : Int) (a_values : List Int) : Option (Fact) :=
 (app ([] : List Int) a_values).bind fun z3 =>
 some ({ Rel := a_rel, Values := z3 } : Fact)
theorem s_l2One_ok (a_rel : Int) (a_values : List Int) (v1_0 : Sv) (R : Fact) (hF : s_l2One a_rel a_values = some R) :
   Fw.Spec Tryz.prog 76 [(.int .i64 a_rel), v1_0.v] [crd (RdS 3 rdInt) v1_0.v a_values] (fun p : Sv × List Nat => (.agg [(.int .i64 R.Rel), p.1.v].toArray)) (fun p => [cown (OwnS 3 (roE rdInt)) p.2 p.1.v R.Values]) := by
 refine Se 10 Tryz.func76 [.cell 4 39] ?_
 intro H0 F0
 unfold s_l2One at hF
 refine au ?_
 refine AnW (fun k1 => ?_)
 iterate 3 refine au ?_
 refine C_new rfl (N_buildSliceT (g := true) sl22.h ty3.h .nil (vs := []) rfl rfl rfl (by simp)) (fun k2 => ?_)
 refine Cv1 (.cons .h .nil) (own_lit (Ro := (roE rdInt)) (E := 3) (F := []) (xs := ([] : List Int)) MkL_nil rfl rfl) ?_
 refine au ?_
 refine bnd hF fun z3 hx4 hF => C_x1 (.cons .h (.rd (.t .h) rfl .nil)) (X_appendO (Ro := (roE rdInt)) sl22.h ni22 ty3.h rfl rfl rfl (.tmp rfl rfl) (.tmp rfl rfl) hx4 src_rd) (fun p5 => ?_)
 refine C_val (V_build ty39.h rfl (vs := [(.int .i64 a_rel), p5.1.v]) (.cons (.tmp rfl rfl) (.cons (.tmp rfl rfl) .nil)) (cells := [(.int .i64 a_rel), p5.1.v]) rfl) ?_
 refine As (.agg [(.int .i64 a_rel), p5.1.v].toArray) ?_
 iterate 2 refine au ?_
 cases hF
 exact Er (p5.1, p5.2)
def s_l2Copy_L1 : List Fact → Nat → (List Fact) → Option ((List Fact))
 | [], k8, c2 => some c2
 | x10 :: rest9, k8, c2 => (s_l2One x10.Rel x10.Values).bind fun r22 =>
   (app c2 ([r22] : List Fact)).bind fun z26 =>
   s_l2Copy_L1 rest9 (k8 + 1) z26
def s_l2Copy (a_l : List Fact) : Option ((List Fact)) :=
 s_l2Copy_L1 a_l 0 ([] : List Fact)
theorem s_l2Copy_ok (a_l : List Fact) (v0_0 : Sv) (R : (List Fact)) (hF : s_l2Copy a_l = some R) :
   Fw.Spec Tryz.prog 94 [v0_0.v] [crd (RdS 39 rd39) v0_0.v a_l] (fun p : Sv × List Nat => p.1.v) (fun p => [cown (OwnS 39 ow39) p.2 p.1.v R]) := by
 refine Se 27 Tryz.func94 [.tmp 2] ?_
 intro H0 F0
 unfold s_l2Copy at hF
 iterate 4 refine au ?_
 refine C_new rfl (N_buildSliceT (g := true) sl37.h ty39.h .nil (vs := []) rfl rfl rfl (by simp)) (fun k1 => ?_)
 refine Cv1 (.cons .h .nil) (own_lit (Ro := ow39) (E := 39) (F := []) (xs := ([] : List Fact)) MkL_nil rfl rfl) ?_
 iterate 6 refine au ?_
 refine CW_block (CW_loop (m := a_l.length) (fun m6 f' cs' => ∃ (g : Fr) (k8 : Nat) (rest9 : List Fact) (c2 : List Fact) (v3 : Sv) (F4 : List Nat), m6 = rest9.length ∧ f' = updL g [(0, v0_0.v), (3, v3.v), (4, (.int .i64 (k8 : Int)))] ∧ List.drop k8 a_l = rest9 ∧ Ent cs' [crd (RdS 39 rd39) v0_0.v a_l, cown (OwnS 39 ow39) F4 v3.v c2] ∧ s_l2Copy_L1 rest9 k8 c2 = some R) ⟨_, 0, _, _, ⟨(some ⟨k1, 0, none⟩), 0, 1⟩, (k1 :: []), rfl, eqA, rfl, entA, hF⟩ ?_)
 rintro m6 _ _ ⟨g7, k8, rest9, c2, v3, F4, rfl, rfl, hd11, hE, hF⟩
 refine Kb hE a_l (fun hbd16 => ?_)
 rcases rest9 with _ | ⟨x10, rest9⟩
 · have hk12 := dn hd11
   rw [s_l2Copy_L1] at hF
   iterate 7 refine au ?_
   refine CdF ?_
   iterate 9 refine au ?_
   cases hF
   exact Er (v3, F4)
 obtain ⟨hk12, hx13, hd14⟩ := drop_cons hd11
 rw [s_l2Copy_L1] at hF
 iterate 7 refine au ?_
 refine CdT ?_
 iterate 2 refine au ?_
 refine CW_draw [0, 1, 2, 3, 4, 5, 6, 7, 8, 9, 10, 11, 12, 13, 14] [0, 0, 0, 6, 14, 30, 0, 0, 192, 448, 960, 2046, 4094, 8191, 16383] [11, 13] mixed (by decide +kernel) ?_
 iterate 3 refine du ?_
 refine Di hx13 (fun k17 j18 => ?_)
 refine du ?_
 refine Dl ls39_0 ?_
 iterate 2 refine du ?_
 refine Di hx13 (fun k19 j20 => ?_)
 refine du ?_
 refine D_ldV (R' := (RdS 3 rdInt)) ag22.h rfl .no (.tmp rfl rfl) rfl .h lv39_1 (fun w21 => ?_)
 refine bnd hF fun r22 hx23 hF => Dx1 (s_l2One_ok _ _ _ _ hx23) (fun p24 => ?_)
 refine D_new rfl .no rfl (fun ha => N_buildSliceT (g := true) (len := 1) (parts := [(0, .tmp 23)]) sl37.h ty39.h (.cons (EN ha (.tmp rfl rfl) rfl) .nil) (vs := [(.agg [(.int .i64 r22.Rel), p24.1.v].toArray)]) rfl rfl rfl (by intro v hv; simp at hv; rcases hv with rfl <;> rfl)) (fun k25 => ?_)
 refine Dv1 (.cons .h (.cons .h .nil)) (own_lit (Ro := ow39) (E := 39) (F := (p24.2 ++ [])) (xs := ([r22] : List Fact)) (MkL_cons mk39 MkL_nil apps) rfl rfl) ?_
 refine bnd hF fun z26 hx27 hF => D_act1 rfl rfl .no (.cons (.t (.t (.t (.t (.t .h))))) (.cons .h .nil)) (.dep rfl .nil) (fun ha => X_appendO (Ro := ow39) sl37.h ni37 ty39.h rfl rfl rfl (EN ha (.tmp rfl rfl) rfl) (EN ha (.tmp rfl rfl) rfl) hx27 src_own) (fun p28 => ?_)
 iterate 2 refine du ?_
 iterate 5 refine au ?_
 rw [wk k8]
 exact ⟨_, Nat.lt_succ_self _, _, k8 + 1, rest9, _, p28.1, p28.2, rfl, eqA, hd14, entA, hF⟩
def s_l8Access (a_m : Int) (a_values : List Int) : Option (Access) :=
 (app ([] : List Int) a_values).bind fun z3 =>
 some ({ Method := a_m, Values := z3 } : Access)
theorem s_l8Access_ok (a_m : Int) (a_values : List Int) (v1_0 : Sv) (R : Access) (hF : s_l8Access a_m a_values = some R) :
   Fw.Spec Tryz.prog 34 [(.int .i64 a_m), v1_0.v] [crd (RdS 3 rdInt) v1_0.v a_values] (fun p : Sv × List Nat => (.agg [(.int .i64 R.Method), p.1.v].toArray)) (fun p => [cown (OwnS 3 (roE rdInt)) p.2 p.1.v R.Values]) := by
 refine Se 10 Tryz.func34 [.cell 4 31] ?_
 intro H0 F0
 unfold s_l8Access at hF
 refine au ?_
 refine AnW (fun k1 => ?_)
 iterate 3 refine au ?_
 refine C_new rfl (N_buildSliceT (g := true) sl22.h ty3.h .nil (vs := []) rfl rfl rfl (by simp)) (fun k2 => ?_)
 refine Cv1 (.cons .h .nil) (own_lit (Ro := (roE rdInt)) (E := 3) (F := []) (xs := ([] : List Int)) MkL_nil rfl rfl) ?_
 refine au ?_
 refine bnd hF fun z3 hx4 hF => C_x1 (.cons .h (.rd (.t .h) rfl .nil)) (X_appendO (Ro := (roE rdInt)) sl22.h ni22 ty3.h rfl rfl rfl (.tmp rfl rfl) (.tmp rfl rfl) hx4 src_rd) (fun p5 => ?_)
 refine C_val (V_build ty31.h rfl (vs := [(.int .i64 a_m), p5.1.v]) (.cons (.tmp rfl rfl) (.cons (.tmp rfl rfl) .nil)) (cells := [(.int .i64 a_m), p5.1.v]) rfl) ?_
 refine As (.agg [(.int .i64 a_m), p5.1.v].toArray) ?_
 iterate 2 refine au ?_
 cases hF
 exact Er (p5.1, p5.2)
def s_l8Log_L1 : List Access → Nat → (List Access) → Option ((List Access))
 | [], k8, c2 => some c2
 | x10 :: rest9, k8, c2 => (s_l8Access x10.Method x10.Values).bind fun r22 =>
   (app c2 ([r22] : List Access)).bind fun z26 =>
   s_l8Log_L1 rest9 (k8 + 1) z26
def s_l8Log (a_l : List Access) : Option ((List Access)) :=
 s_l8Log_L1 a_l 0 ([] : List Access)
theorem s_l8Log_ok (a_l : List Access) (v0_0 : Sv) (R : (List Access)) (hF : s_l8Log a_l = some R) :
   Fw.Spec Tryz.prog 95 [v0_0.v] [crd (RdS 31 rd31) v0_0.v a_l] (fun p : Sv × List Nat => p.1.v) (fun p => [cown (OwnS 31 ow31) p.2 p.1.v R]) := by
 refine Se 27 Tryz.func95 [.tmp 2] ?_
 intro H0 F0
 unfold s_l8Log at hF
 iterate 4 refine au ?_
 refine C_new rfl (N_buildSliceT (g := true) sl52.h ty31.h .nil (vs := []) rfl rfl rfl (by simp)) (fun k1 => ?_)
 refine Cv1 (.cons .h .nil) (own_lit (Ro := ow31) (E := 31) (F := []) (xs := ([] : List Access)) MkL_nil rfl rfl) ?_
 iterate 6 refine au ?_
 refine CW_block (CW_loop (m := a_l.length) (fun m6 f' cs' => ∃ (g : Fr) (k8 : Nat) (rest9 : List Access) (c2 : List Access) (v3 : Sv) (F4 : List Nat), m6 = rest9.length ∧ f' = updL g [(0, v0_0.v), (3, v3.v), (4, (.int .i64 (k8 : Int)))] ∧ List.drop k8 a_l = rest9 ∧ Ent cs' [crd (RdS 31 rd31) v0_0.v a_l, cown (OwnS 31 ow31) F4 v3.v c2] ∧ s_l8Log_L1 rest9 k8 c2 = some R) ⟨_, 0, _, _, ⟨(some ⟨k1, 0, none⟩), 0, 1⟩, (k1 :: []), rfl, eqA, rfl, entA, hF⟩ ?_)
 rintro m6 _ _ ⟨g7, k8, rest9, c2, v3, F4, rfl, rfl, hd11, hE, hF⟩
 refine Kb hE a_l (fun hbd16 => ?_)
 rcases rest9 with _ | ⟨x10, rest9⟩
 · have hk12 := dn hd11
   rw [s_l8Log_L1] at hF
   iterate 7 refine au ?_
   refine CdF ?_
   iterate 9 refine au ?_
   cases hF
   exact Er (v3, F4)
 obtain ⟨hk12, hx13, hd14⟩ := drop_cons hd11
 rw [s_l8Log_L1] at hF
 iterate 7 refine au ?_
 refine CdT ?_
 iterate 2 refine au ?_
 refine CW_draw [0, 1, 2, 3, 4, 5, 6, 7, 8, 9, 10, 11, 12, 13, 14] [0, 0, 0, 6, 14, 30, 0, 0, 192, 448, 960, 2046, 4094, 8191, 16383] [11, 13] mixed (by decide +kernel) ?_
 iterate 3 refine du ?_
 refine Di hx13 (fun k17 j18 => ?_)
 refine du ?_
 refine Dl ls31_0 ?_
 iterate 2 refine du ?_
 refine Di hx13 (fun k19 j20 => ?_)
 refine du ?_
 refine D_ldV (R' := (RdS 3 rdInt)) ag22.h rfl .no (.tmp rfl rfl) rfl .h lv31_1 (fun w21 => ?_)
 refine bnd hF fun r22 hx23 hF => Dx1 (s_l8Access_ok _ _ _ _ hx23) (fun p24 => ?_)
 refine D_new rfl .no rfl (fun ha => N_buildSliceT (g := true) (len := 1) (parts := [(0, .tmp 23)]) sl52.h ty31.h (.cons (EN ha (.tmp rfl rfl) rfl) .nil) (vs := [(.agg [(.int .i64 r22.Method), p24.1.v].toArray)]) rfl rfl rfl (by intro v hv; simp at hv; rcases hv with rfl <;> rfl)) (fun k25 => ?_)
 refine Dv1 (.cons .h (.cons .h .nil)) (own_lit (Ro := ow31) (E := 31) (F := (p24.2 ++ [])) (xs := ([r22] : List Access)) (MkL_cons mk31 MkL_nil apps) rfl rfl) ?_
 refine bnd hF fun z26 hx27 hF => D_act1 rfl rfl .no (.cons (.t (.t (.t (.t (.t .h))))) (.cons .h .nil)) (.dep rfl .nil) (fun ha => X_appendO (Ro := ow31) sl52.h ni52 ty31.h rfl rfl rfl (EN ha (.tmp rfl rfl) rfl) (EN ha (.tmp rfl rfl) rfl) hx27 src_own) (fun p28 => ?_)
 iterate 2 refine du ?_
 iterate 5 refine au ?_
 rw [wk k8]
 exact ⟨_, Nat.lt_succ_self _, _, k8 + 1, rest9, _, p28.1, p28.2, rfl, eqA, hd14, entA, hF⟩
def s_l8Copy (a_r : Reached) : Option (Reached) :=
 (s_l2Copy a_r.Facts).bind fun r5 =>
 (app ([] : List Int) a_r.Values).bind fun z8 =>
 (s_l8Log a_r.Log).bind fun r11 =>
 some ({ Facts := r5, Values := z8, Log := r11, Rounds := a_r.Rounds } : Reached)
theorem s_l8Copy_ok (a_r : Reached) (v0_0 : Sv) (v0_1 : Sv) (v0_2 : Sv) (R : Reached) (hF : s_l8Copy a_r = some R) :
   Fw.Spec Tryz.prog 70 [(.agg [v0_0.v, v0_1.v, v0_2.v, (.int .i64 a_r.Rounds)].toArray)] [crd (RdS 39 rd39) v0_0.v a_r.Facts, crd (RdS 3 rdInt) v0_1.v a_r.Values, crd (RdS 31 rd31) v0_2.v a_r.Log] (fun p : Sv × List Nat × Sv × List Nat × Sv × List Nat => (.agg [p.1.v, p.2.2.1.v, p.2.2.2.2.1.v, (.int .i64 R.Rounds)].toArray)) (fun p => [cown (OwnS 39 ow39) p.2.1 p.1.v R.Facts, cown (OwnS 3 (roE rdInt)) p.2.2.2.1 p.2.2.1.v R.Values, cown (OwnS 31 ow31) p.2.2.2.2.2 p.2.2.2.2.1.v R.Log]) := by
 refine Se 19 Tryz.func70 [.cell 2 54] ?_
 intro H0 F0
 unfold s_l8Copy at hF
 refine au ?_
 refine AbR (fun k1 => ?_)
 refine AnW (fun k2 => ?_)
 refine au ?_
 refine K_draw [0, 1, 3, 4, 5, 7, 8, 10, 2, 6, 9, 11] [0, 1, 3, 0, 0, 16, 63, 0, 128, 511, 0, 2047] [2, 6, 11] mixed (by decide +kernel) ?_
 iterate 2 refine du ?_
 refine D_new rfl .no rfl (fun ha => N_buildSliceT (g := true) (len := 0) (parts := []) sl22.h ty3.h .nil (vs := []) rfl rfl rfl (by simp)) (fun k3 => ?_)
 refine Dv1 (.cons .h .nil) (own_lit (Ro := (roE rdInt)) (E := 3) (F := []) (xs := ([] : List Int)) MkL_nil rfl rfl) ?_
 iterate 4 refine du ?_
 refine D_new rfl .no rfl (fun ha => N_allocT (g := true) ty54.h rfl rfl) (fun k4 => ?_)
 refine bnd hF fun r5 hx6 hF => D_act1 rfl rfl .no (.rd (.t (.t (.t (.t .h)))) rfl .nil) (.own .h (fun _ h => h) (.own (.t .h) (by simp [cown]) .nil)) (fun ha => X_callS cf94.h (.cons (EN ha (.tmp rfl rfl) rfl) .nil) (s_l2Copy_ok a_r.Facts v0_0 _ hx6)) (fun p7 => ?_)
 refine bnd hF fun z8 hx9 hF => D_act1 rfl rfl .no (.cons (.t (.t .h)) (.rd (.t (.t (.t (.t (.t .h))))) rfl .nil)) (.own (.t .h) (fun _ h => h) (.dep rfl .nil)) (fun ha => X_appendO (Ro := (roE rdInt)) sl22.h ni22 ty3.h rfl rfl rfl (EN ha (.tmp rfl rfl) rfl) (EN ha (.tmp rfl rfl) rfl) hx9 src_rd) (fun p10 => ?_)
 refine D_val rfl .no (fun ha => V_build ty54.h rfl (vs := [p7.1.v, p10.1.v, (.int .i64 a_r.Rounds)]) (.cons (EN ha (.tmp rfl rfl) rfl) (.cons (EN ha (.tmp rfl rfl) rfl) (.cons (EN ha (.tmp rfl rfl) rfl) .nil))) (cells := [p7.1.v, p10.1.v, (.slice none 0 0), (.int .i64 a_r.Rounds)]) rfl) ?_
 refine D_act1 rfl rfl .no (.cons (.t (.t .h)) .nil) (.dep rfl (.dep rfl .nil)) (fun ha => X_storeB (e' := (.agg [p7.1.v, p10.1.v, (.slice none 0 0), (.int .i64 a_r.Rounds)].toArray)) (v := (.agg [p7.1.v, p10.1.v, (.slice none 0 0), (.int .i64 a_r.Rounds)].toArray)) ty54.h.sz (EN ha (.tmp rfl rfl) rfl) (EN ha (.tmp rfl rfl) rfl) rfl rfl rfl rfl rfl) (fun _ => ?_)
 refine du ?_
 iterate 3 refine au ?_
 refine bnd hF fun r11 hx12 hF => Cx1 (s_l8Log_ok _ _ _ hx12) (fun p13 => ?_)
 refine au ?_
 refine As (.agg [p7.1.v, p10.1.v, p13.1.v, (.int .i64 a_r.Rounds)].toArray) ?_
 iterate 3 refine au ?_
 refine As (.agg [p7.1.v, p10.1.v, p13.1.v, (.int .i64 a_r.Rounds)].toArray) ?_
 iterate 2 refine au ?_
 cases hF
 exact Er (p7.1, p7.2, p10.1, p10.2, p13.1, p13.2)
def s_l8Lists_L5 (c207 : List (List Int)) (c212 : Int) : List Int → Nat → (List (List Int)) → Option ((List (List Int)))
 | [], k229, c223 => some c223
 | x231 :: rest230, k229, c223 => (ix c207 c212).bind fun x239 =>
   (app ([] : List Int) x239).bind fun z249 =>
   (app z249 ([x231] : List Int)).bind fun z252 =>
   (app c223 ([z252] : List (List Int))).bind fun z256 =>
   s_l8Lists_L5 c207 c212 rest230 (k229 + 1) z256
def s_l8Lists_L2 (a_values : List Int) : Nat → (List (List Int)) → (List (List Int)) → Int → Option ((List (List Int)))
 | 0, _, _, _ => none
 | m213 + 1, c207, c209, c212 => if (decide ((c212 : Int) < (c207.length : Int))) then (
     (s_l8Lists_L5 c207 c212 a_values 0 c209).bind fun o221 =>
     match o221 with
     | c260 => s_l8Lists_L2 a_values m213 c207 c260 (IntKind.i64.wrap (c212 + 1)))
   else (
     some c209)
def s_l8Lists_L1 (a_values : List Int) (a_n : Int) : Nat → (List (List Int)) → Int → Option ((List (List Int)))
 | 0, _, _ => none
 | m7 + 1, c3, c6 => if (decide ((c6 : Int) < a_n)) then (
     (s_l8Lists_L2 a_values (((c3.length : Int) - 0).toNat + 2) c3 ([] : List (List Int)) 0).bind fun o15 =>
     match o15 with
     | c265 => s_l8Lists_L1 a_values a_n m7 c265 (IntKind.i64.wrap (c6 + 1)))
   else (
     some c3)
def s_l8Lists (a_values : List Int) (a_n : Int) : Option ((List (List Int))) :=
 s_l8Lists_L1 a_values a_n ((a_n - 0).toNat + 2) ([([] : List Int)] : List (List Int)) 0
theorem s_l8Lists_ok (a_values : List Int) (v0_0 : Sv) (a_n : Int) (R : (List (List Int))) (hF : s_l8Lists a_values a_n = some R) :
   Fw.Spec Tryz.prog 113 [v0_0.v, (.int .i64 a_n)] [crd (RdS 3 rdInt) v0_0.v a_values] (fun p : Sv × List Nat => p.1.v) (fun p => [cown (OwnS 22 (OwnS 3 (roE rdInt))) p.2 p.1.v R]) := by
 refine Se 47 Tryz.func113 [.tmp 4] ?_
 intro H0 F0
 unfold s_l8Lists at hF
 iterate 4 refine au ?_
 refine C_new rfl (N_buildSliceT (g := true) sl22.h ty3.h .nil (vs := []) rfl rfl rfl (by simp)) (fun k1 => ?_)
 refine Cv1 (.cons .h .nil) (own_lit (Ro := (roE rdInt)) (E := 3) (F := []) (xs := ([] : List Int)) MkL_nil rfl rfl) ?_
 refine C_new rfl (N_buildSliceT (g := true) sl115.h ty22.h (.cons (.tmp rfl rfl) .nil) (vs := [(.slice (some ⟨k1, 0, none⟩) 0 1)]) rfl rfl rfl (by intro v hv; simp at hv; rcases hv with rfl <;> rfl)) (fun k2 => ?_)
 refine Cv1 (.cons .h (.cons .h .nil)) (own_lit (Ro := (OwnS 3 (roE rdInt))) (E := 22) (F := ((k1 :: []) ++ [])) (xs := ([([] : List Int)] : List (List Int))) (MkL_cons Mk_own MkL_nil apps) rfl rfl) ?_
 iterate 6 refine au ?_
 refine CW_block (CW_loop (m := ((a_n - 0).toNat + 2)) (fun m7 f' cs' => ∃ (g : Fr) (c3 : List (List Int)) (c6 : Int) (v4 : Sv) (F5 : List Nat), f' = updL g [(0, v0_0.v), (1, (.int .i64 a_n)), (5, v4.v), (6, (.int .i64 c6))] ∧ Ent cs' [crd (RdS 3 rdInt) v0_0.v a_values, cown (OwnS 22 (OwnS 3 (roE rdInt))) F5 v4.v c3] ∧ s_l8Lists_L1 a_values a_n m7 c3 c6 = some R) ⟨_, _, _, ⟨(some ⟨k2, 0, none⟩), 1, 1⟩, (k2 :: ((k1 :: []) ++ [])), eqA, entA, hF⟩ ?_)
 rintro m7 _ _ ⟨g8, c3, c6, v4, F5, rfl, hE, hF⟩
 refine K_ent hE ?_
 rcases m7 with _ | m7
 · rw [s_l8Lists_L1] at hF
   exact absurd hF (by simp)
 rw [s_l8Lists_L1] at hF
 iterate 6 refine au ?_
 refine Ci hF (fun hb269 hF => ?_) (fun hb269 hF => ?_)
 · refine au ?_
   obtain ⟨o15, hio15, hO16⟩ := bind_some hF
   refine K_cut (fun f' cs' => ∃ (c265 : List (List Int)) (v266 : Sv) (F267 : List Nat) (g : Fr), c265 = o15 ∧ f' = updL g [(0, v0_0.v), (1, (.int .i64 a_n)), (5, v266.v), (6, (.int .i64 c6))] ∧ Ent cs' [crd (RdS 3 rdInt) v0_0.v a_values, cown (OwnS 22 (OwnS 3 (roE rdInt))) F267 v266.v c265]) ?_ ?_
   · replace hF := hio15
     refine CW_block (K_region (C_new rfl (N_buildSliceT (g := true) sl115.h ty22.h .nil (vs := []) rfl rfl rfl (by simp)) (fun k17 => ?_)))
     refine Cv1 (.cons .h .nil) (own_lit (Ro := (OwnS 3 (roE rdInt))) (E := 22) (F := []) (xs := ([] : List (List Int))) MkL_nil rfl rfl) ?_
     iterate 6 refine au ?_
     refine CW_block (CW_loop (m := (((c3.length : Int) - 0).toNat + 2)) (fun m213 f' cs' => ∃ (g : Fr) (c207 : List (List Int)) (c209 : List (List Int)) (c212 : Int) (v208 : Sv) (v210 : Sv) (F211 : List Nat), f' = updL g [(0, v0_0.v), (1, (.int .i64 a_n)), (5, v208.v), (6, (.int .i64 c6)), (7, v210.v), (8, (.int .i64 c212))] ∧ Ent cs' [crd (RdS 3 rdInt) v0_0.v a_values, crd (RdS 22 (RdS 3 rdInt)) v208.v c207, cown (OwnS 22 (OwnS 3 (roE rdInt))) F211 v210.v c209] ∧ s_l8Lists_L2 a_values m213 c207 c209 c212 = some o15) ⟨_, _, _, _, v4, ⟨(some ⟨k17, 0, none⟩), 0, 1⟩, (k17 :: []), eqA, (.frz (.t (.t .h)) frz_own entA), hF⟩ ?_)
     rintro m213 _ _ ⟨g214, c207, c209, c212, v208, v210, F211, rfl, hE, hF⟩
     refine K_ent hE ?_
     rcases m213 with _ | m213
     · rw [s_l8Lists_L2] at hF
       exact absurd hF (by simp)
     rw [s_l8Lists_L2] at hF
     iterate 7 refine au ?_
     refine Ci hF (fun hb264 hF => ?_) (fun hb264 hF => ?_)
     · refine au ?_
       obtain ⟨o221, hio221, hO222⟩ := bind_some hF
       refine K_cut (fun f' cs' => ∃ (c260 : List (List Int)) (v261 : Sv) (F262 : List Nat) (g : Fr), c260 = o221 ∧ f' = updL g [(0, v0_0.v), (1, (.int .i64 a_n)), (5, v208.v), (6, (.int .i64 c6)), (7, v261.v), (8, (.int .i64 c212))] ∧ Ent cs' [crd (RdS 3 rdInt) v0_0.v a_values, crd (RdS 22 (RdS 3 rdInt)) v208.v c207, cown (OwnS 22 (OwnS 3 (roE rdInt))) F262 v261.v c260]) ?_ ?_
       · replace hF := hio221
         refine CW_block (K_region (C_val (V_assign (v := (.int .i64 0)) (.int _ _)) ?_))
         refine au ?_
         refine CW_block (CW_loop (m := a_values.length) (fun m227 f' cs' => ∃ (g : Fr) (k229 : Nat) (rest230 : List Int) (c223 : List (List Int)) (v224 : Sv) (F225 : List Nat), m227 = rest230.length ∧ f' = updL g [(0, v0_0.v), (1, (.int .i64 a_n)), (5, v208.v), (6, (.int .i64 c6)), (7, v224.v), (8, (.int .i64 c212)), (9, (.int .i64 (k229 : Int)))] ∧ List.drop k229 a_values = rest230 ∧ Ent cs' [crd (RdS 3 rdInt) v0_0.v a_values, crd (RdS 22 (RdS 3 rdInt)) v208.v c207, cown (OwnS 22 (OwnS 3 (roE rdInt))) F225 v224.v c223] ∧ s_l8Lists_L5 c207 c212 rest230 k229 c223 = some o221) ⟨_, 0, _, _, v210, F211, rfl, eqA, rfl, entA, hF⟩ ?_)
         rintro m227 _ _ ⟨g228, k229, rest230, c223, v224, F225, rfl, rfl, hd232, hE, hF⟩
         refine Kb hE a_values (fun hbd237 => ?_)
         rcases rest230 with _ | ⟨x231, rest230⟩
         · have hk233 := dn hd232
           rw [s_l8Lists_L5] at hF
           iterate 7 refine au ?_
           refine CdF ?_
           iterate 4 refine au ?_
           cases hF
           exact ⟨_, v224, F225, _, rfl, eqA, entA⟩
         obtain ⟨hk233, hx234, hd235⟩ := drop_cons hd232
         rw [s_l8Lists_L5] at hF
         iterate 7 refine au ?_
         refine CdT ?_
         iterate 2 refine au ?_
         refine CW_draw [0, 1, 2, 3, 4, 5, 7, 8, 9, 10, 11, 6, 12, 13, 14, 15] [0, 0, 0, 0, 12, 28, 62, 0, 0, 384, 896, 1920, 4094, 8190, 16383, 32767] [6, 12, 14] mixed (by decide +kernel) ?_
         refine du ?_
         refine D_new rfl .no rfl (fun ha => N_buildSliceT (g := true) (len := 0) (parts := []) sl22.h ty3.h .nil (vs := []) rfl rfl rfl (by simp)) (fun k238 => ?_)
         refine Dv1 (.cons .h .nil) (own_lit (Ro := (roE rdInt)) (E := 3) (F := []) (xs := ([] : List Int)) MkL_nil rfl rfl) ?_
         iterate 2 refine du ?_
         refine bnd hF fun x239 hx240 hF => ?_
         obtain ⟨hp241, hx242⟩ := ix_some hx240
         refine Di hx242 (fun k243 j244 => ?_)
         refine D_ldV (R' := (RdS 3 rdInt)) ag22.h rfl .no (.tmp rfl rfl) rfl .h lv22_0 (fun w245 => ?_)
         iterate 2 refine du ?_
         refine Di hx234 (fun k246 j247 => ?_)
         refine Dl ls3_0 ?_
         refine D_new rfl .no rfl (fun ha => N_buildSliceT (g := true) (len := 1) (parts := [(0, .tmp 40)]) sl22.h ty3.h (.cons (EN ha (.tmp rfl rfl) rfl) .nil) (vs := [(.int .i64 x231)]) rfl rfl rfl (by intro v hv; simp at hv; rcases hv with rfl <;> rfl)) (fun k248 => ?_)
         refine Dv1 (.cons .h .nil) (own_lit (Ro := (roE rdInt)) (E := 3) (F := ([] ++ [])) (xs := ([x231] : List Int)) (MkL_cons (Mk_pure (fun _ => rfl)) MkL_nil apps) rfl rfl) ?_
         refine bnd hF fun z249 hx250 hF => D_act1 rfl rfl .no (.cons (.t (.t (.t (.t .h)))) (.rd (.t (.t .h)) rfl .nil)) (.own .h (by simp [cown]) (.dep rfl .nil)) (fun ha => X_appendO (Ro := (roE rdInt)) sl22.h ni22 ty3.h rfl rfl rfl (EN ha (.tmp rfl rfl) rfl) (EN ha (.tmp rfl rfl) rfl) hx250 src_rd) (fun p251 => ?_)
         refine bnd hF fun z252 hx253 hF => D_act1 rfl rfl .no (.cons .h (.cons .h .nil)) (.dep rfl (.dep rfl .nil)) (fun ha => X_appendO (Ro := (roE rdInt)) sl22.h ni22 ty3.h rfl rfl rfl (EN ha (.tmp rfl rfl) rfl) (EN ha (.tmp rfl rfl) rfl) hx253 src_own) (fun p254 => ?_)
         refine D_new rfl .no rfl (fun ha => N_buildSliceT (g := true) (len := 1) (parts := [(0, .tmp 42)]) sl115.h ty22.h (.cons (EN ha (.tmp rfl rfl) rfl) .nil) (vs := [p254.1.v]) rfl rfl rfl (by intro v hv; simp at hv; rcases hv with rfl <;> rfl)) (fun k255 => ?_)
         refine Dv1 (.cons .h (.cons .h .nil)) (own_lit (Ro := (OwnS 3 (roE rdInt))) (E := 22) (F := (p254.2 ++ [])) (xs := ([z252] : List (List Int))) (MkL_cons Mk_own MkL_nil apps) rfl rfl) ?_
         refine bnd hF fun z256 hx257 hF => D_act1 rfl rfl .no (.cons (.t (.t (.t (.t (.t (.t .h)))))) (.cons .h .nil)) (.dep rfl (.dep rfl (.dep rfl .nil))) (fun ha => X_appendO (Ro := (OwnS 3 (roE rdInt))) sl115.h ni115 ty22.h rfl rfl rfl (EN ha (.tmp rfl rfl) rfl) (EN ha (.tmp rfl rfl) rfl) hx257 src_own) (fun p258 => ?_)
         iterate 2 refine du ?_
         iterate 5 refine au ?_
         rw [wk k229]
         exact ⟨_, Nat.lt_succ_self _, _, k229 + 1, rest230, _, p258.1, p258.2, rfl, eqA, hd235, entA, hF⟩
       rintro _ _ ⟨c260, v261, F262, g263, rfl, rfl, hE⟩
       replace hF := hO222
       try dsimp only at hF
       refine K_ent hE ?_
       iterate 5 refine au ?_
       exact ⟨m213, Nat.lt_succ_self _, _, _, _, _, v208, v261, F262, eqA, entA, hF⟩
     iterate 8 refine au ?_
     cases hF
     exact ⟨_, v210, F211, _, rfl, eqA, entA⟩
   rintro _ _ ⟨c265, v266, F267, g268, rfl, rfl, hE⟩
   replace hF := hO16
   try dsimp only at hF
   refine K_ent hE ?_
   iterate 5 refine au ?_
   exact ⟨m7, Nat.lt_succ_self _, _, _, _, v266, F267, eqA, entA, hF⟩
 iterate 9 refine au ?_
 cases hF
 exact Er (v4, F5)
def s_l2Ints_L1 (a_b : List Int) : List Int → Nat → Option (Bool)
 | [], k4 => some true
 | x6 :: rest5, k4 => (ix a_b (k4 : Int)).bind fun x15 =>
   if ((x6 : Int) != x15) then (
     some false)
   else (
     s_l2Ints_L1 a_b rest5 (k4 + 1))
def s_l2Ints (a_a : List Int) (a_b : List Int) : Option (Bool) :=
 if (((a_a.length : Int) : Int) != (a_b.length : Int)) then (
   some false)
 else (
   s_l2Ints_L1 a_b a_a 0)
theorem s_l2Ints_ok (a_a : List Int) (v0_0 : Sv) (a_b : List Int) (v1_0 : Sv) (R : Bool) (hF : s_l2Ints a_a a_b = some R) :
   Fw.Spec Tryz.prog 138 [v0_0.v, v1_0.v] [crd (RdS 3 rdInt) v0_0.v a_a, crd (RdS 3 rdInt) v1_0.v a_b] (fun _ : Unit => (.bool R)) (fun _ => []) := by
 refine Se 26 Tryz.func138 [.tmp 4] ?_
 intro H0 F0
 unfold s_l2Ints at hF
 iterate 11 refine au ?_
 refine Ci hF (fun hb23 hF => ?_) (fun hb23 hF => ?_)
 · iterate 4 refine au ?_
   cases hF
   exact Er ()
 iterate 5 refine au ?_
 refine CW_block (CW_loop (m := a_a.length) (fun m2 f' cs' => ∃ (g : Fr) (k4 : Nat) (rest5 : List Int), m2 = rest5.length ∧ f' = updL g [(0, v0_0.v), (1, v1_0.v), (5, (.int .i64 (k4 : Int)))] ∧ List.drop k4 a_a = rest5 ∧ Ent cs' [crd (RdS 3 rdInt) v0_0.v a_a, crd (RdS 3 rdInt) v1_0.v a_b] ∧ s_l2Ints_L1 a_b rest5 k4 = some R) ⟨_, 0, _, rfl, eqA, rfl, entA, hF⟩ ?_)
 rintro m2 _ _ ⟨g3, k4, rest5, rfl, rfl, hd7, hE, hF⟩
 refine Kb hE a_a (fun hbd12 => ?_)
 rcases rest5 with _ | ⟨x6, rest5⟩
 · have hk8 := dn hd7
   rw [s_l2Ints_L1] at hF
   iterate 7 refine au ?_
   refine CdF ?_
   iterate 8 refine au ?_
   cases hF
   exact Er ()
 obtain ⟨hk8, hx9, hd10⟩ := drop_cons hd7
 rw [s_l2Ints_L1] at hF
 iterate 7 refine au ?_
 refine CdT ?_
 iterate 2 refine au ?_
 refine K_draw [0, 1, 2, 3, 4, 5, 6, 7, 8] [0, 0, 3, 7, 0, 0, 48, 112, 255] [] mixed (by decide +kernel) ?_
 iterate 2 refine du ?_
 refine Di hx9 (fun k13 j14 => ?_)
 refine Dl ls3_0 ?_
 iterate 2 refine du ?_
 refine bnd hF fun x15 hx16 hF => ?_
 obtain ⟨hp17, hx18⟩ := ix_some hx16
 refine Di hx18 (fun k19 j20 => ?_)
 refine Dl ls3_0 ?_
 iterate 2 refine du ?_
 refine Ci hF (fun hb22 hF => ?_) (fun hb22 hF => ?_)
 · iterate 4 refine au ?_
   cases hF
   exact Er ()
 iterate 6 refine au ?_
 rw [wk k4]
 exact ⟨_, Nat.lt_succ_self _, _, k4 + 1, rest5, rfl, eqA, hd10, entA, hF⟩
def s_l5Same (a_a : Access) (a_b : Access) : Option (Bool) :=
 (bif ((a_a.Method : Int) == a_b.Method) then ((s_l2Ints a_a.Values a_b.Values).bind fun r6 =>
     some r6)
   else (some false)).bind fun o3 =>
 match o3 with
 | c9 => some c9
theorem s_l5Same_ok (a_a : Access) (v0_1 : Sv) (a_b : Access) (v1_1 : Sv) (R : Bool) (hF : s_l5Same a_a a_b = some R) :
   Fw.Spec Tryz.prog 123 [(.agg [(.int .i64 a_a.Method), v0_1.v].toArray), (.agg [(.int .i64 a_b.Method), v1_1.v].toArray)] [crd (RdS 3 rdInt) v0_1.v a_a.Values, crd (RdS 3 rdInt) v1_1.v a_b.Values] (fun _ : Unit => (.bool R)) (fun _ => []) := by
 refine Se 17 Tryz.func123 [.tmp 4] ?_
 intro H0 F0
 unfold s_l5Same at hF
 refine au ?_
 refine AbR (fun k1 => ?_)
 refine AbR (fun k2 => ?_)
 iterate 2 refine au ?_
 obtain ⟨o3, hio3, hO4⟩ := bind_some hF
 refine au ?_
 refine C_cut (fun f' cs' => ∃ (c9 : Bool) (g : Fr), c9 = o3 ∧ f' = updL g [(4, (.bool c9))] ∧ Ent cs' []) ?_ ?_
 · replace hF := hio3
   iterate 6 refine au ?_
   rcases Bool.eq_false_or_eq_true ((a_a.Method : Int) == a_b.Method) with hg5 | hg5
   · rw [hg5]
     try rw [hg5] at hF; dsimp only [cond_true, cond_false] at hF
     iterate 9 refine au ?_
     refine bnd hF fun r6 hx7 hF => Cx0 (s_l2Ints_ok _ _ _ _ _ hx7) (fun _ => ?_)
     iterate 3 refine au ?_
     cases hF
     exact ⟨_, _, rfl, eqA, entA⟩
   rw [hg5]
   try rw [hg5] at hF; dsimp only [cond_true, cond_false] at hF
   iterate 8 refine au ?_
   cases hF
   exact ⟨_, _, rfl, eqA, entA⟩
 rintro _ _ ⟨c9, g10, rfl, rfl, hE⟩
 replace hF := hO4
 try dsimp only at hF
 refine K_ent hE ?_
 refine au ?_
 cases hF
 exact Er ()
def s_l7Logged_L1 (a_a : Access) : List Access → Nat → Option (Bool)
 | [], k5 => some false
 | x7 :: rest6, k5 => (s_l5Same x7 a_a).bind fun r17 =>
   if r17 then (
     some true)
   else (
     s_l7Logged_L1 a_a rest6 (k5 + 1))
def s_l7Logged (a_log : List Access) (a_a : Access) : Option (Bool) :=
 s_l7Logged_L1 a_a a_log 0
theorem s_l7Logged_ok (a_log : List Access) (v0_0 : Sv) (a_a : Access) (v1_1 : Sv) (R : Bool) (hF : s_l7Logged a_log a_a = some R) :
   Fw.Spec Tryz.prog 114 [v0_0.v, (.agg [(.int .i64 a_a.Method), v1_1.v].toArray)] [crd (RdS 31 rd31) v0_0.v a_log, crd (RdS 3 rdInt) v1_1.v a_a.Values] (fun _ : Unit => (.bool R)) (fun _ => []) := by
 refine Se 18 Tryz.func114 [.tmp 4] ?_
 intro H0 F0
 unfold s_l7Logged at hF
 refine au ?_
 refine AbR (fun k1 => ?_)
 iterate 6 refine au ?_
 refine CW_block (CW_loop (m := a_log.length) (fun m3 f' cs' => ∃ (g : Fr) (k5 : Nat) (rest6 : List Access), m3 = rest6.length ∧ f' = updL g [(0, v0_0.v), (3, (pz k1)), (5, (.int .i64 (k5 : Int)))] ∧ List.drop k5 a_log = rest6 ∧ Ent cs' [crd (RdS 31 rd31) v0_0.v a_log, cboR k1 31 (.agg [(.int .i64 a_a.Method), v1_1.v].toArray), crd (RdS 3 rdInt) v1_1.v a_a.Values] ∧ s_l7Logged_L1 a_a rest6 k5 = some R) ⟨_, 0, _, rfl, eqA, rfl, entA, hF⟩ ?_)
 rintro m3 _ _ ⟨g4, k5, rest6, rfl, rfl, hd8, hE, hF⟩
 refine Kb hE a_log (fun hbd13 => ?_)
 rcases rest6 with _ | ⟨x7, rest6⟩
 · have hk9 := dn hd8
   rw [s_l7Logged_L1] at hF
   iterate 7 refine au ?_
   refine CdF ?_
   iterate 8 refine au ?_
   cases hF
   exact Er ()
 obtain ⟨hk9, hx10, hd11⟩ := drop_cons hd8
 rw [s_l7Logged_L1] at hF
 iterate 7 refine au ?_
 refine CdT ?_
 iterate 2 refine au ?_
 refine K_draw [0, 1, 2, 3, 4, 5] [0, 0, 3, 7, 0, 31] [5] mixed (by decide +kernel) ?_
 iterate 2 refine du ?_
 refine Di hx10 (fun k14 j15 => ?_)
 refine DlA1 (ul31_0_31 x7) la31_0_31 (fun p16 => ?_)
 refine du ?_
 refine bnd hF fun r17 hx18 hF => Dx0 (s_l5Same_ok _ _ _ _ _ hx18) (fun _ => ?_)
 refine du ?_
 refine Ci hF (fun hb21 hF => ?_) (fun hb21 hF => ?_)
 · iterate 4 refine au ?_
   cases hF
   exact Er ()
 iterate 6 refine au ?_
 rw [wk k5]
 exact ⟨_, Nat.lt_succ_self _, _, k5 + 1, rest6, rfl, eqA, hd11, entA, hF⟩
def s_l8Open_L2 (a_r : Reached) (k9 : Nat) : List (List Int) → Nat → (List Access) → Option ((List Access))
 | [], k70, c64 => some c64
 | x72 :: rest71, k70, c64 => ((s_l8Access (k9 : Int) x72).bind fun r84 =>
     (s_l7Logged a_r.Log r84).bind fun r88 =>
     if (!r88) then (
       (app c64 ([r84] : List Access)).bind fun z92 =>
       some z92)
     else (
       some c64)).bind fun o79 =>
   match o79 with
   | c96 => s_l8Open_L2 a_r k9 rest71 (k70 + 1) c96
def s_l8Open_L1 (a_r : Reached) : List Method → Nat → (List Access) → Option ((List Access))
 | [], k9, c3 => some c3
 | x11 :: rest10, k9, c3 => (if ((x11.Limit : Int) != 0) then (
       some c3)
     else (
       (s_l8Lists a_r.Values (x11.Inputs.length : Int)).bind fun r25 =>
       s_l8Open_L2 a_r k9 r25 0 c3)).bind fun o18 =>
   match o18 with
   | c102 => s_l8Open_L1 a_r rest10 (k9 + 1) c102
def s_l8Open (a_l : List Method) (a_r : Reached) : Option ((List Access)) :=
 s_l8Open_L1 a_r a_l 0 ([] : List Access)
theorem s_l8Open_ok (a_l : List Method) (v0_0 : Sv) (a_r : Reached) (v1_0 : Sv) (v1_1 : Sv) (v1_2 : Sv) (R : (List Access)) (hF : s_l8Open a_l a_r = some R) :
   Fw.Spec Tryz.prog 96 [v0_0.v, (.agg [v1_0.v, v1_1.v, v1_2.v, (.int .i64 a_r.Rounds)].toArray)] [crd (RdS 65 rd65) v0_0.v a_l, crd (RdS 39 rd39) v1_0.v a_r.Facts, crd (RdS 3 rdInt) v1_1.v a_r.Values, crd (RdS 31 rd31) v1_2.v a_r.Log] (fun p : Sv × List Nat => p.1.v) (fun p => [cown (OwnS 31 ow31) p.2 p.1.v R]) := by
 refine Se 54 Tryz.func96 [.tmp 4] ?_
 intro H0 F0
 unfold s_l8Open at hF
 refine au ?_
 refine AbR (fun k1 => ?_)
 iterate 3 refine au ?_
 refine C_new rfl (N_buildSliceT (g := true) sl52.h ty31.h .nil (vs := []) rfl rfl rfl (by simp)) (fun k2 => ?_)
 refine Cv1 (.cons .h .nil) (own_lit (Ro := ow31) (E := 31) (F := []) (xs := ([] : List Access)) MkL_nil rfl rfl) ?_
 iterate 6 refine au ?_
 refine CW_block (CW_loop (m := a_l.length) (fun m7 f' cs' => ∃ (g : Fr) (k9 : Nat) (rest10 : List Method) (c3 : List Access) (v4 : Sv) (F5 : List Nat), m7 = rest10.length ∧ f' = updL g [(0, v0_0.v), (3, (pz k1)), (5, v4.v), (6, (.int .i64 (k9 : Int)))] ∧ List.drop k9 a_l = rest10 ∧ Ent cs' [crd (RdS 65 rd65) v0_0.v a_l, cboR k1 54 (.agg [v1_0.v, v1_1.v, v1_2.v, (.int .i64 a_r.Rounds)].toArray), crd (RdS 39 rd39) v1_0.v a_r.Facts, crd (RdS 3 rdInt) v1_1.v a_r.Values, crd (RdS 31 rd31) v1_2.v a_r.Log, cown (OwnS 31 ow31) F5 v4.v c3] ∧ s_l8Open_L1 a_r rest10 k9 c3 = some R) ⟨_, 0, _, _, ⟨(some ⟨k2, 0, none⟩), 0, 1⟩, (k2 :: []), rfl, eqA, rfl, entA, hF⟩ ?_)
 rintro m7 _ _ ⟨g8, k9, rest10, c3, v4, F5, rfl, rfl, hd12, hE, hF⟩
 refine Kb hE a_l (fun hbd17 => ?_)
 rcases rest10 with _ | ⟨x11, rest10⟩
 · have hk13 := dn hd12
   rw [s_l8Open_L1] at hF
   iterate 7 refine au ?_
   refine CdF ?_
   iterate 9 refine au ?_
   cases hF
   exact Er (v4, F5)
 obtain ⟨hk13, hx14, hd15⟩ := drop_cons hd12
 rw [s_l8Open_L1] at hF
 iterate 7 refine au ?_
 refine CdT ?_
 refine au ?_
 obtain ⟨o18, hio18, hO19⟩ := bind_some hF
 refine K_cut (fun f' cs' => ∃ (c102 : List Access) (v103 : Sv) (F104 : List Nat) (g : Fr), c102 = o18 ∧ f' = updL g [(0, v0_0.v), (3, (pz k1)), (5, v103.v), (6, (.int .i64 (k9 : Int)))] ∧ Ent cs' [crd (RdS 65 rd65) v0_0.v a_l, cboR k1 54 (.agg [v1_0.v, v1_1.v, v1_2.v, (.int .i64 a_r.Rounds)].toArray), crd (RdS 39 rd39) v1_0.v a_r.Facts, crd (RdS 3 rdInt) v1_1.v a_r.Values, crd (RdS 31 rd31) v1_2.v a_r.Log, cown (OwnS 31 ow31) F104 v103.v c102]) ?_ ?_
 · replace hF := hio18
   refine CW_block (K_in (K_region (Cm v0_0.v rfl rfl ?_)))
   refine au ?_
   refine Ai hx14 (fun k20 j21 => ?_)
   refine au ?_
   refine Al ls65_2 ?_
   iterate 2 refine au ?_
   refine Ci hF (fun hb101 hF => ?_) (fun hb101 hF => ?_)
   · iterate 3 refine au ?_
     cases hF
     exact ⟨_, v4, F5, _, rfl, eqA, entA⟩
   refine au ?_
   refine K_draw [0, 1, 2, 3, 4, 5, 6, 7, 8, 9] [0, 1, 0, 0, 12, 28, 60, 124, 255, 511] [8] mixed (by decide +kernel) ?_
   iterate 4 refine du ?_
   refine Di hx14 (fun k22 j23 => ?_)
   refine du ?_
   refine D_ldV (R' := (RdS 3 rdInt)) ag22.h rfl .no (.tmp rfl rfl) rfl .h lv65_1 (fun w24 => ?_)
   refine du ?_
   refine bnd hF fun r25 hx26 hF => Dx1 (s_l8Lists_ok _ _ _ _ hx26) (fun p27 => ?_)
   iterate 2 refine du ?_
   iterate 3 refine au ?_
   refine CW_block (K_frz .h frz_own ?_)
   refine CW_loop (m := r25.length) (fun m68 f' cs' => ∃ (g : Fr) (k70 : Nat) (rest71 : List (List Int)) (c64 : List Access) (v65 : Sv) (F66 : List Nat), m68 = rest71.length ∧ f' = updL g [(0, v0_0.v), (3, (pz k1)), (5, v65.v), (6, (.int .i64 (k9 : Int))), (7, p27.1.v), (8, (.int .i64 (k70 : Int)))] ∧ List.drop k70 r25 = rest71 ∧ Ent cs' [crd (RdS 65 rd65) v0_0.v a_l, cboR k1 54 (.agg [v1_0.v, v1_1.v, v1_2.v, (.int .i64 a_r.Rounds)].toArray), crd (RdS 39 rd39) v1_0.v a_r.Facts, crd (RdS 3 rdInt) v1_1.v a_r.Values, crd (RdS 31 rd31) v1_2.v a_r.Log, cown (OwnS 31 ow31) F66 v65.v c64, crd (RdS 22 (RdS 3 rdInt)) p27.1.v r25] ∧ s_l8Open_L2 a_r k9 rest71 k70 c64 = some o18) ⟨_, 0, _, _, v4, F5, rfl, eqA, rfl, entA, hF⟩ ?_
   rintro m68 _ _ ⟨g69, k70, rest71, c64, v65, F66, rfl, rfl, hd73, hE, hF⟩
   refine Kb hE r25 (fun hbd78 => ?_)
   rcases rest71 with _ | ⟨x72, rest71⟩
   · have hk74 := dn hd73
     rw [s_l8Open_L2] at hF
     iterate 7 refine au ?_
     refine CdF ?_
     iterate 4 refine au ?_
     cases hF
     exact ⟨_, v65, F66, _, rfl, eqA, entA⟩
   obtain ⟨hk74, hx75, hd76⟩ := drop_cons hd73
   rw [s_l8Open_L2] at hF
   iterate 7 refine au ?_
   refine CdT ?_
   refine au ?_
   obtain ⟨o79, hio79, hO80⟩ := bind_some hF
   refine K_cut (fun f' cs' => ∃ (c96 : List Access) (v97 : Sv) (F98 : List Nat) (g : Fr), c96 = o79 ∧ f' = updL g [(0, v0_0.v), (3, (pz k1)), (5, v97.v), (6, (.int .i64 (k9 : Int))), (7, p27.1.v), (8, (.int .i64 (k70 : Int)))] ∧ Ent cs' [crd (RdS 65 rd65) v0_0.v a_l, cboR k1 54 (.agg [v1_0.v, v1_1.v, v1_2.v, (.int .i64 a_r.Rounds)].toArray), crd (RdS 39 rd39) v1_0.v a_r.Facts, crd (RdS 3 rdInt) v1_1.v a_r.Values, crd (RdS 31 rd31) v1_2.v a_r.Log, cown (OwnS 31 ow31) F98 v97.v c96, crd (RdS 22 (RdS 3 rdInt)) p27.1.v r25]) ?_ ?_
   · replace hF := hio79
     refine CW_block (K_region (Cm (.int .i64 (k9 : Int)) rfl rfl ?_))
     iterate 2 refine au ?_
     refine Ai hx75 (fun k81 j82 => ?_)
     refine C_ldV (R' := (RdS 3 rdInt)) ag22.h (.tmp rfl rfl) .h lv22_0 (fun w83 => ?_)
     refine bnd hF fun r84 hx85 hF => Cx1 (s_l8Access_ok _ _ _ _ hx85) (fun p86 => ?_)
     refine AnW (fun k87 => ?_)
     refine As (.agg [(.int .i64 r84.Method), p86.1.v].toArray) ?_
     iterate 5 refine au ?_
     refine bnd hF fun r88 hx89 hF => C_x1 (.cons (.t .h) (.rd (.t (.t (.t (.t (.t (.t (.t .h))))))) rfl .nil)) (XC_bor frz_own (fun _ => .nil) (XC_pre (.rd (.t .h) rfl (.rd .h rfl .nil)) (X_callS cf114.h (.cons (.tmp rfl rfl) (.cons (.tmp rfl rfl) .nil)) (s_l7Logged_ok a_r.Log v1_2 r84 p86.1 _ hx89)))) (fun _ => ?_)
     iterate 2 refine au ?_
     refine Ci hF (fun hb95 hF => ?_) (fun hb95 hF => ?_)
     · iterate 3 refine au ?_
       refine C_new rfl (N_buildSliceT (g := true) sl52.h ty31.h (.cons (.tmp rfl rfl) .nil) (vs := [(.agg [(.int .i64 r84.Method), p86.1.v].toArray)]) rfl rfl rfl (by intro v hv; simp at hv; rcases hv with rfl <;> rfl)) (fun k91 => ?_)
       refine Cv1 (.cons .h (.cons .h .nil)) (own_lit (Ro := ow31) (E := 31) (F := (p86.2 ++ [])) (xs := ([r84] : List Access)) (MkL_cons mk31 MkL_nil apps) rfl rfl) ?_
       refine bnd hF fun z92 hx93 hF => C_x1 (.cons (.t (.t (.t (.t (.t (.t (.t (.t (.t .h))))))))) (.cons .h .nil)) (X_appendO (Ro := ow31) sl52.h ni52 ty31.h rfl rfl rfl (.tmp rfl rfl) (.tmp rfl rfl) hx93 src_own) (fun p94 => ?_)
       iterate 2 refine au ?_
       cases hF
       exact ⟨_, p94.1, p94.2, _, rfl, eqA, entA⟩
     refine au ?_
     cases hF
     exact ⟨_, v65, F66, _, rfl, eqA, entA⟩
   rintro _ _ ⟨c96, v97, F98, g100, rfl, rfl, hE⟩
   replace hF := hO80
   try dsimp only at hF
   refine K_ent hE ?_
   iterate 5 refine au ?_
   rw [wk k70]
   exact ⟨_, Nat.lt_succ_self _, _, k70 + 1, rest71, _, v97, F98, rfl, eqA, hd76, entA, hF⟩
 rintro _ _ ⟨c102, v103, F104, g106, rfl, rfl, hE⟩
 replace hF := hO19
 try dsimp only at hF
 refine K_ent hE ?_
 iterate 5 refine au ?_
 rw [wk k9]
 exact ⟨_, Nat.lt_succ_self _, _, k9 + 1, rest10, _, v103, F104, rfl, eqA, hd15, entA, hF⟩
def s_l5Fits_L1 (a_values : List Int) (a_f : Fact) : List Int → Nat → Option (Bool)
 | [], k6 => some true
 | x8 :: rest7, k6 => (ix a_f.Values x8).bind fun x17 =>
   (ix a_values (k6 : Int)).bind fun x23 =>
   if ((x17 : Int) != x23) then (
     some false)
   else (
     s_l5Fits_L1 a_values a_f rest7 (k6 + 1))
def s_l5Fits (a_m : Method) (a_values : List Int) (a_f : Fact) : Option (Bool) :=
 if ((a_f.Rel : Int) != a_m.Rel) then (
   some false)
 else (
   s_l5Fits_L1 a_values a_f a_m.Inputs 0)
theorem s_l5Fits_ok (a_m : Method) (v0_1 : Sv) (a_values : List Int) (v1_0 : Sv) (a_f : Fact) (v2_1 : Sv) (R : Bool) (hF : s_l5Fits a_m a_values a_f = some R) :
   Fw.Spec Tryz.prog 75 [(.agg [(.int .i64 a_m.Rel), v0_1.v, (.int .i64 a_m.Limit), (.int .i64 a_m.Cost), (.int .i64 a_m.Quota)].toArray), v1_0.v, (.agg [(.int .i64 a_f.Rel), v2_1.v].toArray)] [crd (RdS 3 rdInt) v0_1.v a_m.Inputs, crd (RdS 3 rdInt) v1_0.v a_values, crd (RdS 3 rdInt) v2_1.v a_f.Values] (fun _ : Unit => (.bool R)) (fun _ => []) := by
 refine Se 34 Tryz.func75 [.tmp 6] ?_
 intro H0 F0
 unfold s_l5Fits at hF
 refine au ?_
 refine AbR (fun k1 => ?_)
 refine AbR (fun k2 => ?_)
 iterate 10 refine au ?_
 refine Ci hF (fun hb31 hF => ?_) (fun hb31 hF => ?_)
 · iterate 4 refine au ?_
   cases hF
   exact Er ()
 iterate 5 refine au ?_
 refine CW_block (CW_loop (m := a_m.Inputs.length) (fun m4 f' cs' => ∃ (g : Fr) (k6 : Nat) (rest7 : List Int), m4 = rest7.length ∧ f' = updL g [(1, v1_0.v), (3, (pz k1)), (5, (pz k2)), (7, (.int .i64 (k6 : Int)))] ∧ List.drop k6 a_m.Inputs = rest7 ∧ Ent cs' [crd (RdS 3 rdInt) v1_0.v a_values, cboR k1 65 (.agg [(.int .i64 a_m.Rel), v0_1.v, (.int .i64 a_m.Limit), (.int .i64 a_m.Cost), (.int .i64 a_m.Quota)].toArray), crd (RdS 3 rdInt) v0_1.v a_m.Inputs, cboR k2 39 (.agg [(.int .i64 a_f.Rel), v2_1.v].toArray), crd (RdS 3 rdInt) v2_1.v a_f.Values] ∧ s_l5Fits_L1 a_values a_f rest7 k6 = some R) ⟨_, 0, _, rfl, eqA, rfl, entA, hF⟩ ?_)
 rintro m4 _ _ ⟨g5, k6, rest7, rfl, rfl, hd9, hE, hF⟩
 refine Kb hE a_m.Inputs (fun hbd14 => ?_)
 rcases rest7 with _ | ⟨x8, rest7⟩
 · have hk10 := dn hd9
   rw [s_l5Fits_L1] at hF
   iterate 8 refine au ?_
   refine CdF ?_
   iterate 8 refine au ?_
   cases hF
   exact Er ()
 obtain ⟨hk10, hx11, hd12⟩ := drop_cons hd9
 rw [s_l5Fits_L1] at hF
 iterate 8 refine au ?_
 refine CdT ?_
 iterate 2 refine au ?_
 refine K_draw [0, 1, 2, 3, 4, 5, 6, 7, 8, 9, 10, 11, 12, 13] [0, 1, 0, 4, 0, 28, 60, 127, 255, 0, 0, 1536, 3584, 8191] [] mixed (by decide +kernel) ?_
 iterate 5 refine du ?_
 refine Di hx11 (fun k15 j16 => ?_)
 refine Dl ls3_0 ?_
 refine bnd hF fun x17 hx18 hF => ?_
 obtain ⟨hp19, hx20⟩ := ix_some hx18
 refine Di hx20 (fun k21 j22 => ?_)
 refine Dl ls3_0 ?_
 iterate 2 refine du ?_
 refine bnd hF fun x23 hx24 hF => ?_
 obtain ⟨hp25, hx26⟩ := ix_some hx24
 refine Di hx26 (fun k27 j28 => ?_)
 refine Dl ls3_0 ?_
 iterate 2 refine du ?_
 refine Ci hF (fun hb30 hF => ?_) (fun hb30 hF => ?_)
 · iterate 4 refine au ?_
   cases hF
   exact Er ()
 iterate 6 refine au ?_
 rw [wk k6]
 exact ⟨_, Nat.lt_succ_self _, _, k6 + 1, rest7, rfl, eqA, hd12, entA, hF⟩
def s_l5Matches_L1 (a_m : Method) (a_values : List Int) : List Fact → Nat → (List Fact) → Option ((List Fact))
 | [], k9, c3 => some c3
 | x11 :: rest10, k9, c3 => ((s_l5Fits a_m a_values x11).bind fun r23 =>
     if r23 then (
       (s_l2One x11.Rel x11.Values).bind fun r31 =>
       (app c3 ([r31] : List Fact)).bind fun z35 =>
       some z35)
     else (
       some c3)).bind fun o18 =>
   match o18 with
   | c39 => s_l5Matches_L1 a_m a_values rest10 (k9 + 1) c39
def s_l5Matches (a_m : Method) (a_values : List Int) (a_facts : List Fact) : Option ((List Fact)) :=
 s_l5Matches_L1 a_m a_values a_facts 0 ([] : List Fact)
theorem s_l5Matches_ok (a_m : Method) (v0_1 : Sv) (a_values : List Int) (v1_0 : Sv) (a_facts : List Fact) (v2_0 : Sv) (R : (List Fact)) (hF : s_l5Matches a_m a_values a_facts = some R) :
   Fw.Spec Tryz.prog 53 [(.agg [(.int .i64 a_m.Rel), v0_1.v, (.int .i64 a_m.Limit), (.int .i64 a_m.Cost), (.int .i64 a_m.Quota)].toArray), v1_0.v, v2_0.v] [crd (RdS 3 rdInt) v0_1.v a_m.Inputs, crd (RdS 3 rdInt) v1_0.v a_values, crd (RdS 39 rd39) v2_0.v a_facts] (fun p : Sv × List Nat => p.1.v) (fun p => [cown (OwnS 39 ow39) p.2 p.1.v R]) := by
 refine Se 38 Tryz.func53 [.tmp 6] ?_
 intro H0 F0
 unfold s_l5Matches at hF
 refine au ?_
 refine AbR (fun k1 => ?_)
 iterate 3 refine au ?_
 refine C_new rfl (N_buildSliceT (g := true) sl37.h ty39.h .nil (vs := []) rfl rfl rfl (by simp)) (fun k2 => ?_)
 refine Cv1 (.cons .h .nil) (own_lit (Ro := ow39) (E := 39) (F := []) (xs := ([] : List Fact)) MkL_nil rfl rfl) ?_
 iterate 6 refine au ?_
 refine CW_block (CW_loop (m := a_facts.length) (fun m7 f' cs' => ∃ (g : Fr) (k9 : Nat) (rest10 : List Fact) (c3 : List Fact) (v4 : Sv) (F5 : List Nat), m7 = rest10.length ∧ f' = updL g [(1, v1_0.v), (2, v2_0.v), (3, (pz k1)), (7, v4.v), (8, (.int .i64 (k9 : Int)))] ∧ List.drop k9 a_facts = rest10 ∧ Ent cs' [crd (RdS 3 rdInt) v1_0.v a_values, crd (RdS 39 rd39) v2_0.v a_facts, cboR k1 65 (.agg [(.int .i64 a_m.Rel), v0_1.v, (.int .i64 a_m.Limit), (.int .i64 a_m.Cost), (.int .i64 a_m.Quota)].toArray), crd (RdS 3 rdInt) v0_1.v a_m.Inputs, cown (OwnS 39 ow39) F5 v4.v c3] ∧ s_l5Matches_L1 a_m a_values rest10 k9 c3 = some R) ⟨_, 0, _, _, ⟨(some ⟨k2, 0, none⟩), 0, 1⟩, (k2 :: []), rfl, eqA, rfl, entA, hF⟩ ?_)
 rintro m7 _ _ ⟨g8, k9, rest10, c3, v4, F5, rfl, rfl, hd12, hE, hF⟩
 refine Kb hE a_facts (fun hbd17 => ?_)
 rcases rest10 with _ | ⟨x11, rest10⟩
 · have hk13 := dn hd12
   rw [s_l5Matches_L1] at hF
   iterate 7 refine au ?_
   refine CdF ?_
   iterate 9 refine au ?_
   cases hF
   exact Er (v4, F5)
 obtain ⟨hk13, hx14, hd15⟩ := drop_cons hd12
 rw [s_l5Matches_L1] at hF
 iterate 7 refine au ?_
 refine CdT ?_
 refine au ?_
 obtain ⟨o18, hio18, hO19⟩ := bind_some hF
 refine K_cut (fun f' cs' => ∃ (c39 : List Fact) (v40 : Sv) (F41 : List Nat) (g : Fr), c39 = o18 ∧ f' = updL g [(1, v1_0.v), (2, v2_0.v), (3, (pz k1)), (7, v40.v), (8, (.int .i64 (k9 : Int)))] ∧ Ent cs' [crd (RdS 3 rdInt) v1_0.v a_values, crd (RdS 39 rd39) v2_0.v a_facts, cboR k1 65 (.agg [(.int .i64 a_m.Rel), v0_1.v, (.int .i64 a_m.Limit), (.int .i64 a_m.Cost), (.int .i64 a_m.Quota)].toArray), crd (RdS 3 rdInt) v0_1.v a_m.Inputs, cown (OwnS 39 ow39) F41 v40.v c39]) ?_ ?_
 · replace hF := hio18
   refine CW_block (K_draw [0, 1, 2, 3, 4, 5, 6] [0, 0, 0, 0, 12, 28, 63] [6] mixed (by decide +kernel) ?_)
   iterate 4 refine du ?_
   refine Di hx14 (fun k20 j21 => ?_)
   refine DlA1 (ul39_0_39 x11) la39_0_39 (fun p22 => ?_)
   refine bnd hF fun r23 hx24 hF => Dx0 (s_l5Fits_ok _ _ _ _ _ _ _ hx24) (fun _ => ?_)
   refine du ?_
   refine Ci hF (fun hb38 hF => ?_) (fun hb38 hF => ?_)
   · refine CW_draw [0, 1, 2, 3, 4, 5, 6, 7, 8, 9, 10, 11, 12, 13, 14] [0, 0, 0, 6, 14, 30, 0, 0, 192, 448, 960, 2046, 4094, 8191, 16383] [11, 13] mixed (by decide +kernel) ?_
     iterate 3 refine du ?_
     refine Di hx14 (fun k26 j27 => ?_)
     refine du ?_
     refine Dl ls39_0 ?_
     iterate 2 refine du ?_
     refine Di hx14 (fun k28 j29 => ?_)
     refine du ?_
     refine D_ldV (R' := (RdS 3 rdInt)) ag22.h rfl .no (.tmp rfl rfl) rfl .h lv39_1 (fun w30 => ?_)
     refine bnd hF fun r31 hx32 hF => Dx1 (s_l2One_ok _ _ _ _ hx32) (fun p33 => ?_)
     refine D_new rfl .no rfl (fun ha => N_buildSliceT (g := true) (len := 1) (parts := [(0, .tmp 34)]) sl37.h ty39.h (.cons (EN ha (.tmp rfl rfl) rfl) .nil) (vs := [(.agg [(.int .i64 r31.Rel), p33.1.v].toArray)]) rfl rfl rfl (by intro v hv; simp at hv; rcases hv with rfl <;> rfl)) (fun k34 => ?_)
     refine Dv1 (.cons .h (.cons .h .nil)) (own_lit (Ro := ow39) (E := 39) (F := (p33.2 ++ [])) (xs := ([r31] : List Fact)) (MkL_cons mk39 MkL_nil apps) rfl rfl) ?_
     refine bnd hF fun z35 hx36 hF => D_act1 rfl rfl .no (.cons (.t (.t (.t (.t (.t (.t (.t (.t (.t (.t .h)))))))))) (.cons .h .nil)) (.dep rfl .nil) (fun ha => X_appendO (Ro := ow39) sl37.h ni37 ty39.h rfl rfl rfl (EN ha (.tmp rfl rfl) rfl) (EN ha (.tmp rfl rfl) rfl) hx36 src_own) (fun p37 => ?_)
     iterate 2 refine du ?_
     cases hF
     exact ⟨_, p37.1, p37.2, _, rfl, eqA, entA⟩
   refine au ?_
   cases hF
   exact ⟨_, v4, F5, _, rfl, eqA, entA⟩
 rintro _ _ ⟨c39, v40, F41, g43, rfl, rfl, hE⟩
 replace hF := hO19
 try dsimp only at hF
 refine K_ent hE ?_
 iterate 5 refine au ?_
 rw [wk k9]
 exact ⟨_, Nat.lt_succ_self _, _, k9 + 1, rest10, _, v40, F41, rfl, eqA, hd15, entA, hF⟩
def s_HasFact_L1 (a_f : Fact) : List Fact → Nat → Option (Bool)
 | [], k5 => some false
 | x7 :: rest6, k5 => (s_CompareFacts x7 a_f).bind fun r17 =>
   if ((r17 : Int) == 0) then (
     some true)
   else (
     s_HasFact_L1 a_f rest6 (k5 + 1))
def s_HasFact (a_l : List Fact) (a_f : Fact) : Option (Bool) :=
 s_HasFact_L1 a_f a_l 0
theorem s_HasFact_ok (a_l : List Fact) (v0_0 : Sv) (a_f : Fact) (v1_1 : Sv) (R : Bool) (hF : s_HasFact a_l a_f = some R) :
   Fw.Spec Tryz.prog 32 [v0_0.v, (.agg [(.int .i64 a_f.Rel), v1_1.v].toArray)] [crd (RdS 39 rd39) v0_0.v a_l, crd (RdS 3 rdInt) v1_1.v a_f.Values] (fun _ : Unit => (.bool R)) (fun _ => []) := by
 refine Se 19 Tryz.func32 [.tmp 4] ?_
 intro H0 F0
 unfold s_HasFact at hF
 refine au ?_
 refine AbR (fun k1 => ?_)
 iterate 6 refine au ?_
 refine CW_block (CW_loop (m := a_l.length) (fun m3 f' cs' => ∃ (g : Fr) (k5 : Nat) (rest6 : List Fact), m3 = rest6.length ∧ f' = updL g [(0, v0_0.v), (3, (pz k1)), (5, (.int .i64 (k5 : Int)))] ∧ List.drop k5 a_l = rest6 ∧ Ent cs' [crd (RdS 39 rd39) v0_0.v a_l, cboR k1 39 (.agg [(.int .i64 a_f.Rel), v1_1.v].toArray), crd (RdS 3 rdInt) v1_1.v a_f.Values] ∧ s_HasFact_L1 a_f rest6 k5 = some R) ⟨_, 0, _, rfl, eqA, rfl, entA, hF⟩ ?_)
 rintro m3 _ _ ⟨g4, k5, rest6, rfl, rfl, hd8, hE, hF⟩
 refine Kb hE a_l (fun hbd13 => ?_)
 rcases rest6 with _ | ⟨x7, rest6⟩
 · have hk9 := dn hd8
   rw [s_HasFact_L1] at hF
   iterate 7 refine au ?_
   refine CdF ?_
   iterate 8 refine au ?_
   cases hF
   exact Er ()
 obtain ⟨hk9, hx10, hd11⟩ := drop_cons hd8
 rw [s_HasFact_L1] at hF
 iterate 7 refine au ?_
 refine CdT ?_
 iterate 2 refine au ?_
 refine K_draw [0, 1, 2, 3, 4, 5, 6] [0, 0, 3, 7, 0, 31, 63] [5] mixed (by decide +kernel) ?_
 iterate 2 refine du ?_
 refine Di hx10 (fun k14 j15 => ?_)
 refine DlA1 (ul39_0_39 x7) la39_0_39 (fun p16 => ?_)
 refine du ?_
 refine bnd hF fun r17 hx18 hF => Dx0 (s_CompareFacts_ok _ _ _ _ _ hx18) (fun _ => ?_)
 iterate 2 refine du ?_
 refine Ci hF (fun hb21 hF => ?_) (fun hb21 hF => ?_)
 · iterate 4 refine au ?_
   cases hF
   exact Er ()
 iterate 6 refine au ?_
 rw [wk k5]
 exact ⟨_, Nat.lt_succ_self _, _, k5 + 1, rest6, rfl, eqA, hd11, entA, hF⟩
def s_AddFact_L1 (a_f : Fact) : List Fact → Nat → (List Fact) → Bool → Option ((List Fact))
 | [], k13, c6, c9 => if (!c9) then (
     (s_l2One a_f.Rel a_f.Values).bind fun r22 =>
     (app c6 ([r22] : List Fact)).bind fun z26 =>
     some z26)
   else (
     some c6)
 | x15 :: rest14, k13, c6, c9 => ((bif (!c9) then ((s_CompareFacts a_f x15).bind fun r38 =>
         some (decide ((r38 : Int) < 0)))
       else (some false)).bind fun o32 =>
     match o32 with
     | c41 => if c41 then (
         (s_l2One a_f.Rel a_f.Values).bind fun r42 =>
         (app c6 ([r42] : List Fact)).bind fun z46 =>
         (s_l2One x15.Rel x15.Values).bind fun r54 =>
         (app z46 ([r54] : List Fact)).bind fun z58 =>
         some (z58, true))
       else (
         (s_l2One x15.Rel x15.Values).bind fun r66 =>
         (app c6 ([r66] : List Fact)).bind fun z70 =>
         some (z70, c9))).bind fun o30 =>
   match o30 with
   | (c75, c78) => s_AddFact_L1 a_f rest14 (k13 + 1) c75 c78
def s_AddFact (a_l : List Fact) (a_f : Fact) : Option ((List Fact)) :=
 (s_HasFact a_l a_f).bind fun r3 =>
 s_AddFact_L1 a_f a_l 0 ([] : List Fact) r3
theorem s_AddFact_ok (a_l : List Fact) (v0_0 : Sv) (a_f : Fact) (v1_1 : Sv) (R : (List Fact)) (hF : s_AddFact a_l a_f = some R) :
   Fw.Spec Tryz.prog 97 [v0_0.v, (.agg [(.int .i64 a_f.Rel), v1_1.v].toArray)] [crd (RdS 39 rd39) v0_0.v a_l, crd (RdS 3 rdInt) v1_1.v a_f.Values] (fun p : Sv × List Nat => p.1.v) (fun p => [cown (OwnS 39 ow39) p.2 p.1.v R]) := by
 refine Se 62 Tryz.func97 [.tmp 4] ?_
 intro H0 F0
 unfold s_AddFact at hF
 refine au ?_
 refine AbR (fun k1 => ?_)
 iterate 3 refine au ?_
 refine C_new rfl (N_buildSliceT (g := true) sl37.h ty39.h .nil (vs := []) rfl rfl rfl (by simp)) (fun k2 => ?_)
 refine Cv1 (.cons .h .nil) (own_lit (Ro := ow39) (E := 39) (F := []) (xs := ([] : List Fact)) MkL_nil rfl rfl) ?_
 iterate 5 refine au ?_
 refine bnd hF fun r3 hx4 hF => Cx0 (s_HasFact_ok _ _ _ _ _ hx4) (fun _ => ?_)
 iterate 6 refine au ?_
 refine CW_block (CW_loop (m := a_l.length) (fun m11 f' cs' => ∃ (g : Fr) (k13 : Nat) (rest14 : List Fact) (c6 : List Fact) (c9 : Bool) (v7 : Sv) (F8 : List Nat), m11 = rest14.length ∧ f' = updL g [(0, v0_0.v), (3, (pz k1)), (5, v7.v), (6, (.bool c9)), (7, (.int .i64 (k13 : Int)))] ∧ List.drop k13 a_l = rest14 ∧ Ent cs' [crd (RdS 39 rd39) v0_0.v a_l, cboR k1 39 (.agg [(.int .i64 a_f.Rel), v1_1.v].toArray), crd (RdS 3 rdInt) v1_1.v a_f.Values, cown (OwnS 39 ow39) F8 v7.v c6] ∧ s_AddFact_L1 a_f rest14 k13 c6 c9 = some R) ⟨_, 0, _, _, _, ⟨(some ⟨k2, 0, none⟩), 0, 1⟩, (k2 :: []), rfl, eqA, rfl, entA, hF⟩ ?_)
 rintro m11 _ _ ⟨g12, k13, rest14, c6, c9, v7, F8, rfl, rfl, hd16, hE, hF⟩
 refine Kb hE a_l (fun hbd21 => ?_)
 rcases rest14 with _ | ⟨x15, rest14⟩
 · have hk17 := dn hd16
   rw [s_AddFact_L1] at hF
   iterate 7 refine au ?_
   refine CdF ?_
   iterate 9 refine au ?_
   refine Ci hF (fun hb29 hF => ?_) (fun hb29 hF => ?_)
   · iterate 6 refine au ?_
     refine bnd hF fun r22 hx23 hF => Cx1 (s_l2One_ok _ _ _ _ hx23) (fun p24 => ?_)
     refine C_new rfl (N_buildSliceT (g := true) sl37.h ty39.h (.cons (.tmp rfl rfl) .nil) (vs := [(.agg [(.int .i64 r22.Rel), p24.1.v].toArray)]) rfl rfl rfl (by intro v hv; simp at hv; rcases hv with rfl <;> rfl)) (fun k25 => ?_)
     refine Cv1 (.cons .h (.cons .h .nil)) (own_lit (Ro := ow39) (E := 39) (F := (p24.2 ++ [])) (xs := ([r22] : List Fact)) (MkL_cons mk39 MkL_nil apps) rfl rfl) ?_
     refine bnd hF fun z26 hx27 hF => C_x1 (.cons (.t (.t (.t (.t .h)))) (.cons .h .nil)) (X_appendO (Ro := ow39) sl37.h ni37 ty39.h rfl rfl rfl (.tmp rfl rfl) (.tmp rfl rfl) hx27 src_own) (fun p28 => ?_)
     iterate 7 refine au ?_
     cases hF
     exact Er (p28.1, p28.2)
   iterate 6 refine au ?_
   cases hF
   exact Er (v7, F8)
 obtain ⟨hk17, hx18, hd19⟩ := drop_cons hd16
 rw [s_AddFact_L1] at hF
 iterate 7 refine au ?_
 refine CdT ?_
 refine au ?_
 obtain ⟨o30, hio30, hO31⟩ := bind_some hF
 refine K_cut (fun f' cs' => ∃ (c75 : List Fact) (c78 : Bool) (v76 : Sv) (F77 : List Nat) (g : Fr), o30 = (c75, c78) ∧ f' = updL g [(0, v0_0.v), (3, (pz k1)), (5, v76.v), (6, (.bool c78)), (7, (.int .i64 (k13 : Int)))] ∧ Ent cs' [crd (RdS 39 rd39) v0_0.v a_l, cboR k1 39 (.agg [(.int .i64 a_f.Rel), v1_1.v].toArray), crd (RdS 3 rdInt) v1_1.v a_f.Values, cown (OwnS 39 ow39) F77 v76.v c75]) ?_ ?_
 · replace hF := hio30
   refine CW_block (K_in ?_)
   obtain ⟨o32, hio32, hO33⟩ := bind_some hF
   refine K_draw [0, 1, 2, 3, 4, 5, 6, 7, 8, 9, 10] [0, 1, 3, 7, 7, 7, 55, 119, 255, 511, 1023] [8] mixed (by decide +kernel) ?_
   refine D_cut (fun f' cs' => ∃ (c41 : Bool) (g : Fr), c41 = o32 ∧ f' = updL g [(0, v0_0.v), (3, (pz k1)), (5, v7.v), (6, (.bool c9)), (7, (.int .i64 (k13 : Int))), (28, (.bool c41))] ∧ Ent cs' [crd (RdS 39 rd39) v0_0.v a_l, cboR k1 39 (.agg [(.int .i64 a_f.Rel), v1_1.v].toArray), crd (RdS 3 rdInt) v1_1.v a_f.Values, cown (OwnS 39 ow39) F8 v7.v c6]) ?_ ?_
   · replace hF := hio32
     iterate 3 refine du ?_
     rcases Bool.eq_false_or_eq_true (!c9) with hg34 | hg34
     · rw [hg34]
       try rw [hg34] at hF; dsimp only [cond_true, cond_false] at hF
       iterate 3 refine du ?_
       refine Di hx18 (fun k35 j36 => ?_)
       refine DlA1 (ul39_0_39 x15) la39_0_39 (fun p37 => ?_)
       refine bnd hF fun r38 hx39 hF => Dx0 (s_CompareFacts_ok _ _ _ _ _ hx39) (fun _ => ?_)
       iterate 3 refine du ?_
       cases hF
       exact ⟨_, _, rfl, eqA, entA⟩
     rw [hg34]
     try rw [hg34] at hF; dsimp only [cond_true, cond_false] at hF
     iterate 9 refine du ?_
     cases hF
     exact ⟨_, _, rfl, eqA, entA⟩
   rintro _ _ ⟨c41, g74, rfl, rfl, hE⟩
   replace hF := hO33
   try dsimp only at hF
   refine K_ent hE ?_
   refine Ci hF (fun hb73 hF => ?_) (fun hb73 hF => ?_)
   · iterate 6 refine au ?_
     refine bnd hF fun r42 hx43 hF => Cx1 (s_l2One_ok _ _ _ _ hx43) (fun p44 => ?_)
     refine C_new rfl (N_buildSliceT (g := true) sl37.h ty39.h (.cons (.tmp rfl rfl) .nil) (vs := [(.agg [(.int .i64 r42.Rel), p44.1.v].toArray)]) rfl rfl rfl (by intro v hv; simp at hv; rcases hv with rfl <;> rfl)) (fun k45 => ?_)
     refine Cv1 (.cons .h (.cons .h .nil)) (own_lit (Ro := ow39) (E := 39) (F := (p44.2 ++ [])) (xs := ([r42] : List Fact)) (MkL_cons mk39 MkL_nil apps) rfl rfl) ?_
     refine bnd hF fun z46 hx47 hF => C_x1 (.cons (.t (.t (.t (.t .h)))) (.cons .h .nil)) (X_appendO (Ro := ow39) sl37.h ni37 ty39.h rfl rfl rfl (.tmp rfl rfl) (.tmp rfl rfl) hx47 src_own) (fun p48 => ?_)
     iterate 5 refine au ?_
     refine CW_draw [0, 1, 2, 3, 4, 5, 6, 7, 8, 9, 10, 11, 12, 13, 14] [0, 0, 0, 6, 14, 30, 0, 0, 192, 448, 960, 2046, 4094, 8191, 16383] [11, 13] mixed (by decide +kernel) ?_
     iterate 3 refine du ?_
     refine Di hx18 (fun k49 j50 => ?_)
     refine du ?_
     refine Dl ls39_0 ?_
     iterate 2 refine du ?_
     refine Di hx18 (fun k51 j52 => ?_)
     refine du ?_
     refine D_ldV (R' := (RdS 3 rdInt)) ag22.h rfl .no (.tmp rfl rfl) rfl .h lv39_1 (fun w53 => ?_)
     refine bnd hF fun r54 hx55 hF => Dx1 (s_l2One_ok _ _ _ _ hx55) (fun p56 => ?_)
     refine D_new rfl .no rfl (fun ha => N_buildSliceT (g := true) (len := 1) (parts := [(0, .tmp 48)]) sl37.h ty39.h (.cons (EN ha (.tmp rfl rfl) rfl) .nil) (vs := [(.agg [(.int .i64 r54.Rel), p56.1.v].toArray)]) rfl rfl rfl (by intro v hv; simp at hv; rcases hv with rfl <;> rfl)) (fun k57 => ?_)
     refine Dv1 (.cons .h (.cons .h .nil)) (own_lit (Ro := ow39) (E := 39) (F := (p56.2 ++ [])) (xs := ([r54] : List Fact)) (MkL_cons mk39 MkL_nil apps) rfl rfl) ?_
     refine bnd hF fun z58 hx59 hF => D_act1 rfl rfl .no (.cons (.t (.t (.t (.t .h)))) (.cons .h .nil)) (.dep rfl .nil) (fun ha => X_appendO (Ro := ow39) sl37.h ni37 ty39.h rfl rfl rfl (EN ha (.tmp rfl rfl) rfl) (EN ha (.tmp rfl rfl) rfl) hx59 src_own) (fun p60 => ?_)
     iterate 2 refine du ?_
     cases hF
     exact ⟨_, _, p60.1, p60.2, _, rfl, eqA, entA⟩
   refine au ?_
   refine CW_draw [0, 1, 2, 3, 4, 5, 6, 7, 8, 9, 10, 11, 12, 13, 14] [0, 0, 0, 6, 14, 30, 0, 0, 192, 448, 960, 2046, 4094, 8191, 16383] [11, 13] mixed (by decide +kernel) ?_
   iterate 3 refine du ?_
   refine Di hx18 (fun k61 j62 => ?_)
   refine du ?_
   refine Dl ls39_0 ?_
   iterate 2 refine du ?_
   refine Di hx18 (fun k63 j64 => ?_)
   refine du ?_
   refine D_ldV (R' := (RdS 3 rdInt)) ag22.h rfl .no (.tmp rfl rfl) rfl .h lv39_1 (fun w65 => ?_)
   refine bnd hF fun r66 hx67 hF => Dx1 (s_l2One_ok _ _ _ _ hx67) (fun p68 => ?_)
   refine D_new rfl .no rfl (fun ha => N_buildSliceT (g := true) (len := 1) (parts := [(0, .tmp 48)]) sl37.h ty39.h (.cons (EN ha (.tmp rfl rfl) rfl) .nil) (vs := [(.agg [(.int .i64 r66.Rel), p68.1.v].toArray)]) rfl rfl rfl (by intro v hv; simp at hv; rcases hv with rfl <;> rfl)) (fun k69 => ?_)
   refine Dv1 (.cons .h (.cons .h .nil)) (own_lit (Ro := ow39) (E := 39) (F := (p68.2 ++ [])) (xs := ([r66] : List Fact)) (MkL_cons mk39 MkL_nil apps) rfl rfl) ?_
   refine bnd hF fun z70 hx71 hF => D_act1 rfl rfl .no (.cons (.t (.t (.t (.t (.t (.t (.t .h))))))) (.cons .h .nil)) (.dep rfl .nil) (fun ha => X_appendO (Ro := ow39) sl37.h ni37 ty39.h rfl rfl rfl (EN ha (.tmp rfl rfl) rfl) (EN ha (.tmp rfl rfl) rfl) hx71 src_own) (fun p72 => ?_)
   iterate 2 refine du ?_
   cases hF
   exact ⟨_, _, p72.1, p72.2, _, rfl, eqA, entA⟩
 rintro _ _ ⟨c75, c78, v76, F77, g80, rfl, rfl, hE⟩
 replace hF := hO31
 try dsimp only at hF
 refine K_ent hE ?_
 iterate 5 refine au ?_
 rw [wk k13]
 exact ⟨_, Nat.lt_succ_self _, _, k13 + 1, rest14, _, _, v76, F77, rfl, eqA, hd19, entA, hF⟩
def s_l8Step_L24 (x2166 : Fact) (r2178 : (List Fact)) : Nat → (List Int) → Int → Option ((List Fact) × (List Int))
 | 0, _, _ => none
 | m2208 + 1, c2205, c2207 => if (decide ((c2207 : Int) < (x2166.Values.length : Int))) then (
     (ix x2166.Values c2207).bind fun x2222 =>
     (s_l3Put c2205 x2222).bind fun r2228 =>
     s_l8Step_L24 x2166 r2178 m2208 r2228 (IntKind.i64.wrap (c2207 + 1)))
   else (
     some (r2178, c2205))
def s_l8Step_L21 (z1969 : List Access) : List Fact → Nat → (List Fact) → (List Int) → Option ((List Fact) × (List Int) × (List Access))
 | [], k2164, c2156, c2159 => some (c2156, c2159, z1969)
 | x2166 :: rest2165, k2164, c2156, c2159 => ((s_AddFact c2156 x2166).bind fun r2178 =>
     s_l8Step_L24 x2166 r2178 (((x2166.Values.length : Int) - 0).toNat + 2) c2159 0).bind fun o2173 =>
   match o2173 with
   | (c2232, c2235) => s_l8Step_L21 z1969 rest2165 (k2164 + 1) c2232 c2235
def s_l8Step_L1 (a_l : List Method) (a_facts : List Fact) (a_r : Reached) (r3 : Reached) (r7 : (List Access)) : List Access → Nat → (List Fact) → (List Int) → (List Access) → Option (Reached × Bool)
 | [], k1953, c1942, c1945, c1947 => if (((r7.length : Int) : Int) == 0) then (
     some (({ Facts := c1942, Values := c1945, Log := c1947, Rounds := r3.Rounds } : Reached), false))
   else (
     some (({ Facts := c1942, Values := c1945, Log := c1947, Rounds := (IntKind.i64.wrap (a_r.Rounds + 1)) } : Reached), true))
 | x1955 :: rest1954, k1953, c1942, c1945, c1947 => ((app c1947 ([x1955] : List Access)).bind fun z1969 =>
     (ix a_l x1955.Method).bind fun x1974 =>
     (s_l5Matches x1974 x1955.Values a_facts).bind fun r1984 =>
     s_l8Step_L21 z1969 r1984 0 c1942 c1945).bind fun o1963 =>
   match o1963 with
   | (c2239, c2242, c2244) => s_l8Step_L1 a_l a_facts a_r r3 r7 rest1954 (k1953 + 1) c2239 c2242 c2244
def s_l8Step (a_l : List Method) (a_facts : List Fact) (a_r : Reached) : Option (Reached × Bool) :=
 (s_l8Copy a_r).bind fun r3 =>
 (s_l8Open a_l a_r).bind fun r7 =>
 s_l8Step_L1 a_l a_facts a_r r3 r7 r7 0 r3.Facts r3.Values r3.Log
theorem s_l8Step_ok (a_l : List Method) (v0_0 : Sv) (a_facts : List Fact) (v1_0 : Sv) (a_r : Reached) (v2_0 : Sv) (v2_1 : Sv) (v2_2 : Sv) (R : Reached × Bool) (hF : s_l8Step a_l a_facts a_r = some R) :
   Fw.Spec Tryz.prog 71 [v0_0.v, v1_0.v, (.agg [v2_0.v, v2_1.v, v2_2.v, (.int .i64 a_r.Rounds)].toArray)] [crd (RdS 65 rd65) v0_0.v a_l, crd (RdS 39 rd39) v1_0.v a_facts, crd (RdS 39 rd39) v2_0.v a_r.Facts, crd (RdS 3 rdInt) v2_1.v a_r.Values, crd (RdS 31 rd31) v2_2.v a_r.Log] (fun p : Sv × List Nat × Sv × Sv => (.tuple [(.agg [p.1.v, p.2.2.1.v, p.2.2.2.v, (.int .i64 R.1.Rounds)].toArray), (.bool R.2)].toArray)) (fun p => [cown (OwnS 39 ow39) p.2.1 p.1.v R.1.Facts, crd (RdS 3 rdInt) p.2.2.1.v R.1.Values, crd (RdS 31 rd31) p.2.2.2.v R.1.Log]) := by
 refine Se 94 Tryz.func71 [.cell 6 54, .tmp 7] ?_
 intro H0 F0
 unfold s_l8Step at hF
 refine au ?_
 refine AbR (fun k1 => ?_)
 refine AnW (fun k2 => ?_)
 iterate 4 refine au ?_
 refine bnd hF fun r3 hx4 hF => Cx3 (s_l8Copy_ok _ _ _ _ _ hx4) (fun p5 => ?_)
 refine AnW (fun k6 => ?_)
 refine As (.agg [p5.1.v, p5.2.2.1.v, p5.2.2.2.2.1.v, (.int .i64 r3.Rounds)].toArray) ?_
 iterate 4 refine au ?_
 refine bnd hF fun r7 hx8 hF => Cx1 (s_l8Open_ok _ _ _ _ _ _ _ hx8) (fun p9 => ?_)
 iterate 6 refine au ?_
 refine CW_block (K_frz .h frz_own ?_)
 refine CW_loop (m := r7.length) (fun m1951 f' cs' => ∃ (g : Fr) (k1953 : Nat) (rest1954 : List Access) (c1942 : List Fact) (c1945 : List Int) (c1947 : List Access) (v1943 : Sv) (F1944 : List Nat) (v1946 : Sv) (v1948 : Sv) (F1949 : List Nat), m1951 = rest1954.length ∧ f' = updL g [(0, v0_0.v), (1, v1_0.v), (5, (pz k1)), (6, (pz k2)), (8, (pz k6)), (9, p9.1.v), (10, (.int .i64 (k1953 : Int)))] ∧ List.drop k1953 r7 = rest1954 ∧ Ent cs' [crd (RdS 65 rd65) v0_0.v a_l, crd (RdS 39 rd39) v1_0.v a_facts, cboR k1 54 (.agg [v2_0.v, v2_1.v, v2_2.v, (.int .i64 a_r.Rounds)].toArray), crd (RdS 39 rd39) v2_0.v a_r.Facts, crd (RdS 3 rdInt) v2_1.v a_r.Values, crd (RdS 31 rd31) v2_2.v a_r.Log, cbox k2 54 (.agg [(.slice none 0 0), (.slice none 0 0), (.slice none 0 0), (.int .i64 0)].toArray), cbox k6 54 (.agg [v1943.v, v1946.v, v1948.v, (.int .i64 r3.Rounds)].toArray), cown (OwnS 39 ow39) F1944 v1943.v c1942, crd (RdS 3 rdInt) v1946.v c1945, cown (OwnS 31 (roE rd31)) F1949 v1948.v c1947, crd (RdS 31 rd31) p9.1.v r7] ∧ s_l8Step_L1 a_l a_facts a_r r3 r7 rest1954 k1953 c1942 c1945 c1947 = some R) ⟨_, 0, _, _, _, _, p5.1, p5.2.1, p5.2.2.1, p5.2.2.2.2.1, (p5.2.2.2.2.2.take 1), rfl, eqA, rfl, (.frz (.t (.t (.t .h))) frz_own (.half (.t (.t (.t (.t .h)))) entA)), hF⟩ ?_
 rintro m1951 _ _ ⟨g1952, k1953, rest1954, c1942, c1945, c1947, v1943, F1944, v1946, v1948, F1949, rfl, rfl, hd1956, hE, hF⟩
 refine Kb hE r7 (fun hbd1961 => ?_)
 rcases rest1954 with _ | ⟨x1955, rest1954⟩
 · have hk1957 := dn hd1956
   rw [s_l8Step_L1] at hF
   iterate 7 refine au ?_
   refine CdF ?_
   iterate 10 refine au ?_
   refine Ci hF (fun hb1962 hF => ?_) (fun hb1962 hF => ?_)
   · iterate 2 refine au ?_
     refine As (.agg [v1943.v, v1946.v, v1948.v, (.int .i64 r3.Rounds)].toArray) ?_
     iterate 3 refine au ?_
     cases hF
     exact End_ret (v1943, F1944, v1946, v1948) (.cellA rfl rfl .h rfl ag54.h ty54.h.sz rfl rfl (.tmp rfl rfl .nil)) rfl (.frz (.t (.t (.t (.t (.t (.t (.t (.t (.t (.t .h)))))))))) frz_own (.sel (.cons (.t (.t (.t (.t (.t (.t (.t (.t (.t .h))))))))) (.rd (.t (.t (.t (.t (.t (.t (.t (.t (.t .h))))))))) rfl (.rd .h rfl .nil)))))
   iterate 6 refine au ?_
   refine As (.agg [v1943.v, v1946.v, v1948.v, (.int .i64 (IntKind.i64.wrap (a_r.Rounds + 1)))].toArray) ?_
   iterate 3 refine au ?_
   refine As (.agg [v1943.v, v1946.v, v1948.v, (.int .i64 (IntKind.i64.wrap (a_r.Rounds + 1)))].toArray) ?_
   iterate 3 refine au ?_
   cases hF
   exact End_ret (v1943, F1944, v1946, v1948) (.cellA rfl rfl .h rfl ag54.h ty54.h.sz rfl rfl (.tmp rfl rfl .nil)) rfl (.frz (.t (.t (.t (.t (.t (.t (.t (.t (.t (.t .h)))))))))) frz_own (.sel (.cons (.t (.t (.t (.t (.t (.t (.t (.t (.t .h))))))))) (.rd (.t (.t (.t (.t (.t (.t (.t (.t (.t .h))))))))) rfl (.rd .h rfl .nil)))))
 obtain ⟨hk1957, hx1958, hd1959⟩ := drop_cons hd1956
 rw [s_l8Step_L1] at hF
 iterate 7 refine au ?_
 refine CdT ?_
 refine au ?_
 obtain ⟨o1963, hio1963, hO1964⟩ := bind_some hF
 refine K_cut (fun f' cs' => ∃ (c2239 : List Fact) (c2242 : List Int) (c2244 : List Access) (v2240 : Sv) (F2241 : List Nat) (v2243 : Sv) (v2245 : Sv) (F2246 : List Nat) (g : Fr), o1963 = (c2239, c2242, c2244) ∧ f' = updL g [(0, v0_0.v), (1, v1_0.v), (5, (pz k1)), (6, (pz k2)), (8, (pz k6)), (9, p9.1.v), (10, (.int .i64 (k1953 : Int)))] ∧ Ent cs' [crd (RdS 65 rd65) v0_0.v a_l, crd (RdS 39 rd39) v1_0.v a_facts, cboR k1 54 (.agg [v2_0.v, v2_1.v, v2_2.v, (.int .i64 a_r.Rounds)].toArray), crd (RdS 39 rd39) v2_0.v a_r.Facts, crd (RdS 3 rdInt) v2_1.v a_r.Values, crd (RdS 31 rd31) v2_2.v a_r.Log, cbox k2 54 (.agg [(.slice none 0 0), (.slice none 0 0), (.slice none 0 0), (.int .i64 0)].toArray), cbox k6 54 (.agg [v2240.v, v2243.v, v2245.v, (.int .i64 r3.Rounds)].toArray), cown (OwnS 39 ow39) F2241 v2240.v c2239, crd (RdS 3 rdInt) v2243.v c2242, cown (OwnS 31 (roE rd31)) F2246 v2245.v c2244, crd (RdS 31 rd31) p9.1.v r7]) ?_ ?_
 · replace hF := hio1963
   refine CW_block (K_draw [0, 1, 2, 3, 4, 5, 6, 7, 8, 9] [0, 1, 0, 0, 12, 28, 60, 127, 255, 511] [7, 9] mixed (by decide +kernel) ?_)
   refine du ?_
   refine D_atO rfl .no (.t (.t (.t (.t (.t (.t (.t .h))))))) (fun ha hp => V_load (v := v1948.v) ag52.h (EN ha (.tmp rfl rfl) rfl) hp.2 rfl rfl) ?_
   iterate 2 refine du ?_
   refine Di hx1958 (fun k1965 j1966 => ?_)
   refine DlA1 (ul31_0_31 x1955) la31_0_31 (fun p1967 => ?_)
   refine D_new rfl .no rfl (fun ha => N_buildSliceT (g := true) (len := 1) (parts := [(0, .tmp 30)]) sl52.h ty31.h (.cons (EN ha (.tmp rfl rfl) rfl) .nil) (vs := [(.agg [(.int .i64 x1955.Method), p1967.v].toArray)]) rfl rfl rfl (by intro v hv; simp at hv; rcases hv with rfl <;> rfl)) (fun k1968 => ?_)
   refine Dv1 (.cons .h (.rd .h rfl .nil)) (own_lit (Ro := (roE rd31)) (E := 31) (F := ([] ++ [])) (xs := ([x1955] : List Access)) (MkL_cons mr31 MkL_nil apps) rfl rfl) ?_
   refine bnd hF fun z1969 hx1970 hF => D_act1 rfl rfl .no (.cons (.t (.t (.t (.t (.t (.t (.t (.t (.t (.t (.t (.t (.t .h))))))))))))) (.cons .h .nil)) (.dep rfl (.dep rfl .nil)) (fun ha => X_appendO (Ro := (roE rd31)) sl52.h ni52 ty31.h rfl rfl rfl (EN ha (.tmp rfl rfl) rfl) (EN ha (.tmp rfl rfl) rfl) hx1970 src_own) (fun p1971 => ?_)
   refine du ?_
   refine D_act1 rfl rfl .no (.cons (.t (.t (.t (.t (.t (.t (.t (.t (.t (.t .h)))))))))) .nil) (.dep rfl (.dep rfl .nil)) (fun ha => X_storeB (e' := (.agg [v1943.v, v1946.v, p1971.1.v, (.int .i64 r3.Rounds)].toArray)) ty52.h.sz (EN ha (.tmp rfl rfl) rfl) (EN ha (.tmp rfl rfl) rfl) rfl rfl rfl rfl rfl) (fun _ => ?_)
   refine du ?_
   refine K_draw [0, 1, 2, 3, 4, 5, 6, 7, 8, 9, 10, 11, 12, 13, 14, 15] [0, 0, 0, 6, 14, 30, 63, 127, 0, 0, 768, 1792, 3840, 0, 16383, 32767] [14] mixed (by decide +kernel) ?_
   iterate 3 refine du ?_
   refine Di hx1958 (fun k1972 j1973 => ?_)
   refine du ?_
   refine Dl ls31_0 ?_
   refine bnd hF fun x1974 hx1975 hF => ?_
   obtain ⟨hp1976, hx1977⟩ := ix_some hx1975
   refine Di hx1977 (fun k1978 j1979 => ?_)
   refine DlA1 (ul65_0_65 x1974) la65_0_65 (fun p1980 => ?_)
   iterate 2 refine du ?_
   refine Di hx1958 (fun k1981 j1982 => ?_)
   refine du ?_
   refine D_ldV (R' := (RdS 3 rdInt)) ag22.h rfl .no (.tmp rfl rfl) rfl .h lv31_1 (fun w1983 => ?_)
   refine du ?_
   refine bnd hF fun r1984 hx1985 hF => Dx1 (s_l5Matches_ok _ _ _ _ _ _ _ hx1985) (fun p1986 => ?_)
   iterate 2 refine du ?_
   iterate 3 refine au ?_
   refine CW_block (K_frz .h frz_own ?_)
   refine CW_loop (m := r1984.length) (fun m2162 f' cs' => ∃ (g : Fr) (k2164 : Nat) (rest2165 : List Fact) (c2156 : List Fact) (c2159 : List Int) (v2157 : Sv) (F2158 : List Nat) (v2160 : Sv), m2162 = rest2165.length ∧ f' = updL g [(0, v0_0.v), (1, v1_0.v), (5, (pz k1)), (6, (pz k2)), (8, (pz k6)), (9, p9.1.v), (10, (.int .i64 (k1953 : Int))), (11, p1986.1.v), (12, (.int .i64 (k2164 : Int)))] ∧ List.drop k2164 r1984 = rest2165 ∧ Ent cs' [crd (RdS 65 rd65) v0_0.v a_l, crd (RdS 39 rd39) v1_0.v a_facts, cboR k1 54 (.agg [v2_0.v, v2_1.v, v2_2.v, (.int .i64 a_r.Rounds)].toArray), crd (RdS 39 rd39) v2_0.v a_r.Facts, crd (RdS 3 rdInt) v2_1.v a_r.Values, crd (RdS 31 rd31) v2_2.v a_r.Log, cbox k2 54 (.agg [(.slice none 0 0), (.slice none 0 0), (.slice none 0 0), (.int .i64 0)].toArray), cbox k6 54 (.agg [v2157.v, v2160.v, p1971.1.v, (.int .i64 r3.Rounds)].toArray), cown (OwnS 39 ow39) F2158 v2157.v c2156, crd (RdS 3 rdInt) v2160.v c2159, cown (OwnS 31 (roE rd31)) p1971.2 p1971.1.v z1969, crd (RdS 31 rd31) p9.1.v r7, crd (RdS 39 rd39) p1986.1.v r1984] ∧ s_l8Step_L21 z1969 rest2165 k2164 c2156 c2159 = some o1963) ⟨_, 0, _, _, _, v1943, F1944, v1946, rfl, eqA, rfl, entA, hF⟩ ?_
   rintro m2162 _ _ ⟨g2163, k2164, rest2165, c2156, c2159, v2157, F2158, v2160, rfl, rfl, hd2167, hE, hF⟩
   refine Kb hE r1984 (fun hbd2172 => ?_)
   rcases rest2165 with _ | ⟨x2166, rest2165⟩
   · have hk2168 := dn hd2167
     rw [s_l8Step_L21] at hF
     iterate 7 refine au ?_
     refine CdF ?_
     iterate 4 refine au ?_
     cases hF
     exact ⟨_, _, _, v2157, F2158, v2160, p1971.1, p1971.2, _, rfl, eqA, entA⟩
   obtain ⟨hk2168, hx2169, hd2170⟩ := drop_cons hd2167
   rw [s_l8Step_L21] at hF
   iterate 7 refine au ?_
   refine CdT ?_
   refine au ?_
   obtain ⟨o2173, hio2173, hO2174⟩ := bind_some hF
   refine K_cut (fun f' cs' => ∃ (c2232 : List Fact) (c2235 : List Int) (v2233 : Sv) (F2234 : List Nat) (v2236 : Sv) (g : Fr), o2173 = (c2232, c2235) ∧ f' = updL g [(0, v0_0.v), (1, v1_0.v), (5, (pz k1)), (6, (pz k2)), (8, (pz k6)), (9, p9.1.v), (10, (.int .i64 (k1953 : Int))), (11, p1986.1.v), (12, (.int .i64 (k2164 : Int)))] ∧ Ent cs' [crd (RdS 65 rd65) v0_0.v a_l, crd (RdS 39 rd39) v1_0.v a_facts, cboR k1 54 (.agg [v2_0.v, v2_1.v, v2_2.v, (.int .i64 a_r.Rounds)].toArray), crd (RdS 39 rd39) v2_0.v a_r.Facts, crd (RdS 3 rdInt) v2_1.v a_r.Values, crd (RdS 31 rd31) v2_2.v a_r.Log, cbox k2 54 (.agg [(.slice none 0 0), (.slice none 0 0), (.slice none 0 0), (.int .i64 0)].toArray), cbox k6 54 (.agg [v2233.v, v2236.v, p1971.1.v, (.int .i64 r3.Rounds)].toArray), cown (OwnS 39 ow39) F2234 v2233.v c2232, crd (RdS 3 rdInt) v2236.v c2235, cown (OwnS 31 (roE rd31)) p1971.2 p1971.1.v z1969, crd (RdS 31 rd31) p9.1.v r7, crd (RdS 39 rd39) p1986.1.v r1984]) ?_ ?_
   · replace hF := hio2173
     refine CW_block (K_draw [0, 1, 2, 3, 4, 5, 6, 7, 8] [0, 1, 0, 0, 12, 28, 63, 127, 255] [6, 8] mixed (by decide +kernel) ?_)
     refine du ?_
     refine D_atO rfl .no (.t (.t (.t (.t (.t (.t (.t .h))))))) (fun ha hp => V_load (v := v2157.v) ag37.h (EN ha (.tmp rfl rfl) rfl) hp.2 rfl rfl) ?_
     iterate 2 refine du ?_
     refine Di hx2169 (fun k2175 j2176 => ?_)
     refine DlA1 (ul39_0_39 x2166) la39_0_39 (fun p2177 => ?_)
     refine bnd hF fun r2178 hx2179 hF => D_act2 rfl rfl .no (.cons (.t (.t (.t (.t (.t (.t (.t (.t (.t (.t .h)))))))))) (.rd .h rfl .nil)) (.dep rfl .nil) (fun ha => XC_bor frz_own (fun _ => (.cons .nil)) (X_callS cf97.h (.cons (EN ha (.tmp rfl rfl) rfl) (.cons (EN ha (.tmp rfl rfl) rfl) .nil)) (s_AddFact_ok c2156 v2157 x2166 p2177 _ hx2179))) (fun p2180 => ?_)
     refine du ?_
     refine D_act1 rfl rfl .no (.cons (.t (.t (.t (.t (.t (.t (.t (.t (.t (.t (.t .h))))))))))) .nil) (.dep rfl .nil) (fun ha => X_storeB (e' := (.agg [p2180.1.v, v2160.v, p1971.1.v, (.int .i64 r3.Rounds)].toArray)) ty37.h.sz (EN ha (.tmp rfl rfl) rfl) (EN ha (.tmp rfl rfl) rfl) rfl rfl rfl rfl rfl) (fun _ => ?_)
     refine du ?_
     iterate 3 refine au ?_
     refine CW_block (CW_loop (m := (((x2166.Values.length : Int) - 0).toNat + 2)) (fun m2208 f' cs' => ∃ (g : Fr) (c2205 : List Int) (c2207 : Int) (v2206 : Sv), f' = updL g [(0, v0_0.v), (1, v1_0.v), (5, (pz k1)), (6, (pz k2)), (8, (pz k6)), (9, p9.1.v), (10, (.int .i64 (k1953 : Int))), (11, p1986.1.v), (12, (.int .i64 (k2164 : Int))), (13, (.int .i64 c2207))] ∧ Ent cs' [crd (RdS 65 rd65) v0_0.v a_l, crd (RdS 39 rd39) v1_0.v a_facts, cboR k1 54 (.agg [v2_0.v, v2_1.v, v2_2.v, (.int .i64 a_r.Rounds)].toArray), crd (RdS 39 rd39) v2_0.v a_r.Facts, crd (RdS 3 rdInt) v2_1.v a_r.Values, crd (RdS 31 rd31) v2_2.v a_r.Log, cbox k2 54 (.agg [(.slice none 0 0), (.slice none 0 0), (.slice none 0 0), (.int .i64 0)].toArray), cbox k6 54 (.agg [p2180.1.v, v2206.v, p1971.1.v, (.int .i64 r3.Rounds)].toArray), cown (OwnS 39 ow39) p2180.2 p2180.1.v r2178, crd (RdS 3 rdInt) v2206.v c2205, cown (OwnS 31 (roE rd31)) p1971.2 p1971.1.v z1969, crd (RdS 31 rd31) p9.1.v r7, crd (RdS 39 rd39) p1986.1.v r1984] ∧ s_l8Step_L24 x2166 r2178 m2208 c2205 c2207 = some o2173) ⟨_, _, _, v2160, eqA, entA, hF⟩ ?_)
     rintro m2208 _ _ ⟨g2209, c2205, c2207, v2206, rfl, hE, hF⟩
     refine K_ent hE ?_
     rcases m2208 with _ | m2208
     · rw [s_l8Step_L24] at hF
       exact absurd hF (by simp)
     rw [s_l8Step_L24] at hF
     iterate 5 refine au ?_
     refine Ai hx2169 (fun k2216 j2217 => ?_)
     refine au ?_
     refine C_ldV (R' := (RdS 3 rdInt)) ag22.h (.tmp rfl rfl) .h lv39_1 (fun w2218 => ?_)
     iterate 3 refine au ?_
     refine Ci hF (fun hb2231 hF => ?_) (fun hb2231 hF => ?_)
     · iterate 2 refine au ?_
       refine CW_draw [0, 1, 2, 3, 4, 5, 6, 7, 8, 9, 10, 11, 12] [0, 1, 0, 0, 12, 28, 60, 0, 252, 508, 1023, 2047, 4095] [10, 12] mixed (by decide +kernel) ?_
       refine du ?_
       refine D_atO rfl .no (.t (.t (.t (.t (.t (.t (.t (.t (.t .h))))))))) (fun ha hp => V_load (v := v2206.v) ag22.h (EN ha (.tmp rfl rfl) rfl) hp.2 rfl rfl) ?_
       iterate 2 refine du ?_
       refine Di hx2169 (fun k2219 j2220 => ?_)
       refine du ?_
       refine D_ldV (R' := (RdS 3 rdInt)) ag22.h rfl .no (.tmp rfl rfl) rfl .h lv39_1 (fun w2221 => ?_)
       refine du ?_
       refine bnd hF fun x2222 hx2223 hF => ?_
       obtain ⟨hp2224, hx2225⟩ := ix_some hx2223
       refine Di hx2225 (fun k2226 j2227 => ?_)
       refine Dl ls3_0 ?_
       refine bnd hF fun r2228 hx2229 hF => Dx1 (s_l3Put_ok _ _ _ _ hx2229) (fun p2230 => ?_)
       refine du ?_
       refine D_act1 rfl rfl .no (.cons (.t (.t (.t (.t (.t (.t (.t (.t (.t (.t (.t (.t (.t .h))))))))))))) .nil) (.dep rfl .nil) (fun ha => X_storeB (e' := (.agg [p2180.1.v, p2230.v, p1971.1.v, (.int .i64 r3.Rounds)].toArray)) ty22.h.sz (EN ha (.tmp rfl rfl) rfl) (EN ha (.tmp rfl rfl) rfl) rfl rfl rfl rfl rfl) (fun _ => ?_)
       refine du ?_
       iterate 5 refine au ?_
       exact ⟨m2208, Nat.lt_succ_self _, _, _, _, p2230, eqA, entA, hF⟩
     iterate 4 refine au ?_
     cases hF
     exact ⟨_, _, p2180.1, p2180.2, v2206, _, rfl, eqA, entA⟩
   rintro _ _ ⟨c2232, c2235, v2233, F2234, v2236, g2238, rfl, rfl, hE⟩
   replace hF := hO2174
   try dsimp only at hF
   refine K_ent hE ?_
   iterate 5 refine au ?_
   rw [wk k2164]
   exact ⟨_, Nat.lt_succ_self _, _, k2164 + 1, rest2165, _, _, v2233, F2234, v2236, rfl, eqA, hd2170, entA, hF⟩
 rintro _ _ ⟨c2239, c2242, c2244, v2240, F2241, v2243, v2245, F2246, g2248, rfl, rfl, hE⟩
 replace hF := hO1964
 try dsimp only at hF
 refine K_ent hE ?_
 iterate 5 refine au ?_
 rw [wk k1953]
 exact ⟨_, Nat.lt_succ_self _, _, k1953 + 1, rest1954, _, _, _, v2240, F2241, v2243, v2245, F2246, rfl, eqA, hd1959, entA, hF⟩
def s_StepReach (a_s : List Int) (a_l : List Method) (a_facts : List Fact) (a_r : Reached) : Option (Reached × Bool) :=
 ((s_AreMethods a_s a_l).bind fun r5 =>
   bif (!r5) then (some true)
   else ((s_AreFacts a_s a_facts).bind fun r9 =>
     bif (!r9) then (some true)
     else ((s_l8Values a_r.Values).bind fun r13 =>
       bif (!r13) then (some true)
       else ((s_AreFacts a_s a_r.Facts).bind fun r17 =>
         bif (!r17) then (some true)
         else ((s_l1In a_r.Rounds 0 100).bind fun r21 =>
           some (!r21)))))).bind fun o3 =>
 match o3 with
 | c24 => if c24 then (
     (s_l8Copy a_r).bind fun r25 =>
     some (r25, false))
   else (
     (s_l8Step a_l a_facts a_r).bind fun r28 =>
     some (r28.1, r28.2))
theorem s_StepReach_ok (a_s : List Int) (v0_0 : Sv) (a_l : List Method) (v1_0 : Sv) (a_facts : List Fact) (v2_0 : Sv) (a_r : Reached) (v3_0 : Sv) (v3_1 : Sv) (v3_2 : Sv) (R : Reached × Bool) (hF : s_StepReach a_s a_l a_facts a_r = some R) :
   Fw.Spec Tryz.prog 44 [v0_0.v, v1_0.v, v2_0.v, (.agg [v3_0.v, v3_1.v, v3_2.v, (.int .i64 a_r.Rounds)].toArray)] [crd (RdS 3 rdInt) v0_0.v a_s, crd (RdS 65 rd65) v1_0.v a_l, crd (RdS 39 rd39) v2_0.v a_facts, crd (RdS 39 rd39) v3_0.v a_r.Facts, crd (RdS 3 rdInt) v3_1.v a_r.Values, crd (RdS 31 rd31) v3_2.v a_r.Log] (fun p : Sv × List Nat × Sv × Sv => (.tuple [(.agg [p.1.v, p.2.2.1.v, p.2.2.2.v, (.int .i64 R.1.Rounds)].toArray), (.bool R.2)].toArray)) (fun p => [cown (OwnS 39 ow39) p.2.1 p.1.v R.1.Facts, crd (RdS 3 rdInt) p.2.2.1.v R.1.Values, crd (RdS 31 rd31) p.2.2.2.v R.1.Log]) := by
 refine Se 52 Tryz.func44 [.cell 8 54, .tmp 9] ?_
 intro H0 F0
 unfold s_StepReach at hF
 refine au ?_
 refine AbR (fun k1 => ?_)
 refine AnW (fun k2 => ?_)
 iterate 3 refine au ?_
 obtain ⟨o3, hio3, hO4⟩ := bind_some hF
 refine au ?_
 refine C_cut (fun f' cs' => ∃ (c24 : Bool) (g : Fr), c24 = o3 ∧ f' = updL g [(1, v1_0.v), (2, v2_0.v), (7, (pz k1)), (8, (pz k2)), (40, (.bool c24))] ∧ Ent cs' [crd (RdS 65 rd65) v1_0.v a_l, crd (RdS 39 rd39) v2_0.v a_facts, cboR k1 54 (.agg [v3_0.v, v3_1.v, v3_2.v, (.int .i64 a_r.Rounds)].toArray), crd (RdS 39 rd39) v3_0.v a_r.Facts, crd (RdS 3 rdInt) v3_1.v a_r.Values, crd (RdS 31 rd31) v3_2.v a_r.Log, cbox k2 54 (.agg [(.slice none 0 0), (.slice none 0 0), (.slice none 0 0), (.int .i64 0)].toArray)]) ?_ ?_
 · replace hF := hio3
   iterate 2 refine au ?_
   refine bnd hF fun r5 hx6 hF => Cx0 (s_AreMethods_ok _ _ _ _ _ hx6) (fun _ => ?_)
   iterate 2 refine au ?_
   rcases Bool.eq_false_or_eq_true (!r5) with hg8 | hg8
   · rw [hg8]
     try rw [hg8] at hF; dsimp only [cond_true, cond_false] at hF
     iterate 25 refine au ?_
     cases hF
     exact ⟨_, _, rfl, eqA, entA⟩
   rw [hg8]
   try rw [hg8] at hF; dsimp only [cond_true, cond_false] at hF
   iterate 5 refine au ?_
   refine bnd hF fun r9 hx10 hF => Cx0 (s_AreFacts_ok _ _ _ _ _ hx10) (fun _ => ?_)
   iterate 4 refine au ?_
   rcases Bool.eq_false_or_eq_true (!r9) with hg12 | hg12
   · rw [hg12]
     try rw [hg12] at hF; dsimp only [cond_true, cond_false] at hF
     iterate 19 refine au ?_
     cases hF
     exact ⟨_, _, rfl, eqA, entA⟩
   rw [hg12]
   try rw [hg12] at hF; dsimp only [cond_true, cond_false] at hF
   iterate 5 refine au ?_
   refine bnd hF fun r13 hx14 hF => Cx0 (s_l8Values_ok _ _ _ hx14) (fun _ => ?_)
   iterate 4 refine au ?_
   rcases Bool.eq_false_or_eq_true (!r13) with hg16 | hg16
   · rw [hg16]
     try rw [hg16] at hF; dsimp only [cond_true, cond_false] at hF
     iterate 13 refine au ?_
     cases hF
     exact ⟨_, _, rfl, eqA, entA⟩
   rw [hg16]
   try rw [hg16] at hF; dsimp only [cond_true, cond_false] at hF
   iterate 7 refine au ?_
   refine bnd hF fun r17 hx18 hF => Cx0 (s_AreFacts_ok _ _ _ _ _ hx18) (fun _ => ?_)
   iterate 4 refine au ?_
   rcases Bool.eq_false_or_eq_true (!r17) with hg20 | hg20
   · rw [hg20]
     try rw [hg20] at hF; dsimp only [cond_true, cond_false] at hF
     iterate 6 refine au ?_
     cases hF
     exact ⟨_, _, rfl, eqA, entA⟩
   rw [hg20]
   try rw [hg20] at hF; dsimp only [cond_true, cond_false] at hF
   iterate 5 refine au ?_
   refine bnd hF fun r21 hx22 hF => Cx0 (s_l1In_ok _ _ _ _ hx22) (fun _ => ?_)
   iterate 4 refine au ?_
   cases hF
   exact ⟨_, _, rfl, eqA, entA⟩
 rintro _ _ ⟨c24, g33, rfl, rfl, hE⟩
 replace hF := hO4
 try dsimp only at hF
 refine K_ent hE ?_
 refine Ci hF (fun hb32 hF => ?_) (fun hb32 hF => ?_)
 · iterate 2 refine au ?_
   refine bnd hF fun r25 hx26 hF => Cx3 (s_l8Copy_ok _ _ _ _ _ hx26) (fun p27 => ?_)
   refine As (.agg [p27.1.v, p27.2.2.1.v, p27.2.2.2.2.1.v, (.int .i64 r25.Rounds)].toArray) ?_
   iterate 3 refine au ?_
   cases hF
   exact End_ret (p27.1, p27.2.1, p27.2.2.1, p27.2.2.2.2.1) (.cellA rfl rfl .h rfl ag54.h ty54.h.sz rfl rfl (.tmp rfl rfl .nil)) rfl (.frz (.t (.t .h)) frz_own (.frz (.t (.t (.t .h))) frz_own (.sel (.cons (.t (.t (.t .h))) (.rd (.t .h) rfl (.rd .h rfl .nil))))))
 iterate 5 refine au ?_
 refine bnd hF fun r28 hx29 hF => Cx3 (s_l8Step_ok _ _ _ _ _ _ _ _ _ hx29) (fun p30 => ?_)
 refine au ?_
 refine C_val (V_extract (l := [(.agg [p30.1.v, p30.2.2.1.v, p30.2.2.2.v, (.int .i64 r28.1.Rounds)].toArray), (.bool r28.2)]) (v := (.agg [p30.1.v, p30.2.2.1.v, p30.2.2.2.v, (.int .i64 r28.1.Rounds)].toArray)) (.tmp rfl rfl) rfl) ?_
 refine C_val (V_extract (l := [(.agg [p30.1.v, p30.2.2.1.v, p30.2.2.2.v, (.int .i64 r28.1.Rounds)].toArray), (.bool r28.2)]) (v := (.bool r28.2)) (.tmp rfl rfl) rfl) ?_
 refine AnW (fun k31 => ?_)
 refine As (.agg [p30.1.v, p30.2.2.1.v, p30.2.2.2.v, (.int .i64 r28.1.Rounds)].toArray) ?_
 iterate 5 refine au ?_
 refine As (.agg [p30.1.v, p30.2.2.1.v, p30.2.2.2.v, (.int .i64 r28.1.Rounds)].toArray) ?_
 iterate 3 refine au ?_
 cases hF
 exact End_ret (p30.1, p30.2.1, p30.2.2.1, p30.2.2.2) (.cellA rfl rfl .h rfl ag54.h ty54.h.sz rfl rfl (.tmp rfl rfl .nil)) rfl (.sel (.cons (.t (.t .h)) (.rd (.t (.t .h)) rfl (.rd (.t (.t (.t .h))) rfl .nil))))
def s_ReachAll_L1 (a_s : List Int) (a_l : List Method) (a_facts : List Fact) : Nat → (List Fact) → (List Int) → (List Access) → Int → Int → Option (Reached)
 | 0, _, _, _, _, _ => none
 | m50 + 1, c41, c44, c46, c48, c49 => if (decide ((c49 : Int) < 40)) then (
     (s_StepReach a_s a_l a_facts ({ Facts := c41, Values := c44, Log := c46, Rounds := c48 } : Reached)).bind fun r58 =>
     if (!r58.2) then (
       some ({ Facts := c41, Values := c44, Log := c46, Rounds := c48 } : Reached))
     else (
       s_ReachAll_L1 a_s a_l a_facts m50 r58.1.Facts r58.1.Values r58.1.Log r58.1.Rounds (IntKind.i64.wrap (c49 + 1))))
   else (
     some ({ Facts := c41, Values := c44, Log := c46, Rounds := c48 } : Reached))
def s_ReachAll (a_s : List Int) (a_l : List Method) (a_facts : List Fact) (a_seeds : List Int) : Option (Reached) :=
 (s_StartReach a_seeds).bind fun r2 =>
 s_ReachAll_L1 a_s a_l a_facts (((40 : Int) - 0).toNat + 2) r2.Facts r2.Values r2.Log r2.Rounds 0
theorem s_ReachAll_ok (a_s : List Int) (v0_0 : Sv) (a_l : List Method) (v1_0 : Sv) (a_facts : List Fact) (v2_0 : Sv) (a_seeds : List Int) (v3_0 : Sv) (R : Reached) (hF : s_ReachAll a_s a_l a_facts a_seeds = some R) :
   Fw.Spec Tryz.prog 25 [v0_0.v, v1_0.v, v2_0.v, v3_0.v] [crd (RdS 3 rdInt) v0_0.v a_s, crd (RdS 65 rd65) v1_0.v a_l, crd (RdS 39 rd39) v2_0.v a_facts, crd (RdS 3 rdInt) v3_0.v a_seeds] (fun p : Sv × Sv × Sv => (.agg [p.1.v, p.2.1.v, p.2.2.v, (.int .i64 R.Rounds)].toArray)) (fun p => [crd (RdS 39 rd39) p.1.v R.Facts, crd (RdS 3 rdInt) p.2.1.v R.Values, crd (RdS 31 rd31) p.2.2.v R.Log]) := by
 refine Se 32 Tryz.func25 [.cell 8 54] ?_
 intro H0 F0
 unfold s_ReachAll at hF
 refine au ?_
 refine AnW (fun k1 => ?_)
 iterate 3 refine au ?_
 refine bnd hF fun r2 hx3 hF => Cx3 (s_StartReach_ok _ _ _ hx3) (fun p4 => ?_)
 refine AnW (fun k5 => ?_)
 refine As (.agg [p4.1.v, p4.2.2.1.v, p4.2.2.2.1.v, (.int .i64 r2.Rounds)].toArray) ?_
 iterate 5 refine au ?_
 refine CW_block (CW_loop (m := (((40 : Int) - 0).toNat + 2)) (fun m50 f' cs' => ∃ (g : Fr) (c41 : List Fact) (c44 : List Int) (c46 : List Access) (c48 : Int) (c49 : Int) (v42 : Sv) (F43 : List Nat) (v45 : Sv) (v47 : Sv), f' = updL g [(0, v0_0.v), (1, v1_0.v), (2, v2_0.v), (8, (pz k1)), (9, (pz k5)), (10, (.int .i64 c49))] ∧ Ent cs' [crd (RdS 3 rdInt) v0_0.v a_s, crd (RdS 65 rd65) v1_0.v a_l, crd (RdS 39 rd39) v2_0.v a_facts, cbox k1 54 (.agg [(.slice none 0 0), (.slice none 0 0), (.slice none 0 0), (.int .i64 0)].toArray), cbox k5 54 (.agg [v42.v, v45.v, v47.v, (.int .i64 c48)].toArray), cown (OwnS 39 ow39) F43 v42.v c41, crd (RdS 3 rdInt) v45.v c44, crd (RdS 31 rd31) v47.v c46] ∧ s_ReachAll_L1 a_s a_l a_facts m50 c41 c44 c46 c48 c49 = some R) ⟨_, _, _, _, _, _, p4.1, p4.2.1, p4.2.2.1, p4.2.2.2.1, eqA, (.frz (.t (.t (.t .h))) frz_own entA), hF⟩ ?_)
 rintro m50 _ _ ⟨g51, c41, c44, c46, c48, c49, v42, F43, v45, v47, rfl, hE, hF⟩
 refine K_ent hE ?_
 rcases m50 with _ | m50
 · rw [s_ReachAll_L1] at hF
   exact absurd hF (by simp)
 rw [s_ReachAll_L1] at hF
 iterate 5 refine au ?_
 refine Ci hF (fun hb63 hF => ?_) (fun hb63 hF => ?_)
 · iterate 2 refine au ?_
   refine K_frz (.t (.t (.t (.t (.t .h))))) frz_own ?_
   iterate 5 refine au ?_
   refine bnd hF fun r58 hx59 hF => Cx3 (s_StepReach_ok _ _ _ _ _ _ _ _ _ _ _ hx59) (fun p60 => ?_)
   refine au ?_
   refine C_val (V_extract (l := [(.agg [p60.1.v, p60.2.2.1.v, p60.2.2.2.v, (.int .i64 r58.1.Rounds)].toArray), (.bool r58.2)]) (v := (.agg [p60.1.v, p60.2.2.1.v, p60.2.2.2.v, (.int .i64 r58.1.Rounds)].toArray)) (.tmp rfl rfl) rfl) ?_
   refine C_val (V_extract (l := [(.agg [p60.1.v, p60.2.2.1.v, p60.2.2.2.v, (.int .i64 r58.1.Rounds)].toArray), (.bool r58.2)]) (v := (.bool r58.2)) (.tmp rfl rfl) rfl) ?_
   refine AnW (fun k61 => ?_)
   refine As (.agg [p60.1.v, p60.2.2.1.v, p60.2.2.2.v, (.int .i64 r58.1.Rounds)].toArray) ?_
   iterate 7 refine au ?_
   refine Ci hF (fun hb62 hF => ?_) (fun hb62 hF => ?_)
   · iterate 2 refine au ?_
     refine As (.agg [v42.v, v45.v, v47.v, (.int .i64 c48)].toArray) ?_
     iterate 2 refine au ?_
     cases hF
     exact Er (v42, v45, v47)
   iterate 3 refine au ?_
   refine As (.agg [p60.1.v, p60.2.2.1.v, p60.2.2.2.v, (.int .i64 r58.1.Rounds)].toArray) ?_
   iterate 6 refine au ?_
   exact ⟨m50, Nat.lt_succ_self _, _, _, _, _, _, _, p60.1, p60.2.1, p60.2.2.1, p60.2.2.2, eqA, entA, hF⟩
 iterate 6 refine au ?_
 refine As (.agg [v42.v, v45.v, v47.v, (.int .i64 c48)].toArray) ?_
 iterate 2 refine au ?_
 cases hF
 exact End_ret (v42, v45, v47) (.cellA rfl rfl .h rfl ag54.h ty54.h.sz rfl rfl .nil) rfl (.frz (.t (.t (.t (.t (.t .h))))) frz_own (.sel (.rd .h rfl (.rd (.t (.t (.t (.t (.t (.t .h)))))) rfl (.rd (.t (.t (.t (.t (.t (.t (.t .h))))))) rfl .nil)))))
def s_IsAccess_L1 : List Int → Nat → Option (Bool)
 | [], k23 => some true
 | x25 :: rest24, k23 => (s_l1In x25 0 9).bind fun r34 =>
   if (!r34) then (
     some false)
   else (
     s_IsAccess_L1 rest24 (k23 + 1))
def s_IsAccess (a_s : List Int) (a_l : List Method) (a_a : Access) : Option (Bool) :=
 ((s_AreMethods a_s a_l).bind fun r4 =>
   bif (!r4) then (some true)
   else ((s_l1In a_a.Method 0 (IntKind.i64.wrap ((a_l.length : Int) - 1))).bind fun r8 =>
     bif (!r8) then (some true)
     else ((ix a_l a_a.Method).bind fun x12 =>
       some (((a_a.Values.length : Int) : Int) != (x12.Inputs.length : Int))))).bind fun o2 =>
 match o2 with
 | c19 => if c19 then (
     some false)
   else (
     s_IsAccess_L1 a_a.Values 0)
theorem s_IsAccess_ok (a_s : List Int) (v0_0 : Sv) (a_l : List Method) (v1_0 : Sv) (a_a : Access) (v2_1 : Sv) (R : Bool) (hF : s_IsAccess a_s a_l a_a = some R) :
   Fw.Spec Tryz.prog 51 [v0_0.v, v1_0.v, (.agg [(.int .i64 a_a.Method), v2_1.v].toArray)] [crd (RdS 3 rdInt) v0_0.v a_s, crd (RdS 65 rd65) v1_0.v a_l, crd (RdS 3 rdInt) v2_1.v a_a.Values] (fun _ : Unit => (.bool R)) (fun _ => []) := by
 refine Se 48 Tryz.func51 [.tmp 6] ?_
 intro H0 F0
 unfold s_IsAccess at hF
 refine au ?_
 refine AbR (fun k1 => ?_)
 iterate 3 refine au ?_
 obtain ⟨o2, hio2, hO3⟩ := bind_some hF
 refine K_draw [0, 1, 2, 3, 4, 5, 6, 7, 8, 9, 10, 11, 12, 13, 14, 15, 16, 17, 18, 19, 20, 21, 22, 23, 24, 25] [0, 0, 3, 7, 15, 31, 63, 31, 159, 415, 1023, 2047, 4095, 8191, 16383, 32767, 65535, 16383, 16383, 278527, 933887, 1982463, 4079615, 8273919, 16777215, 33554431] [2, 10] mixed (by decide +kernel) ?_
 refine D_cut (fun f' cs' => ∃ (c19 : Bool) (g : Fr), c19 = o2 ∧ f' = updL g [(5, (pz k1)), (33, (.bool c19))] ∧ Ent cs' [cboR k1 31 (.agg [(.int .i64 a_a.Method), v2_1.v].toArray), crd (RdS 3 rdInt) v2_1.v a_a.Values]) ?_ ?_
 · replace hF := hio2
   iterate 2 refine du ?_
   refine bnd hF fun r4 hx5 hF => Dx0 (s_AreMethods_ok _ _ _ _ _ hx5) (fun _ => ?_)
   iterate 2 refine du ?_
   rcases Bool.eq_false_or_eq_true (!r4) with hg7 | hg7
   · rw [hg7]
     try rw [hg7] at hF; dsimp only [cond_true, cond_false] at hF
     iterate 22 refine du ?_
     cases hF
     exact ⟨_, _, rfl, eqA, entA⟩
   rw [hg7]
   try rw [hg7] at hF; dsimp only [cond_true, cond_false] at hF
   iterate 5 refine du ?_
   refine bnd hF fun r8 hx9 hF => Dx0 (s_l1In_ok _ _ _ _ hx9) (fun _ => ?_)
   iterate 3 refine du ?_
   rcases Bool.eq_false_or_eq_true (!r8) with hg11 | hg11
   · rw [hg11]
     try rw [hg11] at hF; dsimp only [cond_true, cond_false] at hF
     iterate 13 refine du ?_
     cases hF
     exact ⟨_, _, rfl, eqA, entA⟩
   rw [hg11]
   try rw [hg11] at hF; dsimp only [cond_true, cond_false] at hF
   iterate 6 refine du ?_
   refine bnd hF fun x12 hx13 hF => ?_
   obtain ⟨hp14, hx15⟩ := ix_some hx13
   refine Di hx15 (fun k16 j17 => ?_)
   refine du ?_
   refine D_ldV (R' := (RdS 3 rdInt)) ag22.h rfl (.on 21 rfl rfl rfl) (.tmp rfl rfl) rfl .h lv65_1 (fun w18 => ?_)
   iterate 4 refine du ?_
   cases hF
   exact ⟨_, _, rfl, eqA, entA⟩
 rintro _ _ ⟨c19, g40, rfl, rfl, hE⟩
 replace hF := hO3
 try dsimp only at hF
 refine K_ent hE ?_
 refine Ci hF (fun hb39 hF => ?_) (fun hb39 hF => ?_)
 · iterate 4 refine au ?_
   cases hF
   exact Er ()
 iterate 5 refine au ?_
 refine CW_block (CW_loop (m := a_a.Values.length) (fun m21 f' cs' => ∃ (g : Fr) (k23 : Nat) (rest24 : List Int), m21 = rest24.length ∧ f' = updL g [(5, (pz k1)), (7, (.int .i64 (k23 : Int)))] ∧ List.drop k23 a_a.Values = rest24 ∧ Ent cs' [cboR k1 31 (.agg [(.int .i64 a_a.Method), v2_1.v].toArray), crd (RdS 3 rdInt) v2_1.v a_a.Values] ∧ s_IsAccess_L1 rest24 k23 = some R) ⟨_, 0, _, rfl, eqA, rfl, entA, hF⟩ ?_)
 rintro m21 _ _ ⟨g22, k23, rest24, rfl, rfl, hd26, hE, hF⟩
 refine Kb hE a_a.Values (fun hbd31 => ?_)
 rcases rest24 with _ | ⟨x25, rest24⟩
 · have hk27 := dn hd26
   rw [s_IsAccess_L1] at hF
   iterate 8 refine au ?_
   refine CdF ?_
   iterate 8 refine au ?_
   cases hF
   exact Er ()
 obtain ⟨hk27, hx28, hd29⟩ := drop_cons hd26
 rw [s_IsAccess_L1] at hF
 iterate 8 refine au ?_
 refine CdT ?_
 iterate 6 refine au ?_
 refine Ai hx28 (fun k32 j33 => ?_)
 refine Al ls3_0 ?_
 refine bnd hF fun r34 hx35 hF => Cx0 (s_l1In_ok _ _ _ _ hx35) (fun _ => ?_)
 iterate 2 refine au ?_
 refine Ci hF (fun hb38 hF => ?_) (fun hb38 hF => ?_)
 · iterate 4 refine au ?_
   cases hF
   exact Er ()
 iterate 6 refine au ?_
 rw [wk k23]
 exact ⟨_, Nat.lt_succ_self _, _, k23 + 1, rest24, rfl, eqA, hd29, entA, hF⟩
def s_MatchesOf (a_s : List Int) (a_l : List Method) (a_facts : List Fact) (a_a : Access) : Option ((List Fact)) :=
 ((s_IsAccess a_s a_l a_a).bind fun r4 =>
   bif (!r4) then (some true)
   else ((s_AreFacts a_s a_facts).bind fun r8 =>
     some (!r8))).bind fun o2 =>
 match o2 with
 | c11 => if c11 then (
     some ([] : List Fact))
   else (
     (ix a_l a_a.Method).bind fun x13 =>
     (s_l5Matches x13 a_a.Values a_facts).bind fun r20 =>
     some r20)
theorem s_MatchesOf_ok (a_s : List Int) (v0_0 : Sv) (a_l : List Method) (v1_0 : Sv) (a_facts : List Fact) (v2_0 : Sv) (a_a : Access) (v3_1 : Sv) (R : (List Fact)) (hF : s_MatchesOf a_s a_l a_facts a_a = some R) :
   Fw.Spec Tryz.prog 33 [v0_0.v, v1_0.v, v2_0.v, (.agg [(.int .i64 a_a.Method), v3_1.v].toArray)] [crd (RdS 3 rdInt) v0_0.v a_s, crd (RdS 65 rd65) v1_0.v a_l, crd (RdS 39 rd39) v2_0.v a_facts, crd (RdS 3 rdInt) v3_1.v a_a.Values] (fun p : Sv × List Nat => p.1.v) (fun p => [cown (OwnS 39 ow39) p.2 p.1.v R]) := by
 refine Se 30 Tryz.func33 [.tmp 8] ?_
 intro H0 F0
 unfold s_MatchesOf at hF
 refine au ?_
 refine AbR (fun k1 => ?_)
 iterate 3 refine au ?_
 obtain ⟨o2, hio2, hO3⟩ := bind_some hF
 refine au ?_
 refine C_cut (fun f' cs' => ∃ (c11 : Bool) (g : Fr), c11 = o2 ∧ f' = updL g [(1, v1_0.v), (2, v2_0.v), (7, (pz k1)), (19, (.bool c11))] ∧ Ent cs' [crd (RdS 65 rd65) v1_0.v a_l, crd (RdS 39 rd39) v2_0.v a_facts, cboR k1 31 (.agg [(.int .i64 a_a.Method), v3_1.v].toArray), crd (RdS 3 rdInt) v3_1.v a_a.Values]) ?_ ?_
 · replace hF := hio2
   iterate 3 refine au ?_
   refine bnd hF fun r4 hx5 hF => Cx0 (s_IsAccess_ok _ _ _ _ _ _ _ hx5) (fun _ => ?_)
   iterate 2 refine au ?_
   rcases Bool.eq_false_or_eq_true (!r4) with hg7 | hg7
   · rw [hg7]
     try rw [hg7] at hF; dsimp only [cond_true, cond_false] at hF
     iterate 6 refine au ?_
     cases hF
     exact ⟨_, _, rfl, eqA, entA⟩
   rw [hg7]
   try rw [hg7] at hF; dsimp only [cond_true, cond_false] at hF
   iterate 5 refine au ?_
   refine bnd hF fun r8 hx9 hF => Cx0 (s_AreFacts_ok _ _ _ _ _ hx9) (fun _ => ?_)
   iterate 4 refine au ?_
   cases hF
   exact ⟨_, _, rfl, eqA, entA⟩
 rintro _ _ ⟨c11, g24, rfl, rfl, hE⟩
 replace hF := hO3
 try dsimp only at hF
 refine K_ent hE ?_
 refine Ci hF (fun hb23 hF => ?_) (fun hb23 hF => ?_)
 · refine au ?_
   refine C_new rfl (N_buildSliceT (g := true) sl37.h ty39.h .nil (vs := []) rfl rfl rfl (by simp)) (fun k12 => ?_)
   refine Cv1 (.cons .h .nil) (own_lit (Ro := ow39) (E := 39) (F := []) (xs := ([] : List Fact)) MkL_nil rfl rfl) ?_
   iterate 3 refine au ?_
   cases hF
   exact Er (⟨(some ⟨k12, 0, none⟩), 0, 1⟩, (k12 :: []))
 refine au ?_
 refine K_draw [0, 1, 2, 3, 4, 5, 6, 7, 8, 9] [0, 0, 2, 7, 15, 0, 32, 0, 255, 511] [8] mixed (by decide +kernel) ?_
 iterate 3 refine du ?_
 refine bnd hF fun x13 hx14 hF => ?_
 obtain ⟨hp15, hx16⟩ := ix_some hx14
 refine Di hx16 (fun k17 j18 => ?_)
 refine DlA1 (ul65_0_65 x13) la65_0_65 (fun p19 => ?_)
 iterate 3 refine du ?_
 refine bnd hF fun r20 hx21 hF => Dx1 (s_l5Matches_ok _ _ _ _ _ _ _ hx21) (fun p22 => ?_)
 iterate 2 refine du ?_
 refine au ?_
 cases hF
 exact Er (p22.1, p22.2)
def s_WhyReached_L1 (a_s : List Int) (a_l : List Method) (a_facts : List Fact) (a_f : Fact) : List Access → Nat → Option (Access × Bool)
 | [], k10 => some (({ Method := 0, Values := [] } : Access), false)
 | x12 :: rest11, k10 => (s_MatchesOf a_s a_l a_facts x12).bind fun r22 =>
   (s_HasFact r22 a_f).bind fun r25 =>
   if r25 then (
     (s_l8Access x12.Method x12.Values).bind fun r33 =>
     some (r33, true))
   else (
     s_WhyReached_L1 a_s a_l a_facts a_f rest11 (k10 + 1))
def s_WhyReached (a_s : List Int) (a_l : List Method) (a_facts : List Fact) (a_seeds : List Int) (a_f : Fact) : Option (Access × Bool) :=
 (s_ReachAll a_s a_l a_facts a_seeds).bind fun r3 =>
 s_WhyReached_L1 a_s a_l a_facts a_f r3.Log 0
theorem s_WhyReached_ok (a_s : List Int) (v0_0 : Sv) (a_l : List Method) (v1_0 : Sv) (a_facts : List Fact) (v2_0 : Sv) (a_seeds : List Int) (v3_0 : Sv) (a_f : Fact) (v4_1 : Sv) (R : Access × Bool) (hF : s_WhyReached a_s a_l a_facts a_seeds a_f = some R) :
   Fw.Spec Tryz.prog 8 [v0_0.v, v1_0.v, v2_0.v, v3_0.v, (.agg [(.int .i64 a_f.Rel), v4_1.v].toArray)] [crd (RdS 3 rdInt) v0_0.v a_s, crd (RdS 65 rd65) v1_0.v a_l, crd (RdS 39 rd39) v2_0.v a_facts, crd (RdS 3 rdInt) v3_0.v a_seeds, crd (RdS 3 rdInt) v4_1.v a_f.Values] (fun p : Sv × List Nat => (.tuple [(.agg [(.int .i64 R.1.Method), p.1.v].toArray), (.bool R.2)].toArray)) (fun p => [cown (OwnS 3 (roE rdInt)) p.2 p.1.v R.1.Values]) := by
 refine Se 51 Tryz.func8 [.cell 10 31, .tmp 11] ?_
 intro H0 F0
 unfold s_WhyReached at hF
 refine au ?_
 refine AbR (fun k1 => ?_)
 refine AnW (fun k2 => ?_)
 iterate 7 refine au ?_
 refine bnd hF fun r3 hx4 hF => Cx3 (s_ReachAll_ok _ _ _ _ _ _ _ _ _ hx4) (fun p5 => ?_)
 refine AnW (fun k6 => ?_)
 refine As (.agg [p5.1.v, p5.2.1.v, p5.2.2.v, (.int .i64 r3.Rounds)].toArray) ?_
 iterate 5 refine au ?_
 refine CW_block (CW_loop (m := r3.Log.length) (fun m8 f' cs' => ∃ (g : Fr) (k10 : Nat) (rest11 : List Access), m8 = rest11.length ∧ f' = updL g [(0, v0_0.v), (1, v1_0.v), (2, v2_0.v), (9, (pz k1)), (10, (pz k2)), (12, (pz k6)), (13, (.int .i64 (k10 : Int)))] ∧ List.drop k10 r3.Log = rest11 ∧ Ent cs' [crd (RdS 3 rdInt) v0_0.v a_s, crd (RdS 65 rd65) v1_0.v a_l, crd (RdS 39 rd39) v2_0.v a_facts, cboR k1 39 (.agg [(.int .i64 a_f.Rel), v4_1.v].toArray), crd (RdS 3 rdInt) v4_1.v a_f.Values, cbox k2 31 (.agg [(.int .i64 0), (.slice none 0 0)].toArray), cbox k6 54 (.agg [p5.1.v, p5.2.1.v, p5.2.2.v, (.int .i64 r3.Rounds)].toArray), crd (RdS 39 rd39) p5.1.v r3.Facts, crd (RdS 3 rdInt) p5.2.1.v r3.Values, crd (RdS 31 rd31) p5.2.2.v r3.Log] ∧ s_WhyReached_L1 a_s a_l a_facts a_f rest11 k10 = some R) ⟨_, 0, _, rfl, eqA, rfl, entA, hF⟩ ?_)
 rintro m8 _ _ ⟨g9, k10, rest11, rfl, rfl, hd13, hE, hF⟩
 refine Kb hE r3.Log (fun hbd18 => ?_)
 rcases rest11 with _ | ⟨x12, rest11⟩
 · have hk14 := dn hd13
   rw [s_WhyReached_L1] at hF
   iterate 8 refine au ?_
   refine CdF ?_
   iterate 5 refine au ?_
   refine C_val (V_build ty31.h rfl (vs := []) .nil (cells := [(.int .i64 0), (.slice none 0 0)]) rfl) ?_
   refine As (.agg [(.int .i64 0), (.slice none 0 0)].toArray) ?_
   iterate 3 refine au ?_
   cases hF
   exact End_ret (⟨none, 0, 0⟩, []) (.cellA rfl rfl .h rfl ag31.h ty31.h.sz rfl rfl (.tmp rfl rfl .nil)) rfl (.conv .nil (own_nil (Ro := (roE rdInt)) (E := 3)) (.cons .nil) (.sel (.cons .h .nil)))
 obtain ⟨hk14, hx15, hd16⟩ := drop_cons hd13
 rw [s_WhyReached_L1] at hF
 iterate 8 refine au ?_
 refine CdT ?_
 iterate 2 refine au ?_
 refine K_draw [0, 1, 2, 3, 4, 5, 6, 7, 9, 8, 10] [0, 0, 0, 0, 8, 0, 56, 120, 255, 0, 1023] [8, 10] mixed (by decide +kernel) ?_
 iterate 4 refine du ?_
 refine D_atO rfl .no (.t (.t (.t (.t (.t (.t .h)))))) (fun ha hp => V_load (v := p5.2.2.v) ag52.h (EN ha (.tmp rfl rfl) rfl) hp.2 rfl rfl) ?_
 refine du ?_
 refine Di hx15 (fun k19 j20 => ?_)
 refine DlA1 (ul31_0_31 x12) la31_0_31 (fun p21 => ?_)
 refine du ?_
 refine bnd hF fun r22 hx23 hF => Dx1 (s_MatchesOf_ok _ _ _ _ _ _ _ _ _ hx23) (fun p24 => ?_)
 refine bnd hF fun r25 hx26 hF => D_act1 rfl rfl .no (.cons .h (.rd (.t (.t (.t (.t (.t (.t .h)))))) rfl .nil)) (.dep rfl .nil) (fun ha => XC_bor frz_own (fun _ => .nil) (X_callS cf32.h (.cons (EN ha (.tmp rfl rfl) rfl) (.cons (EN ha (.tmp rfl rfl) rfl) .nil)) (s_HasFact_ok r22 p24.1 a_f v4_1 _ hx26))) (fun _ => ?_)
 refine du ?_
 refine Ci hF (fun hb37 hF => ?_) (fun hb37 hF => ?_)
 · refine K_draw [0, 1, 2, 3, 4, 5, 6, 7, 8, 9, 10, 11, 12, 13, 14] [0, 1, 0, 7, 15, 31, 0, 64, 0, 448, 960, 1984, 4095, 8191, 16383] [12, 13] mixed (by decide +kernel) ?_
   refine du ?_
   refine D_atO rfl .no (.t (.t (.t (.t (.t (.t (.t (.t (.t .h))))))))) (fun ha hp => V_load (v := p5.2.2.v) ag52.h (EN ha (.tmp rfl rfl) rfl) hp.2 rfl rfl) ?_
   refine du ?_
   refine Di hx15 (fun k28 j29 => ?_)
   refine du ?_
   refine Dl ls31_0 ?_
   refine du ?_
   refine D_atO rfl .no (.t (.t (.t (.t (.t (.t (.t (.t (.t (.t .h)))))))))) (fun ha hp => V_load (v := p5.2.2.v) ag52.h (EN ha (.tmp rfl rfl) rfl) hp.2 rfl rfl) ?_
   refine du ?_
   refine Di hx15 (fun k30 j31 => ?_)
   refine du ?_
   refine D_ldV (R' := (RdS 3 rdInt)) ag22.h rfl .no (.tmp rfl rfl) rfl .h lv31_1 (fun w32 => ?_)
   refine bnd hF fun r33 hx34 hF => Dx1 (s_l8Access_ok _ _ _ _ hx34) (fun p35 => ?_)
   refine D_act1 rfl rfl .no (.cons (.t (.t (.t (.t (.t (.t (.t (.t (.t (.t (.t (.t .h)))))))))))) .nil) (.dep rfl (.dep rfl .nil)) (fun ha => X_storeB (e' := (.agg [(.int .i64 r33.Method), p35.1.v].toArray)) (v := (.agg [(.int .i64 r33.Method), p35.1.v].toArray)) ty31.h.sz (EN ha (.tmp rfl rfl) rfl) (EN ha (.tmp rfl rfl) rfl) rfl rfl rfl rfl rfl) (fun _ => ?_)
   iterate 2 refine du ?_
   refine au ?_
   cases hF
   exact End_ret (p35.1, p35.2) (.cellA rfl rfl .h rfl ag31.h ty31.h.sz rfl rfl (.tmp rfl rfl .nil)) rfl (.sel (.cons (.t .h) .nil))
 iterate 6 refine au ?_
 rw [wk k10]
 exact ⟨_, Nat.lt_succ_self _, _, k10 + 1, rest11, rfl, eqA, hd16, entA, hF⟩
def i_within (a_n : Int) (a_low : Int) (a_high : Int) : Option (Bool) :=
 some ((decide ((a_low : Int) ≤ a_n)) && (decide ((a_n : Int) ≤ a_high)))
theorem i_within_ok (a_n : Int) (a_low : Int) (a_high : Int) (R : Bool) (hF : i_within a_n a_low a_high = some R) :
   Fw.Spec Tryz.prog 77 [(.int .i64 a_n), (.int .i64 a_low), (.int .i64 a_high)] [] (fun _ : Unit => (.bool R)) (fun _ => []) := by
 refine Se 15 Tryz.func77 [.tmp 6] ?_
 intro H0 F0
 unfold i_within at hF
 iterate 4 refine au ?_
 refine C_cut (fun f' cs' => ∃ (g : Fr), f' = updL g [(6, (.bool ((decide ((a_low : Int) ≤ a_n)) && (decide ((a_n : Int) ≤ a_high)))))] ∧ Ent cs' []) ?_ ?_
 · iterate 4 refine au ?_
   rcases Bool.eq_false_or_eq_true (decide ((a_low : Int) ≤ a_n)) with hg1 | hg1
   · rw [hg1]
     try rw [hg1] at hF; dsimp only [cond_true, cond_false] at hF
     iterate 9 refine au ?_
     exact ⟨_, eqA, entA⟩
   rw [hg1]
   try rw [hg1] at hF; dsimp only [cond_true, cond_false] at hF
   iterate 6 refine au ?_
   exact ⟨_, eqA, entA⟩
 rintro _ _ ⟨g2, rfl, hE⟩
 refine K_ent hE ?_
 refine au ?_
 cases hF
 exact Er ()
def i_IsSchema_1 (a_n : Int) : Option (Bool) :=
 (i_within a_n 1 3).bind fun r1 =>
 some (!r1)
theorem i_IsSchema_1_ok (a_n : Int) (R : Bool) (hF : i_IsSchema_1 a_n = some R) :
   Fw.Spec Tryz.prog 79 [(.int .i64 a_n)] [] (fun _ : Unit => (.bool R)) (fun _ => []) := by
 refine Se 6 Tryz.func79 [.tmp 2] ?_
 intro H0 F0
 unfold i_IsSchema_1 at hF
 iterate 5 refine au ?_
 refine bnd hF fun r1 hx2 hF => Cx0 (i_within_ok _ _ _ _ hx2) (fun _ => ?_)
 iterate 4 refine au ?_
 cases hF
 exact Er ()
def g_slices_IndexFunc_int_int_iIsSchema1_L1 : List Int → Nat → Option (Int)
 | [], k4 => some (-1)
 | x6 :: rest5, k4 => (i_IsSchema_1 x6).bind fun r15 =>
   if r15 then (
     some (k4 : Int))
   else (
     g_slices_IndexFunc_int_int_iIsSchema1_L1 rest5 (k4 + 1))
def g_slices_IndexFunc_int_int_iIsSchema1 (a_s : List Int) : Option (Int) :=
 g_slices_IndexFunc_int_int_iIsSchema1_L1 a_s 0
theorem g_slices_IndexFunc_int_int_iIsSchema1_ok (a_s : List Int) (v0_0 : Sv) (R : Int) (hF : g_slices_IndexFunc_int_int_iIsSchema1 a_s = some R) :
   Fw.Spec Tryz.prog 102 [v0_0.v, (.func (.func 79) [].toArray [].toArray)] [crd (RdS 3 rdInt) v0_0.v a_s] (fun _ : Unit => (.int .i64 R)) (fun _ => []) := by
 refine Se 19 Tryz.func102 [.tmp 4] ?_
 intro H0 F0
 unfold g_slices_IndexFunc_int_int_iIsSchema1 at hF
 iterate 9 refine au ?_
 refine CW_block (CW_loop (m := a_s.length) (fun m2 f' cs' => ∃ (g : Fr) (k4 : Nat) (rest5 : List Int), m2 = rest5.length ∧ f' = updL g [(0, v0_0.v), (1, (.func (.func 79) [].toArray [].toArray)), (7, (.int .i64 (a_s.length : Int))), (8, (.int .i64 (k4 : Int)))] ∧ List.drop k4 a_s = rest5 ∧ Ent cs' [crd (RdS 3 rdInt) v0_0.v a_s] ∧ g_slices_IndexFunc_int_int_iIsSchema1_L1 rest5 k4 = some R) ⟨_, 0, _, rfl, eqA, rfl, entA, hF⟩ ?_)
 rintro m2 _ _ ⟨g3, k4, rest5, rfl, rfl, hd7, hE, hF⟩
 refine Kb hE a_s (fun hbd12 => ?_)
 rcases rest5 with _ | ⟨x6, rest5⟩
 · have hk8 := dn hd7
   rw [g_slices_IndexFunc_int_int_iIsSchema1_L1] at hF
   iterate 4 refine au ?_
   refine CdF ?_
   iterate 8 refine au ?_
   cases hF
   exact Er ()
 obtain ⟨hk8, hx9, hd10⟩ := drop_cons hd7
 rw [g_slices_IndexFunc_int_int_iIsSchema1_L1] at hF
 iterate 4 refine au ?_
 refine CdT ?_
 iterate 10 refine au ?_
 refine Ai hx9 (fun k13 j14 => ?_)
 refine Al ls3_0 ?_
 refine bnd hF fun r15 hx16 hF => C_x0 .nil (X_callCS cf79.h (.tmp rfl rfl) (.cons (.tmp rfl rfl) .nil) (i_IsSchema_1_ok x6 _ hx16)) (fun _ => ?_)
 refine au ?_
 refine Ci hF (fun hb19 hF => ?_) (fun hb19 hF => ?_)
 · iterate 5 refine au ?_
   cases hF
   exact Er ()
 iterate 5 refine au ?_
 rw [wk k4]
 exact ⟨_, Nat.lt_succ_self _, _, k4 + 1, rest5, rfl, eqA, hd10, entA, hF⟩
def g_slices_ContainsFunc_int_int_iIsSchema1 (a_s : List Int) : Option (Bool) :=
 (g_slices_IndexFunc_int_int_iIsSchema1 a_s).bind fun r1 =>
 some (decide ((0 : Int) ≤ r1))
theorem g_slices_ContainsFunc_int_int_iIsSchema1_ok (a_s : List Int) (v0_0 : Sv) (R : Bool) (hF : g_slices_ContainsFunc_int_int_iIsSchema1 a_s = some R) :
   Fw.Spec Tryz.prog 78 [v0_0.v, (.func (.func 79) [].toArray [].toArray)] [crd (RdS 3 rdInt) v0_0.v a_s] (fun _ : Unit => (.bool R)) (fun _ => []) := by
 refine Se 9 Tryz.func78 [.tmp 4] ?_
 intro H0 F0
 unfold g_slices_ContainsFunc_int_int_iIsSchema1 at hF
 iterate 6 refine au ?_
 refine bnd hF fun r1 hx2 hF => Cx0 (g_slices_IndexFunc_int_int_iIsSchema1_ok _ _ _ hx2) (fun _ => ?_)
 iterate 4 refine au ?_
 cases hF
 exact Er ()
def i_IsSchema (a_s : List Int) : Option (Bool) :=
 ((i_within (a_s.length : Int) 1 3).bind fun r3 =>
   bif r3 then ((g_slices_ContainsFunc_int_int_iIsSchema1 a_s).bind fun r7 =>
     some (!r7))
   else (some false)).bind fun o1 =>
 match o1 with
 | c10 => some c10
theorem i_IsSchema_ok (a_s : List Int) (v0_0 : Sv) (R : Bool) (hF : i_IsSchema a_s = some R) :
   Fw.Spec Tryz.prog 54 [v0_0.v] [crd (RdS 3 rdInt) v0_0.v a_s] (fun _ : Unit => (.bool R)) (fun _ => []) := by
 refine Se 11 Tryz.func54 [.tmp 2] ?_
 intro H0 F0
 unfold i_IsSchema at hF
 iterate 3 refine au ?_
 obtain ⟨o1, hio1, hO2⟩ := bind_some hF
 refine au ?_
 refine C_cut (fun f' cs' => ∃ (c10 : Bool) (g : Fr), c10 = o1 ∧ f' = updL g [(2, (.bool c10))] ∧ Ent cs' []) ?_ ?_
 · replace hF := hio1
   iterate 2 refine au ?_
   refine bnd hF fun r3 hx4 hF => Cx0 (i_within_ok _ _ _ _ hx4) (fun _ => ?_)
   refine au ?_
   rcases Bool.eq_false_or_eq_true r3 with hg6 | hg6
   · rw [hg6]
     try rw [hg6] at hF; dsimp only [cond_true, cond_false] at hF
     iterate 3 refine au ?_
     refine bnd hF fun r7 hx8 hF => Cx0 (g_slices_ContainsFunc_int_int_iIsSchema1_ok _ _ _ hx8) (fun _ => ?_)
     iterate 5 refine au ?_
     cases hF
     exact ⟨_, _, rfl, eqA, entA⟩
   rw [hg6]
   try rw [hg6] at hF; dsimp only [cond_true, cond_false] at hF
   iterate 6 refine au ?_
   cases hF
   exact ⟨_, _, rfl, eqA, entA⟩
 rintro _ _ ⟨c10, g11, rfl, rfl, hE⟩
 replace hF := hO2
 try dsimp only at hF
 refine K_ent hE ?_
 refine au ?_
 cases hF
 exact Er ()
def i_hasRel (a_s : List Int) (a_rel : Int) : Option (Bool) :=
 ((i_IsSchema a_s).bind fun r3 =>
   bif r3 then ((i_within a_rel 0 (IntKind.i64.wrap ((a_s.length : Int) - 1))).bind fun r7 =>
     some r7)
   else (some false)).bind fun o1 =>
 match o1 with
 | c10 => some c10
theorem i_hasRel_ok (a_s : List Int) (v0_0 : Sv) (a_rel : Int) (R : Bool) (hF : i_hasRel a_s a_rel = some R) :
   Fw.Spec Tryz.prog 81 [v0_0.v, (.int .i64 a_rel)] [crd (RdS 3 rdInt) v0_0.v a_s] (fun _ : Unit => (.bool R)) (fun _ => []) := by
 refine Se 14 Tryz.func81 [.tmp 4] ?_
 intro H0 F0
 unfold i_hasRel at hF
 iterate 3 refine au ?_
 obtain ⟨o1, hio1, hO2⟩ := bind_some hF
 refine au ?_
 refine C_cut (fun f' cs' => ∃ (c10 : Bool) (g : Fr), c10 = o1 ∧ f' = updL g [(4, (.bool c10))] ∧ Ent cs' []) ?_ ?_
 · replace hF := hio1
   refine au ?_
   refine bnd hF fun r3 hx4 hF => Cx0 (i_IsSchema_ok _ _ _ hx4) (fun _ => ?_)
   refine au ?_
   rcases Bool.eq_false_or_eq_true r3 with hg6 | hg6
   · rw [hg6]
     try rw [hg6] at hF; dsimp only [cond_true, cond_false] at hF
     iterate 9 refine au ?_
     refine bnd hF fun r7 hx8 hF => Cx0 (i_within_ok _ _ _ _ hx8) (fun _ => ?_)
     iterate 3 refine au ?_
     cases hF
     exact ⟨_, _, rfl, eqA, entA⟩
   rw [hg6]
   try rw [hg6] at hF; dsimp only [cond_true, cond_false] at hF
   iterate 8 refine au ?_
   cases hF
   exact ⟨_, _, rfl, eqA, entA⟩
 rintro _ _ ⟨c10, g11, rfl, rfl, hE⟩
 replace hF := hO2
 try dsimp only at hF
 refine K_ent hE ?_
 refine au ?_
 cases hF
 exact Er ()
def i_ascending_L1 (a_l : List Int) : List Int → Nat → Option (Bool)
 | [], k4 => some true
 | x6 :: rest5, k4 => (bif (decide ((0 : Int) < (k4 : Int))) then ((ix a_l (IntKind.i64.wrap ((k4 : Int) - 1))).bind fun x18 =>
       some (decide ((x6 : Int) ≤ x18)))
     else (some false)).bind fun o13 =>
   match o13 with
   | c24 => if c24 then (
       some false)
     else (
       i_ascending_L1 a_l rest5 (k4 + 1))
def i_ascending (a_l : List Int) : Option (Bool) :=
 i_ascending_L1 a_l a_l 0
theorem i_ascending_ok (a_l : List Int) (v0_0 : Sv) (R : Bool) (hF : i_ascending a_l = some R) :
   Fw.Spec Tryz.prog 103 [v0_0.v] [crd (RdS 3 rdInt) v0_0.v a_l] (fun _ : Unit => (.bool R)) (fun _ => []) := by
 refine Se 24 Tryz.func103 [.tmp 2] ?_
 intro H0 F0
 unfold i_ascending at hF
 iterate 9 refine au ?_
 refine CW_block (CW_loop (m := a_l.length) (fun m2 f' cs' => ∃ (g : Fr) (k4 : Nat) (rest5 : List Int), m2 = rest5.length ∧ f' = updL g [(0, v0_0.v), (5, (.int .i64 (a_l.length : Int))), (6, (.int .i64 (k4 : Int)))] ∧ List.drop k4 a_l = rest5 ∧ Ent cs' [crd (RdS 3 rdInt) v0_0.v a_l] ∧ i_ascending_L1 a_l rest5 k4 = some R) ⟨_, 0, _, rfl, eqA, rfl, entA, hF⟩ ?_)
 rintro m2 _ _ ⟨g3, k4, rest5, rfl, rfl, hd7, hE, hF⟩
 refine Kb hE a_l (fun hbd12 => ?_)
 rcases rest5 with _ | ⟨x6, rest5⟩
 · have hk8 := dn hd7
   rw [i_ascending_L1] at hF
   iterate 4 refine au ?_
   refine CdF ?_
   iterate 8 refine au ?_
   cases hF
   exact Er ()
 obtain ⟨hk8, hx9, hd10⟩ := drop_cons hd7
 rw [i_ascending_L1] at hF
 iterate 4 refine au ?_
 refine CdT ?_
 iterate 6 refine au ?_
 obtain ⟨o13, hio13, hO14⟩ := bind_some hF
 refine K_draw [0, 1, 2, 3, 4, 5, 6, 7, 8, 9, 10, 11, 12, 13] [0, 1, 3, 7, 7, 31, 63, 7, 7, 263, 903, 1927, 4095, 8191] [] mixed (by decide +kernel) ?_
 refine D_cut (fun f' cs' => ∃ (c24 : Bool) (g : Fr), c24 = o13 ∧ f' = updL g [(0, v0_0.v), (5, (.int .i64 (a_l.length : Int))), (6, (.int .i64 (k4 : Int))), (22, (.bool c24))] ∧ Ent cs' [crd (RdS 3 rdInt) v0_0.v a_l]) ?_ ?_
 · replace hF := hio13
   iterate 3 refine du ?_
   rcases Bool.eq_false_or_eq_true (decide ((0 : Int) < (k4 : Int))) with hg15 | hg15
   · rw [hg15]
     try rw [hg15] at hF; dsimp only [cond_true, cond_false] at hF
     iterate 2 refine du ?_
     refine Di hx9 (fun k16 j17 => ?_)
     refine Dl ls3_0 ?_
     iterate 3 refine du ?_
     refine bnd hF fun x18 hx19 hF => ?_
     obtain ⟨hp20, hx21⟩ := ix_some hx19
     refine Di hx21 (fun k22 j23 => ?_)
     refine Dl ls3_0 ?_
     iterate 3 refine du ?_
     cases hF
     exact ⟨_, _, rfl, eqA, entA⟩
   rw [hg15]
   try rw [hg15] at hF; dsimp only [cond_true, cond_false] at hF
   iterate 12 refine du ?_
   cases hF
   exact ⟨_, _, rfl, eqA, entA⟩
 rintro _ _ ⟨c24, g27, rfl, rfl, hE⟩
 replace hF := hO14
 try dsimp only at hF
 refine K_ent hE ?_
 refine Ci hF (fun hb26 hF => ?_) (fun hb26 hF => ?_)
 · iterate 4 refine au ?_
   cases hF
   exact Er ()
 iterate 5 refine au ?_
 rw [wk k4]
 exact ⟨_, Nat.lt_succ_self _, _, k4 + 1, rest5, rfl, eqA, hd10, entA, hF⟩
def i_Method_fits_1 (a_i : Int) (a_e1 : Int) : Option (Bool) :=
 (i_within a_i 0 (IntKind.i64.wrap (a_e1 - 1))).bind fun r1 =>
 some (!r1)
theorem i_Method_fits_1_ok (a_i : Int) (kc1 : Nat) (a_e1 : Int) (R : Bool) (hF : i_Method_fits_1 a_i a_e1 = some R) :
   Fw.Spec Tryz.prog 104 [(.int .i64 a_i), (pz kc1)] [cboR kc1 3 (.int .i64 a_e1)] (fun _ : Unit => (.bool R)) (fun _ => []) := by
 refine Se 9 Tryz.func104 [.tmp 3] ?_
 intro H0 F0
 unfold i_Method_fits_1 at hF
 iterate 7 refine au ?_
 refine bnd hF fun r1 hx2 hF => Cx0 (i_within_ok _ _ _ _ hx2) (fun _ => ?_)
 iterate 4 refine au ?_
 cases hF
 exact Er ()
def g_slices_IndexFunc_int_int_iMethodfits1_L1 (a_e1 : Int) : List Int → Nat → Option (Int)
 | [], k4 => some (-1)
 | x6 :: rest5, k4 => (i_Method_fits_1 x6 a_e1).bind fun r15 =>
   if r15 then (
     some (k4 : Int))
   else (
     g_slices_IndexFunc_int_int_iMethodfits1_L1 a_e1 rest5 (k4 + 1))
def g_slices_IndexFunc_int_int_iMethodfits1 (a_s : List Int) (a_e1 : Int) : Option (Int) :=
 g_slices_IndexFunc_int_int_iMethodfits1_L1 a_e1 a_s 0
theorem g_slices_IndexFunc_int_int_iMethodfits1_ok (a_s : List Int) (v0_0 : Sv) (kc1 : Nat) (a_e1 : Int) (R : Int) (hF : g_slices_IndexFunc_int_int_iMethodfits1 a_s a_e1 = some R) :
   Fw.Spec Tryz.prog 102 [v0_0.v, (.func (.func 104) [].toArray [(pz kc1)].toArray)] [crd (RdS 3 rdInt) v0_0.v a_s, cboR kc1 3 (.int .i64 a_e1)] (fun _ : Unit => (.int .i64 R)) (fun _ => []) := by
 refine Se 19 Tryz.func102 [.tmp 4] ?_
 intro H0 F0
 unfold g_slices_IndexFunc_int_int_iMethodfits1 at hF
 iterate 9 refine au ?_
 refine CW_block (CW_loop (m := a_s.length) (fun m2 f' cs' => ∃ (g : Fr) (k4 : Nat) (rest5 : List Int), m2 = rest5.length ∧ f' = updL g [(0, v0_0.v), (1, (.func (.func 104) [].toArray [(pz kc1)].toArray)), (7, (.int .i64 (a_s.length : Int))), (8, (.int .i64 (k4 : Int)))] ∧ List.drop k4 a_s = rest5 ∧ Ent cs' [crd (RdS 3 rdInt) v0_0.v a_s, cboR kc1 3 (.int .i64 a_e1)] ∧ g_slices_IndexFunc_int_int_iMethodfits1_L1 a_e1 rest5 k4 = some R) ⟨_, 0, _, rfl, eqA, rfl, entA, hF⟩ ?_)
 rintro m2 _ _ ⟨g3, k4, rest5, rfl, rfl, hd7, hE, hF⟩
 refine Kb hE a_s (fun hbd12 => ?_)
 rcases rest5 with _ | ⟨x6, rest5⟩
 · have hk8 := dn hd7
   rw [g_slices_IndexFunc_int_int_iMethodfits1_L1] at hF
   iterate 4 refine au ?_
   refine CdF ?_
   iterate 8 refine au ?_
   cases hF
   exact Er ()
 obtain ⟨hk8, hx9, hd10⟩ := drop_cons hd7
 rw [g_slices_IndexFunc_int_int_iMethodfits1_L1] at hF
 iterate 4 refine au ?_
 refine CdT ?_
 iterate 10 refine au ?_
 refine Ai hx9 (fun k13 j14 => ?_)
 refine Al ls3_0 ?_
 refine bnd hF fun r15 hx16 hF => C_x0 (.rd (.t (.t .h)) rfl .nil) (X_callCS cf104.h (.tmp rfl rfl) (.cons (.tmp rfl rfl) .nil) (i_Method_fits_1_ok x6 kc1 a_e1 _ hx16)) (fun _ => ?_)
 refine au ?_
 refine Ci hF (fun hb19 hF => ?_) (fun hb19 hF => ?_)
 · iterate 5 refine au ?_
   cases hF
   exact Er ()
 iterate 5 refine au ?_
 rw [wk k4]
 exact ⟨_, Nat.lt_succ_self _, _, k4 + 1, rest5, rfl, eqA, hd10, entA, hF⟩
def g_slices_ContainsFunc_int_int_iMethodfits1 (a_s : List Int) (a_e1 : Int) : Option (Bool) :=
 (g_slices_IndexFunc_int_int_iMethodfits1 a_s a_e1).bind fun r1 =>
 some (decide ((0 : Int) ≤ r1))
theorem g_slices_ContainsFunc_int_int_iMethodfits1_ok (a_s : List Int) (v0_0 : Sv) (kc1 : Nat) (a_e1 : Int) (R : Bool) (hF : g_slices_ContainsFunc_int_int_iMethodfits1 a_s a_e1 = some R) :
   Fw.Spec Tryz.prog 78 [v0_0.v, (.func (.func 104) [].toArray [(pz kc1)].toArray)] [crd (RdS 3 rdInt) v0_0.v a_s, cboR kc1 3 (.int .i64 a_e1)] (fun _ : Unit => (.bool R)) (fun _ => []) := by
 refine Se 9 Tryz.func78 [.tmp 4] ?_
 intro H0 F0
 unfold g_slices_ContainsFunc_int_int_iMethodfits1 at hF
 iterate 6 refine au ?_
 refine bnd hF fun r1 hx2 hF => Cx0 (g_slices_IndexFunc_int_int_iMethodfits1_ok _ _ _ _ _ hx2) (fun _ => ?_)
 iterate 4 refine au ?_
 cases hF
 exact Er ()
def i_isCost (a_n : Int) : Option (Bool) :=
 (i_within a_n 0 99).bind fun r1 =>
 some r1
theorem i_isCost_ok (a_n : Int) (R : Bool) (hF : i_isCost a_n = some R) :
   Fw.Spec Tryz.prog 105 [(.int .i64 a_n)] [] (fun _ : Unit => (.bool R)) (fun _ => []) := by
 refine Se 5 Tryz.func105 [.tmp 2] ?_
 intro H0 F0
 unfold i_isCost at hF
 iterate 5 refine au ?_
 refine bnd hF fun r1 hx2 hF => Cx0 (i_within_ok _ _ _ _ hx2) (fun _ => ?_)
 iterate 3 refine au ?_
 cases hF
 exact Er ()
def i_Method_fits (a_m : Method) (a_arity : Int) : Option (Bool) :=
 ((i_ascending a_m.Inputs).bind fun r5 =>
   bif r5 then ((g_slices_ContainsFunc_int_int_iMethodfits1 a_m.Inputs a_arity).bind fun r9 =>
     bif (!r9) then ((i_within a_m.Limit 0 9).bind fun r13 =>
       bif r13 then ((i_isCost a_m.Cost).bind fun r17 =>
         bif r17 then ((i_within a_m.Quota 1 99).bind fun r21 =>
           some r21)
         else (some false))
       else (some false))
     else (some false))
   else (some false)).bind fun o3 =>
 match o3 with
 | c24 => some c24
theorem i_Method_fits_ok (a_m : Method) (v0_1 : Sv) (a_arity : Int) (R : Bool) (hF : i_Method_fits a_m a_arity = some R) :
   Fw.Spec Tryz.prog 82 [(.agg [(.int .i64 a_m.Rel), v0_1.v, (.int .i64 a_m.Limit), (.int .i64 a_m.Cost), (.int .i64 a_m.Quota)].toArray), (.int .i64 a_arity)] [crd (RdS 3 rdInt) v0_1.v a_m.Inputs] (fun _ : Unit => (.bool R)) (fun _ => []) := by
 refine Se 30 Tryz.func82 [.tmp 4] ?_
 intro H0 F0
 unfold i_Method_fits at hF
 refine au ?_
 refine AbR (fun k1 => ?_)
 refine AbR (fun k2 => ?_)
 iterate 2 refine au ?_
 obtain ⟨o3, hio3, hO4⟩ := bind_some hF
 refine au ?_
 refine C_cut (fun f' cs' => ∃ (c24 : Bool) (g : Fr), c24 = o3 ∧ f' = updL g [(4, (.bool c24))] ∧ Ent cs' []) ?_ ?_
 · replace hF := hio3
   iterate 2 refine au ?_
   refine bnd hF fun r5 hx6 hF => Cx0 (i_ascending_ok _ _ _ hx6) (fun _ => ?_)
   refine au ?_
   rcases Bool.eq_false_or_eq_true r5 with hg8 | hg8
   · rw [hg8]
     try rw [hg8] at hF; dsimp only [cond_true, cond_false] at hF
     iterate 5 refine au ?_
     refine C_val (V_makeFunc (fn := .func 104) (vs := []) (us := [(pz k2)]) .nil (.cons (.tmp rfl rfl) .nil)) ?_
     refine au ?_
     refine bnd hF fun r9 hx10 hF => Cx0 (g_slices_ContainsFunc_int_int_iMethodfits1_ok _ _ _ _ _ hx10) (fun _ => ?_)
     iterate 4 refine au ?_
     rcases Bool.eq_false_or_eq_true (!r9) with hg12 | hg12
     · rw [hg12]
       try rw [hg12] at hF; dsimp only [cond_true, cond_false] at hF
       iterate 5 refine au ?_
       refine bnd hF fun r13 hx14 hF => Cx0 (i_within_ok _ _ _ _ hx14) (fun _ => ?_)
       iterate 2 refine au ?_
       rcases Bool.eq_false_or_eq_true r13 with hg16 | hg16
       · rw [hg16]
         try rw [hg16] at hF; dsimp only [cond_true, cond_false] at hF
         iterate 5 refine au ?_
         refine bnd hF fun r17 hx18 hF => Cx0 (i_isCost_ok _ _ hx18) (fun _ => ?_)
         iterate 2 refine au ?_
         rcases Bool.eq_false_or_eq_true r17 with hg20 | hg20
         · rw [hg20]
           try rw [hg20] at hF; dsimp only [cond_true, cond_false] at hF
           iterate 5 refine au ?_
           refine bnd hF fun r21 hx22 hF => Cx0 (i_within_ok _ _ _ _ hx22) (fun _ => ?_)
           iterate 3 refine au ?_
           cases hF
           exact ⟨_, _, rfl, eqA, entA⟩
         rw [hg20]
         try rw [hg20] at hF; dsimp only [cond_true, cond_false] at hF
         iterate 6 refine au ?_
         cases hF
         exact ⟨_, _, rfl, eqA, entA⟩
       rw [hg16]
       try rw [hg16] at hF; dsimp only [cond_true, cond_false] at hF
       iterate 11 refine au ?_
       cases hF
       exact ⟨_, _, rfl, eqA, entA⟩
     rw [hg12]
     try rw [hg12] at hF; dsimp only [cond_true, cond_false] at hF
     iterate 16 refine au ?_
     cases hF
     exact ⟨_, _, rfl, eqA, entA⟩
   rw [hg8]
   try rw [hg8] at hF; dsimp only [cond_true, cond_false] at hF
   iterate 23 refine au ?_
   cases hF
   exact ⟨_, _, rfl, eqA, entA⟩
 rintro _ _ ⟨c24, g25, rfl, rfl, hE⟩
 replace hF := hO4
 try dsimp only at hF
 refine K_ent hE ?_
 refine au ?_
 cases hF
 exact Er ()
def i_IsMethod (a_s : List Int) (a_m : Method) : Option (Bool) :=
 ((i_hasRel a_s a_m.Rel).bind fun r4 =>
   bif r4 then ((ix a_s a_m.Rel).bind fun x8 =>
     (i_Method_fits a_m x8).bind fun r14 =>
     some r14)
   else (some false)).bind fun o2 =>
 match o2 with
 | c17 => some c17
theorem i_IsMethod_ok (a_s : List Int) (v0_0 : Sv) (a_m : Method) (v1_1 : Sv) (R : Bool) (hF : i_IsMethod a_s a_m = some R) :
   Fw.Spec Tryz.prog 57 [v0_0.v, (.agg [(.int .i64 a_m.Rel), v1_1.v, (.int .i64 a_m.Limit), (.int .i64 a_m.Cost), (.int .i64 a_m.Quota)].toArray)] [crd (RdS 3 rdInt) v0_0.v a_s, crd (RdS 3 rdInt) v1_1.v a_m.Inputs] (fun _ : Unit => (.bool R)) (fun _ => []) := by
 refine Se 18 Tryz.func57 [.tmp 4] ?_
 intro H0 F0
 unfold i_IsMethod at hF
 refine au ?_
 refine AbR (fun k1 => ?_)
 iterate 2 refine au ?_
 obtain ⟨o2, hio2, hO3⟩ := bind_some hF
 refine K_draw [0, 1, 2, 3, 4, 5, 6, 7, 8, 9, 10, 11, 12, 13] [0, 0, 2, 7, 15, 31, 31, 31, 159, 479, 991, 2047, 4095, 8191] [3, 11] mixed (by decide +kernel) ?_
 refine D_cut (fun f' cs' => ∃ (c17 : Bool) (g : Fr), c17 = o2 ∧ f' = updL g [(4, (.bool c17))] ∧ Ent cs' []) ?_ ?_
 · replace hF := hio2
   iterate 3 refine du ?_
   refine bnd hF fun r4 hx5 hF => Dx0 (i_hasRel_ok _ _ _ _ hx5) (fun _ => ?_)
   refine du ?_
   rcases Bool.eq_false_or_eq_true r4 with hg7 | hg7
   · rw [hg7]
     try rw [hg7] at hF; dsimp only [cond_true, cond_false] at hF
     iterate 4 refine du ?_
     refine bnd hF fun x8 hx9 hF => ?_
     obtain ⟨hp10, hx11⟩ := ix_some hx9
     refine Di hx11 (fun k12 j13 => ?_)
     refine Dl ls3_0 ?_
     refine bnd hF fun r14 hx15 hF => Dx0 (i_Method_fits_ok _ _ _ _ hx15) (fun _ => ?_)
     iterate 3 refine du ?_
     cases hF
     exact ⟨_, _, rfl, eqA, entA⟩
   rw [hg7]
   try rw [hg7] at hF; dsimp only [cond_true, cond_false] at hF
   iterate 10 refine du ?_
   cases hF
   exact ⟨_, _, rfl, eqA, entA⟩
 rintro _ _ ⟨c17, g18, rfl, rfl, hE⟩
 replace hF := hO3
 try dsimp only at hF
 refine K_ent hE ?_
 refine au ?_
 cases hF
 exact Er ()
def i_AreMethods_1 (a_m : Method) (a_e1 : List Int) : Option (Bool) :=
 (i_IsMethod a_e1 a_m).bind fun r2 =>
 some (!r2)
theorem i_AreMethods_1_ok (a_m : Method) (v0_1 : Sv) (kc1 : Nat) (a_e1 : List Int) (vc1_0 : Sv) (R : Bool) (hF : i_AreMethods_1 a_m a_e1 = some R) :
   Fw.Spec Tryz.prog 56 [(.agg [(.int .i64 a_m.Rel), v0_1.v, (.int .i64 a_m.Limit), (.int .i64 a_m.Cost), (.int .i64 a_m.Quota)].toArray), (pz kc1)] [crd (RdS 3 rdInt) v0_1.v a_m.Inputs, cboR kc1 22 vc1_0.v, crd (RdS 3 rdInt) vc1_0.v a_e1] (fun _ : Unit => (.bool R)) (fun _ => []) := by
 refine Se 8 Tryz.func56 [.tmp 3] ?_
 intro H0 F0
 unfold i_AreMethods_1 at hF
 refine au ?_
 refine AbR (fun k1 => ?_)
 iterate 5 refine au ?_
 refine bnd hF fun r2 hx3 hF => Cx0 (i_IsMethod_ok _ _ _ _ _ hx3) (fun _ => ?_)
 iterate 4 refine au ?_
 cases hF
 exact Er ()
def g_slices_IndexFunc_impl_Method_impl_Method_iAreMethods1_L1 (a_e1 : List Int) : List Method → Nat → Option (Int)
 | [], k4 => some (-1)
 | x6 :: rest5, k4 => (i_AreMethods_1 x6 a_e1).bind fun r16 =>
   if r16 then (
     some (k4 : Int))
   else (
     g_slices_IndexFunc_impl_Method_impl_Method_iAreMethods1_L1 a_e1 rest5 (k4 + 1))
def g_slices_IndexFunc_impl_Method_impl_Method_iAreMethods1 (a_s : List Method) (a_e1 : List Int) : Option (Int) :=
 g_slices_IndexFunc_impl_Method_impl_Method_iAreMethods1_L1 a_e1 a_s 0
theorem g_slices_IndexFunc_impl_Method_impl_Method_iAreMethods1_ok (a_s : List Method) (v0_0 : Sv) (kc1 : Nat) (a_e1 : List Int) (vc1_0 : Sv) (R : Int) (hF : g_slices_IndexFunc_impl_Method_impl_Method_iAreMethods1 a_s a_e1 = some R) :
   Fw.Spec Tryz.prog 80 [v0_0.v, (.func (.func 56) [].toArray [(pz kc1)].toArray)] [crd (RdS 65 rd65) v0_0.v a_s, cboR kc1 22 vc1_0.v, crd (RdS 3 rdInt) vc1_0.v a_e1] (fun _ : Unit => (.int .i64 R)) (fun _ => []) := by
 refine Se 19 Tryz.func80 [.tmp 4] ?_
 intro H0 F0
 unfold g_slices_IndexFunc_impl_Method_impl_Method_iAreMethods1 at hF
 iterate 9 refine au ?_
 refine CW_block (CW_loop (m := a_s.length) (fun m2 f' cs' => ∃ (g : Fr) (k4 : Nat) (rest5 : List Method), m2 = rest5.length ∧ f' = updL g [(0, v0_0.v), (1, (.func (.func 56) [].toArray [(pz kc1)].toArray)), (7, (.int .i64 (a_s.length : Int))), (8, (.int .i64 (k4 : Int)))] ∧ List.drop k4 a_s = rest5 ∧ Ent cs' [crd (RdS 65 rd65) v0_0.v a_s, cboR kc1 22 vc1_0.v, crd (RdS 3 rdInt) vc1_0.v a_e1] ∧ g_slices_IndexFunc_impl_Method_impl_Method_iAreMethods1_L1 a_e1 rest5 k4 = some R) ⟨_, 0, _, rfl, eqA, rfl, entA, hF⟩ ?_)
 rintro m2 _ _ ⟨g3, k4, rest5, rfl, rfl, hd7, hE, hF⟩
 refine Kb hE a_s (fun hbd12 => ?_)
 rcases rest5 with _ | ⟨x6, rest5⟩
 · have hk8 := dn hd7
   rw [g_slices_IndexFunc_impl_Method_impl_Method_iAreMethods1_L1] at hF
   iterate 4 refine au ?_
   refine CdF ?_
   iterate 8 refine au ?_
   cases hF
   exact Er ()
 obtain ⟨hk8, hx9, hd10⟩ := drop_cons hd7
 rw [g_slices_IndexFunc_impl_Method_impl_Method_iAreMethods1_L1] at hF
 iterate 4 refine au ?_
 refine CdT ?_
 iterate 10 refine au ?_
 refine Ai hx9 (fun k13 j14 => ?_)
 refine AlA1 (ul65_0_65 x6) la65_0_65 (fun p15 => ?_)
 refine bnd hF fun r16 hx17 hF => C_x0 (.rd .h rfl (.rd (.t (.t (.t .h))) rfl (.rd (.t (.t (.t (.t .h)))) rfl .nil))) (X_callCS cf56.h (.tmp rfl rfl) (.cons (.tmp rfl rfl) .nil) (i_AreMethods_1_ok x6 p15 kc1 a_e1 vc1_0 _ hx17)) (fun _ => ?_)
 refine au ?_
 refine Ci hF (fun hb20 hF => ?_) (fun hb20 hF => ?_)
 · iterate 5 refine au ?_
   cases hF
   exact Er ()
 iterate 5 refine au ?_
 rw [wk k4]
 exact ⟨_, Nat.lt_succ_self _, _, k4 + 1, rest5, rfl, eqA, hd10, entA, hF⟩
def g_slices_ContainsFunc_impl_Method_impl_Method_iAreMethods1 (a_s : List Method) (a_e1 : List Int) : Option (Bool) :=
 (g_slices_IndexFunc_impl_Method_impl_Method_iAreMethods1 a_s a_e1).bind fun r1 =>
 some (decide ((0 : Int) ≤ r1))
theorem g_slices_ContainsFunc_impl_Method_impl_Method_iAreMethods1_ok (a_s : List Method) (v0_0 : Sv) (kc1 : Nat) (a_e1 : List Int) (vc1_0 : Sv) (R : Bool) (hF : g_slices_ContainsFunc_impl_Method_impl_Method_iAreMethods1 a_s a_e1 = some R) :
   Fw.Spec Tryz.prog 55 [v0_0.v, (.func (.func 56) [].toArray [(pz kc1)].toArray)] [crd (RdS 65 rd65) v0_0.v a_s, cboR kc1 22 vc1_0.v, crd (RdS 3 rdInt) vc1_0.v a_e1] (fun _ : Unit => (.bool R)) (fun _ => []) := by
 refine Se 9 Tryz.func55 [.tmp 4] ?_
 intro H0 F0
 unfold g_slices_ContainsFunc_impl_Method_impl_Method_iAreMethods1 at hF
 iterate 6 refine au ?_
 refine bnd hF fun r1 hx2 hF => Cx0 (g_slices_IndexFunc_impl_Method_impl_Method_iAreMethods1_ok _ _ _ _ _ _ hx2) (fun _ => ?_)
 iterate 4 refine au ?_
 cases hF
 exact Er ()
def i_AreMethods (a_s : List Int) (a_l : List Method) : Option (Bool) :=
 ((i_IsSchema a_s).bind fun r4 =>
   bif r4 then (bif (decide (((a_l.length : Int) : Int) ≤ 5)) then ((g_slices_ContainsFunc_impl_Method_impl_Method_iAreMethods1 a_l a_s).bind fun r9 =>
       some (!r9))
     else (some false))
   else (some false)).bind fun o2 =>
 match o2 with
 | c12 => some c12
theorem i_AreMethods_ok (a_s : List Int) (v0_0 : Sv) (a_l : List Method) (v1_0 : Sv) (R : Bool) (hF : i_AreMethods a_s a_l = some R) :
   Fw.Spec Tryz.prog 36 [v0_0.v, v1_0.v] [crd (RdS 3 rdInt) v0_0.v a_s, crd (RdS 65 rd65) v1_0.v a_l] (fun _ : Unit => (.bool R)) (fun _ => []) := by
 refine Se 18 Tryz.func36 [.tmp 4] ?_
 intro H0 F0
 unfold i_AreMethods at hF
 refine au ?_
 refine AbR (fun k1 => ?_)
 iterate 2 refine au ?_
 obtain ⟨o2, hio2, hO3⟩ := bind_some hF
 refine au ?_
 refine C_cut (fun f' cs' => ∃ (c12 : Bool) (g : Fr), c12 = o2 ∧ f' = updL g [(4, (.bool c12))] ∧ Ent cs' []) ?_ ?_
 · replace hF := hio2
   refine au ?_
   refine bnd hF fun r4 hx5 hF => Cx0 (i_IsSchema_ok _ _ _ hx5) (fun _ => ?_)
   refine au ?_
   rcases Bool.eq_false_or_eq_true r4 with hg7 | hg7
   · rw [hg7]
     try rw [hg7] at hF; dsimp only [cond_true, cond_false] at hF
     iterate 8 refine au ?_
     rcases Bool.eq_false_or_eq_true (decide (((a_l.length : Int) : Int) ≤ 5)) with hg8 | hg8
     · rw [hg8]
       try rw [hg8] at hF; dsimp only [cond_true, cond_false] at hF
       iterate 3 refine au ?_
       refine C_val (V_makeFunc (fn := .func 56) (vs := []) (us := [(pz k1)]) .nil (.cons (.tmp rfl rfl) .nil)) ?_
       refine au ?_
       refine bnd hF fun r9 hx10 hF => Cx0 (g_slices_ContainsFunc_impl_Method_impl_Method_iAreMethods1_ok _ _ _ _ _ _ hx10) (fun _ => ?_)
       iterate 5 refine au ?_
       cases hF
       exact ⟨_, _, rfl, eqA, entA⟩
     rw [hg8]
     try rw [hg8] at hF; dsimp only [cond_true, cond_false] at hF
     iterate 7 refine au ?_
     cases hF
     exact ⟨_, _, rfl, eqA, entA⟩
   rw [hg7]
   try rw [hg7] at hF; dsimp only [cond_true, cond_false] at hF
   iterate 12 refine au ?_
   cases hF
   exact ⟨_, _, rfl, eqA, entA⟩
 rintro _ _ ⟨c12, g13, rfl, rfl, hE⟩
 replace hF := hO3
 try dsimp only at hF
 refine K_ent hE ?_
 refine au ?_
 cases hF
 exact Er ()
def i_isValue (a_n : Int) : Option (Bool) :=
 (i_within a_n 0 9).bind fun r1 =>
 some r1
theorem i_isValue_ok (a_n : Int) (R : Bool) (hF : i_isValue a_n = some R) :
   Fw.Spec Tryz.prog 99 [(.int .i64 a_n)] [] (fun _ : Unit => (.bool R)) (fun _ => []) := by
 refine Se 5 Tryz.func99 [.tmp 2] ?_
 intro H0 F0
 unfold i_isValue at hF
 iterate 5 refine au ?_
 refine bnd hF fun r1 hx2 hF => Cx0 (i_within_ok _ _ _ _ hx2) (fun _ => ?_)
 iterate 3 refine au ?_
 cases hF
 exact Er ()
def i_areValues_1 (a_n : Int) : Option (Bool) :=
 (i_isValue a_n).bind fun r1 =>
 some (!r1)
theorem i_areValues_1_ok (a_n : Int) (R : Bool) (hF : i_areValues_1 a_n = some R) :
   Fw.Spec Tryz.prog 106 [(.int .i64 a_n)] [] (fun _ : Unit => (.bool R)) (fun _ => []) := by
 refine Se 6 Tryz.func106 [.tmp 2] ?_
 intro H0 F0
 unfold i_areValues_1 at hF
 iterate 5 refine au ?_
 refine bnd hF fun r1 hx2 hF => Cx0 (i_isValue_ok _ _ hx2) (fun _ => ?_)
 iterate 4 refine au ?_
 cases hF
 exact Er ()
def g_slices_IndexFunc_int_int_iareValues1_L1 : List Int → Nat → Option (Int)
 | [], k4 => some (-1)
 | x6 :: rest5, k4 => (i_areValues_1 x6).bind fun r15 =>
   if r15 then (
     some (k4 : Int))
   else (
     g_slices_IndexFunc_int_int_iareValues1_L1 rest5 (k4 + 1))
def g_slices_IndexFunc_int_int_iareValues1 (a_s : List Int) : Option (Int) :=
 g_slices_IndexFunc_int_int_iareValues1_L1 a_s 0
theorem g_slices_IndexFunc_int_int_iareValues1_ok (a_s : List Int) (v0_0 : Sv) (R : Int) (hF : g_slices_IndexFunc_int_int_iareValues1 a_s = some R) :
   Fw.Spec Tryz.prog 102 [v0_0.v, (.func (.func 106) [].toArray [].toArray)] [crd (RdS 3 rdInt) v0_0.v a_s] (fun _ : Unit => (.int .i64 R)) (fun _ => []) := by
 refine Se 19 Tryz.func102 [.tmp 4] ?_
 intro H0 F0
 unfold g_slices_IndexFunc_int_int_iareValues1 at hF
 iterate 9 refine au ?_
 refine CW_block (CW_loop (m := a_s.length) (fun m2 f' cs' => ∃ (g : Fr) (k4 : Nat) (rest5 : List Int), m2 = rest5.length ∧ f' = updL g [(0, v0_0.v), (1, (.func (.func 106) [].toArray [].toArray)), (7, (.int .i64 (a_s.length : Int))), (8, (.int .i64 (k4 : Int)))] ∧ List.drop k4 a_s = rest5 ∧ Ent cs' [crd (RdS 3 rdInt) v0_0.v a_s] ∧ g_slices_IndexFunc_int_int_iareValues1_L1 rest5 k4 = some R) ⟨_, 0, _, rfl, eqA, rfl, entA, hF⟩ ?_)
 rintro m2 _ _ ⟨g3, k4, rest5, rfl, rfl, hd7, hE, hF⟩
 refine Kb hE a_s (fun hbd12 => ?_)
 rcases rest5 with _ | ⟨x6, rest5⟩
 · have hk8 := dn hd7
   rw [g_slices_IndexFunc_int_int_iareValues1_L1] at hF
   iterate 4 refine au ?_
   refine CdF ?_
   iterate 8 refine au ?_
   cases hF
   exact Er ()
 obtain ⟨hk8, hx9, hd10⟩ := drop_cons hd7
 rw [g_slices_IndexFunc_int_int_iareValues1_L1] at hF
 iterate 4 refine au ?_
 refine CdT ?_
 iterate 10 refine au ?_
 refine Ai hx9 (fun k13 j14 => ?_)
 refine Al ls3_0 ?_
 refine bnd hF fun r15 hx16 hF => C_x0 .nil (X_callCS cf106.h (.tmp rfl rfl) (.cons (.tmp rfl rfl) .nil) (i_areValues_1_ok x6 _ hx16)) (fun _ => ?_)
 refine au ?_
 refine Ci hF (fun hb19 hF => ?_) (fun hb19 hF => ?_)
 · iterate 5 refine au ?_
   cases hF
   exact Er ()
 iterate 5 refine au ?_
 rw [wk k4]
 exact ⟨_, Nat.lt_succ_self _, _, k4 + 1, rest5, rfl, eqA, hd10, entA, hF⟩
def g_slices_ContainsFunc_int_int_iareValues1 (a_s : List Int) : Option (Bool) :=
 (g_slices_IndexFunc_int_int_iareValues1 a_s).bind fun r1 =>
 some (decide ((0 : Int) ≤ r1))
theorem g_slices_ContainsFunc_int_int_iareValues1_ok (a_s : List Int) (v0_0 : Sv) (R : Bool) (hF : g_slices_ContainsFunc_int_int_iareValues1 a_s = some R) :
   Fw.Spec Tryz.prog 78 [v0_0.v, (.func (.func 106) [].toArray [].toArray)] [crd (RdS 3 rdInt) v0_0.v a_s] (fun _ : Unit => (.bool R)) (fun _ => []) := by
 refine Se 9 Tryz.func78 [.tmp 4] ?_
 intro H0 F0
 unfold g_slices_ContainsFunc_int_int_iareValues1 at hF
 iterate 6 refine au ?_
 refine bnd hF fun r1 hx2 hF => Cx0 (g_slices_IndexFunc_int_int_iareValues1_ok _ _ _ hx2) (fun _ => ?_)
 iterate 4 refine au ?_
 cases hF
 exact Er ()
def i_areValues (a_l : List Int) : Option (Bool) :=
 (g_slices_ContainsFunc_int_int_iareValues1 a_l).bind fun r1 =>
 some (!r1)
theorem i_areValues_ok (a_l : List Int) (v0_0 : Sv) (R : Bool) (hF : i_areValues a_l = some R) :
   Fw.Spec Tryz.prog 83 [v0_0.v] [crd (RdS 3 rdInt) v0_0.v a_l] (fun _ : Unit => (.bool R)) (fun _ => []) := by
 refine Se 6 Tryz.func83 [.tmp 2] ?_
 intro H0 F0
 unfold i_areValues at hF
 iterate 5 refine au ?_
 refine bnd hF fun r1 hx2 hF => Cx0 (g_slices_ContainsFunc_int_int_iareValues1_ok _ _ _ hx2) (fun _ => ?_)
 iterate 4 refine au ?_
 cases hF
 exact Er ()
def i_IsFact (a_s : List Int) (a_f : Fact) : Option (Bool) :=
 ((i_hasRel a_s a_f.Rel).bind fun r4 =>
   bif r4 then ((ix a_s a_f.Rel).bind fun x8 =>
     bif (((a_f.Values.length : Int) : Int) == x8) then ((i_areValues a_f.Values).bind fun r15 =>
       some r15)
     else (some false))
   else (some false)).bind fun o2 =>
 match o2 with
 | c18 => some c18
theorem i_IsFact_ok (a_s : List Int) (v0_0 : Sv) (a_f : Fact) (v1_1 : Sv) (R : Bool) (hF : i_IsFact a_s a_f = some R) :
   Fw.Spec Tryz.prog 58 [v0_0.v, (.agg [(.int .i64 a_f.Rel), v1_1.v].toArray)] [crd (RdS 3 rdInt) v0_0.v a_s, crd (RdS 3 rdInt) v1_1.v a_f.Values] (fun _ : Unit => (.bool R)) (fun _ => []) := by
 refine Se 25 Tryz.func58 [.tmp 4] ?_
 intro H0 F0
 unfold i_IsFact at hF
 refine au ?_
 refine AbR (fun k1 => ?_)
 iterate 2 refine au ?_
 obtain ⟨o2, hio2, hO3⟩ := bind_some hF
 refine K_draw [0, 1, 2, 3, 4, 5, 6, 7, 8, 9, 10, 11, 12, 13, 14, 15, 16, 17, 18, 19, 20] [0, 0, 2, 7, 15, 31, 63, 127, 31, 31, 543, 1823, 3871, 8191, 16383, 32767, 65535, 131071, 262143, 524287, 1048575] [3, 18] mixed (by decide +kernel) ?_
 refine D_cut (fun f' cs' => ∃ (c18 : Bool) (g : Fr), c18 = o2 ∧ f' = updL g [(4, (.bool c18))] ∧ Ent cs' []) ?_ ?_
 · replace hF := hio2
   iterate 3 refine du ?_
   refine bnd hF fun r4 hx5 hF => Dx0 (i_hasRel_ok _ _ _ _ hx5) (fun _ => ?_)
   refine du ?_
   rcases Bool.eq_false_or_eq_true r4 with hg7 | hg7
   · rw [hg7]
     try rw [hg7] at hF; dsimp only [cond_true, cond_false] at hF
     iterate 6 refine du ?_
     refine bnd hF fun x8 hx9 hF => ?_
     obtain ⟨hp10, hx11⟩ := ix_some hx9
     refine Di hx11 (fun k12 j13 => ?_)
     refine Dl ls3_0 ?_
     iterate 3 refine du ?_
     rcases Bool.eq_false_or_eq_true (((a_f.Values.length : Int) : Int) == x8) with hg14 | hg14
     · rw [hg14]
       try rw [hg14] at hF; dsimp only [cond_true, cond_false] at hF
       iterate 2 refine du ?_
       refine bnd hF fun r15 hx16 hF => Dx0 (i_areValues_ok _ _ _ hx16) (fun _ => ?_)
       iterate 3 refine du ?_
       cases hF
       exact ⟨_, _, rfl, eqA, entA⟩
     rw [hg14]
     try rw [hg14] at hF; dsimp only [cond_true, cond_false] at hF
     iterate 6 refine du ?_
     cases hF
     exact ⟨_, _, rfl, eqA, entA⟩
   rw [hg7]
   try rw [hg7] at hF; dsimp only [cond_true, cond_false] at hF
   iterate 17 refine du ?_
   cases hF
   exact ⟨_, _, rfl, eqA, entA⟩
 rintro _ _ ⟨c18, g19, rfl, rfl, hE⟩
 replace hF := hO3
 try dsimp only at hF
 refine K_ent hE ?_
 refine au ?_
 cases hF
 exact Er ()
def g_cmp_isNaN_int (a_x : Int) : Option (Bool) :=
 some ((a_x : Int) != a_x)
theorem g_cmp_isNaN_int_ok (a_x : Int) (R : Bool) (hF : g_cmp_isNaN_int a_x = some R) :
   Fw.Spec Tryz.prog 107 [(.int .i64 a_x)] [] (fun _ : Unit => (.bool R)) (fun _ => []) := by
 refine Se 6 Tryz.func107 [.tmp 2] ?_
 intro H0 F0
 unfold g_cmp_isNaN_int at hF
 iterate 10 refine au ?_
 cases hF
 exact Er ()
def g_cmp_Compare_int (a_x : Int) (a_y : Int) : Option (Int) :=
 (g_cmp_isNaN_int a_x).bind fun r1 =>
 (g_cmp_isNaN_int a_y).bind fun r4 =>
 if r1 then (
   if r4 then (
     some 0)
   else (
     some (-1)))
 else (
   if r4 then (
     some 1)
   else (
     if (decide ((a_x : Int) < a_y)) then (
       some (-1))
     else (
       if (decide ((a_y : Int) < a_x)) then (
         some 1)
       else (
         some 0))))
theorem g_cmp_Compare_int_ok (a_x : Int) (a_y : Int) (R : Int) (hF : g_cmp_Compare_int a_x a_y = some R) :
   Fw.Spec Tryz.prog 85 [(.int .i64 a_x), (.int .i64 a_y)] [] (fun _ : Unit => (.int .i64 R)) (fun _ => []) := by
 refine Se 20 Tryz.func85 [.tmp 4] ?_
 intro H0 F0
 unfold g_cmp_Compare_int at hF
 iterate 5 refine au ?_
 refine bnd hF fun r1 hx2 hF => Cx0 (g_cmp_isNaN_int_ok _ _ hx2) (fun _ => ?_)
 iterate 4 refine au ?_
 refine bnd hF fun r4 hx5 hF => Cx0 (g_cmp_isNaN_int_ok _ _ hx5) (fun _ => ?_)
 iterate 6 refine au ?_
 refine Ci hF (fun hb11 hF => ?_) (fun hb11 hF => ?_)
 · iterate 4 refine au ?_
   refine Ci hF (fun hb7 hF => ?_) (fun hb7 hF => ?_)
   · iterate 4 refine au ?_
     cases hF
     exact Er ()
   iterate 5 refine au ?_
   cases hF
   exact Er ()
 iterate 5 refine au ?_
 refine Ci hF (fun hb10 hF => ?_) (fun hb10 hF => ?_)
 · iterate 4 refine au ?_
   cases hF
   exact Er ()
 iterate 7 refine au ?_
 refine Ci hF (fun hb9 hF => ?_) (fun hb9 hF => ?_)
 · iterate 4 refine au ?_
   cases hF
   exact Er ()
 iterate 7 refine au ?_
 refine Ci hF (fun hb8 hF => ?_) (fun hb8 hF => ?_)
 · iterate 4 refine au ?_
   cases hF
   exact Er ()
 iterate 5 refine au ?_
 cases hF
 exact Er ()
def g_slices_Compare_int_int_L1 (a_s1 : List Int) (a_s2 : List Int) : List Int → Nat → Option (Int)
 | [], k4 => if (decide (((a_s1.length : Int) : Int) < (a_s2.length : Int))) then (
     some (-1))
   else (
     some 0)
 | x6 :: rest5, k4 => if (decide (((a_s2.length : Int) : Int) ≤ (k4 : Int))) then (
     some 1)
   else (
     (ix a_s2 (k4 : Int)).bind fun x16 =>
     (g_cmp_Compare_int x6 x16).bind fun r22 =>
     if ((r22 : Int) != 0) then (
       some r22)
     else (
       g_slices_Compare_int_int_L1 a_s1 a_s2 rest5 (k4 + 1)))
def g_slices_Compare_int_int (a_s1 : List Int) (a_s2 : List Int) : Option (Int) :=
 g_slices_Compare_int_int_L1 a_s1 a_s2 a_s1 0
theorem g_slices_Compare_int_int_ok (a_s1 : List Int) (v0_0 : Sv) (a_s2 : List Int) (v1_0 : Sv) (R : Int) (hF : g_slices_Compare_int_int a_s1 a_s2 = some R) :
   Fw.Spec Tryz.prog 86 [v0_0.v, v1_0.v] [crd (RdS 3 rdInt) v0_0.v a_s1, crd (RdS 3 rdInt) v1_0.v a_s2] (fun _ : Unit => (.int .i64 R)) (fun _ => []) := by
 refine Se 36 Tryz.func86 [.tmp 4] ?_
 intro H0 F0
 unfold g_slices_Compare_int_int at hF
 iterate 9 refine au ?_
 refine CW_block (CW_loop (m := a_s1.length) (fun m2 f' cs' => ∃ (g : Fr) (k4 : Nat) (rest5 : List Int), m2 = rest5.length ∧ f' = updL g [(0, v0_0.v), (1, v1_0.v), (9, v0_0.v), (10, (.int .i64 (a_s1.length : Int))), (11, (.int .i64 (k4 : Int)))] ∧ List.drop k4 a_s1 = rest5 ∧ Ent cs' [crd (RdS 3 rdInt) v0_0.v a_s1, crd (RdS 3 rdInt) v1_0.v a_s2] ∧ g_slices_Compare_int_int_L1 a_s1 a_s2 rest5 k4 = some R) ⟨_, 0, _, rfl, eqA, rfl, entA, hF⟩ ?_)
 rintro m2 _ _ ⟨g3, k4, rest5, rfl, rfl, hd7, hE, hF⟩
 refine Kb hE a_s1 (fun hbd12 => ?_)
 rcases rest5 with _ | ⟨x6, rest5⟩
 · have hk8 := dn hd7
   rw [g_slices_Compare_int_int_L1] at hF
   iterate 4 refine au ?_
   refine CdF ?_
   iterate 12 refine au ?_
   refine Ci hF (fun hb13 hF => ?_) (fun hb13 hF => ?_)
   · iterate 4 refine au ?_
     cases hF
     exact Er ()
   iterate 5 refine au ?_
   cases hF
   exact Er ()
 obtain ⟨hk8, hx9, hd10⟩ := drop_cons hd7
 rw [g_slices_Compare_int_int_L1] at hF
 iterate 4 refine au ?_
 refine CdT ?_
 iterate 4 refine au ?_
 refine Ai hx9 (fun k14 j15 => ?_)
 refine Al ls3_0 ?_
 iterate 10 refine au ?_
 refine Ci hF (fun hb27 hF => ?_) (fun hb27 hF => ?_)
 · iterate 4 refine au ?_
   cases hF
   exact Er ()
 iterate 4 refine au ?_
 refine bnd hF fun x16 hx17 hF => ?_
 obtain ⟨hp18, hx19⟩ := ix_some hx17
 refine Ai hx19 (fun k20 j21 => ?_)
 refine Al ls3_0 ?_
 iterate 5 refine au ?_
 refine bnd hF fun r22 hx23 hF => Cx0 (g_cmp_Compare_int_ok _ _ _ hx23) (fun _ => ?_)
 iterate 6 refine au ?_
 refine Ci hF (fun hb26 hF => ?_) (fun hb26 hF => ?_)
 · iterate 5 refine au ?_
   cases hF
   exact Er ()
 iterate 5 refine au ?_
 rw [wk k4]
 exact ⟨_, Nat.lt_succ_self _, _, k4 + 1, rest5, rfl, eqA, hd10, entA, hF⟩
def g_cmp_Or_int_L1 : List Int → Nat → Option (Int)
 | [], k4 => some 0
 | x6 :: rest5, k4 => if ((x6 : Int) != 0) then (
     some x6)
   else (
     g_cmp_Or_int_L1 rest5 (k4 + 1))
def g_cmp_Or_int (a_vals : List Int) : Option (Int) :=
 g_cmp_Or_int_L1 a_vals 0
theorem g_cmp_Or_int_ok (a_vals : List Int) (v0_0 : Sv) (R : Int) (hF : g_cmp_Or_int a_vals = some R) :
   Fw.Spec Tryz.prog 84 [v0_0.v] [crd (RdS 3 rdInt) v0_0.v a_vals] (fun _ : Unit => (.int .i64 R)) (fun _ => []) := by
 refine Se 18 Tryz.func84 [.tmp 2] ?_
 intro H0 F0
 unfold g_cmp_Or_int at hF
 iterate 12 refine au ?_
 refine CW_block (CW_loop (m := a_vals.length) (fun m2 f' cs' => ∃ (g : Fr) (k4 : Nat) (rest5 : List Int), m2 = rest5.length ∧ f' = updL g [(3, (.int .i64 0)), (6, v0_0.v), (7, (.int .i64 (a_vals.length : Int))), (8, (.int .i64 (k4 : Int)))] ∧ List.drop k4 a_vals = rest5 ∧ Ent cs' [crd (RdS 3 rdInt) v0_0.v a_vals] ∧ g_cmp_Or_int_L1 rest5 k4 = some R) ⟨_, 0, _, rfl, eqA, rfl, entA, hF⟩ ?_)
 rintro m2 _ _ ⟨g3, k4, rest5, rfl, rfl, hd7, hE, hF⟩
 refine Kb hE a_vals (fun hbd12 => ?_)
 rcases rest5 with _ | ⟨x6, rest5⟩
 · have hk8 := dn hd7
   rw [g_cmp_Or_int_L1] at hF
   iterate 4 refine au ?_
   refine CdF ?_
   iterate 9 refine au ?_
   cases hF
   exact Er ()
 obtain ⟨hk8, hx9, hd10⟩ := drop_cons hd7
 rw [g_cmp_Or_int_L1] at hF
 iterate 4 refine au ?_
 refine CdT ?_
 iterate 3 refine au ?_
 refine Ai hx9 (fun k13 j14 => ?_)
 refine Al ls3_0 ?_
 iterate 7 refine au ?_
 refine Ci hF (fun hb16 hF => ?_) (fun hb16 hF => ?_)
 · iterate 5 refine au ?_
   cases hF
   exact Er ()
 iterate 5 refine au ?_
 rw [wk k4]
 exact ⟨_, Nat.lt_succ_self _, _, k4 + 1, rest5, rfl, eqA, hd10, entA, hF⟩
end Go.Proofs.YtopbakibjfoccaaGreat
