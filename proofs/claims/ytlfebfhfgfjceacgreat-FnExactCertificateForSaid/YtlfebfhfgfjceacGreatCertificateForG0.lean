/-
  Functions of the program as Lean functions, and that the calls return what these say: part 1. No conditions.
-/
import Derived.Test.YtlfebfhfgfjceacGreatFcCertificateFor
import Derived.Shelf.Sort.Plain
import Derived.Shelf.Slices.In.SortNone
import Derived.Shelf.Slices.CompactI
import Derived.Test.YtlfebfhfgfjceacGreatProg
import Derived.KernelRfl
set_option maxRecDepth 100000
set_option maxHeartbeats 1000000
set_option linter.unusedVariables false
namespace Go.Proofs.YtlfebfhfgfjceacGreat
open Go Go.Fw

instance : LaidP Tryz.prog := ⟨fun _ => True⟩
structure Method where
 Rel : Int
 Inputs : List Int
 Limit : Int
 Cost : Int
 Quota : Int
structure Atom where
 Rel : Int
 Terms : List Int
structure Query where
 Head : List Int
 Atoms : List Atom
instance ty26 : ITY Tryz.prog 26 2 48 (.agg [(.slice none 0 0), (.slice none 0 0)].toArray) := ⟨by unfold TY; kernel_rfl⟩
instance sl22 : ISL Tryz.prog 22 3 := ⟨by unfold SL; kernel_rfl⟩
instance cf4 : ICF Tryz.prog 4 := ⟨Tryz.call4⟩
instance sl23 : ISL Tryz.prog 23 52 := ⟨by unfold SL; kernel_rfl⟩
def rd52 (H : AHeap) (v : Value) (a : Method) : Prop := ∃ v0 : Sv, v = .agg [(.int .i64 a.Rel), v0.v, (.int .i64 a.Limit), (.int .i64 a.Cost), (.int .i64 a.Quota)].toArray ∧ (RdS 3 rdInt) H v0.v a.Inputs
instance : Mono rd52 := ⟨fun h hi => by
 obtain ⟨v0, h, h0⟩ := h
 exact ⟨v0, h, Mono.up h0 hi⟩⟩
instance : Cells rd52 5 := ⟨fun h => by
 obtain ⟨v0, rfl, h0⟩ := h
 exact ⟨rfl, rfl⟩⟩
instance ty52 : ITY Tryz.prog 52 5 56 (.agg [(.int .i64 0), (.slice none 0 0), (.int .i64 0), (.int .i64 0), (.int .i64 0)].toArray) := ⟨by unfold TY; kernel_rfl⟩
def ul52_0_52 (a : Method) (p : Sv) : List Value := [(.int .i64 a.Rel), p.v, (.int .i64 a.Limit), (.int .i64 a.Cost), (.int .i64 a.Quota)]
theorem la52_0_52 {a : Method} : ∀ H e, rd52 H e a → ∃ i : Sv, 0 + 5 ≤ e.cells.size ∧ (e.cells.toList.drop 0).take 5 = ul52_0_52 a i ∧ ∀ c ∈ ([crd (RdS 3 rdInt) i.v a.Inputs] : List Comp), c.P H ∧ c.F = [] := by
 intro H e h
 obtain ⟨v0, rfl, h0⟩ := h
 refine ⟨v0, Nat.le_of_ble_eq_true rfl, rfl, fun c hc => by
   simp only [List.mem_cons, List.not_mem_nil, or_false] at hc
   rcases hc with rfl
   · exact ⟨h0, rfl⟩
⟩
instance ag52 : IAG Tryz.prog 52 true := ⟨by unfold AG; kernel_rfl⟩
instance cf20 : ICF Tryz.prog 20 := ⟨Tryz.call20⟩
instance fd52_1 : IFD Tryz.prog 52 1 1 := ⟨by unfold FD; kernel_rfl⟩
instance ag22 : IAG Tryz.prog 22 false := ⟨by unfold AG; kernel_rfl⟩
instance cf21 : ICF Tryz.prog 21 := ⟨Tryz.call21⟩
instance ag26 : IAG Tryz.prog 26 true := ⟨by unfold AG; kernel_rfl⟩
instance cf5 : ICF Tryz.prog 5 := ⟨Tryz.call5⟩
instance fd26_0 : IFD Tryz.prog 26 0 0 := ⟨by unfold FD; kernel_rfl⟩
instance fd26_1 : IFD Tryz.prog 26 1 1 := ⟨by unfold FD; kernel_rfl⟩
instance ag24 : IAG Tryz.prog 24 false := ⟨by unfold AG; kernel_rfl⟩
instance cf22 : ICF Tryz.prog 22 := ⟨Tryz.call22⟩
instance sl24 : ISL Tryz.prog 24 76 := ⟨by unfold SL; kernel_rfl⟩
def rd76 (H : AHeap) (v : Value) (a : Atom) : Prop := ∃ v0 : Sv, v = .agg [(.int .i64 a.Rel), v0.v].toArray ∧ (RdS 3 rdInt) H v0.v a.Terms
instance : Mono rd76 := ⟨fun h hi => by
 obtain ⟨v0, h, h0⟩ := h
 exact ⟨v0, h, Mono.up h0 hi⟩⟩
instance : Cells rd76 2 := ⟨fun h => by
 obtain ⟨v0, rfl, h0⟩ := h
 exact ⟨rfl, rfl⟩⟩
instance ty76 : ITY Tryz.prog 76 2 32 (.agg [(.int .i64 0), (.slice none 0 0)].toArray) := ⟨by unfold TY; kernel_rfl⟩
def ul76_0_76 (a : Atom) (p : Sv) : List Value := [(.int .i64 a.Rel), p.v]
theorem la76_0_76 {a : Atom} : ∀ H e, rd76 H e a → ∃ i : Sv, 0 + 2 ≤ e.cells.size ∧ (e.cells.toList.drop 0).take 2 = ul76_0_76 a i ∧ ∀ c ∈ ([crd (RdS 3 rdInt) i.v a.Terms] : List Comp), c.P H ∧ c.F = [] := by
 intro H e h
 obtain ⟨v0, rfl, h0⟩ := h
 refine ⟨v0, Nat.le_of_ble_eq_true rfl, rfl, fun c hc => by
   simp only [List.mem_cons, List.not_mem_nil, or_false] at hc
   rcases hc with rfl
   · exact ⟨h0, rfl⟩
⟩
instance ag76 : IAG Tryz.prog 76 true := ⟨by unfold AG; kernel_rfl⟩
instance cf44 : ICF Tryz.prog 44 := ⟨Tryz.call44⟩
instance fd76_1 : IFD Tryz.prog 76 1 1 := ⟨by unfold FD; kernel_rfl⟩
theorem mixed : Tryz.prog.follows .mixedOrders = true := by kernel_rfl
structure Fact where
 Rel : Int
 Values : List Int
structure Certificate where
 All : List Fact
 Some : List Fact
 Tuple : List Int
instance ty31 : ITY Tryz.prog 31 3 72 (.agg [(.slice none 0 0), (.slice none 0 0), (.slice none 0 0)].toArray) := ⟨by unfold TY; kernel_rfl⟩
instance cf7 : ICF Tryz.prog 7 := ⟨Tryz.call7⟩
instance ty3 : ITY Tryz.prog 3 1 8 (.int .i64 0) := ⟨by unfold TY; kernel_rfl⟩
theorem ls3_0 {a : Int} : ∀ H e, rdInt H e a → e.cells.toList[0]? = some (.int .i64 a) := by
 intro H e h
 subst h
 rfl
instance ag3 : IAG Tryz.prog 3 false := ⟨by unfold AG; kernel_rfl⟩
instance cf8 : ICF Tryz.prog 8 := ⟨Tryz.call8⟩
instance sl35 : ISL Tryz.prog 35 65 := ⟨by unfold SL; kernel_rfl⟩
instance ty65 : ITY Tryz.prog 65 5 56 (.agg [(.int .i64 0), (.slice none 0 0), (.int .i64 0), (.int .i64 0), (.int .i64 0)].toArray) := ⟨by unfold TY; kernel_rfl⟩
def rd65 (H : AHeap) (v : Value) (a : Method) : Prop := ∃ v0 : Sv, v = .agg [(.int .i64 a.Rel), v0.v, (.int .i64 a.Limit), (.int .i64 a.Cost), (.int .i64 a.Quota)].toArray ∧ (RdS 3 rdInt) H v0.v a.Inputs
instance : Mono rd65 := ⟨fun h hi => by
 obtain ⟨v0, h, h0⟩ := h
 exact ⟨v0, h, Mono.up h0 hi⟩⟩
instance : Cells rd65 5 := ⟨fun h => by
 obtain ⟨v0, rfl, h0⟩ := h
 exact ⟨rfl, rfl⟩⟩
def ow65 : ORel Method := fun F H v a => ∃ (v0 : Sv) (F0 : List Nat), v = .agg [(.int .i64 a.Rel), v0.v, (.int .i64 a.Limit), (.int .i64 a.Cost), (.int .i64 a.Quota)].toArray ∧ F0 = F ∧ (OwnS 3 (roE rdInt)) F0 H v0.v a.Inputs
instance : Keep ow65 := ⟨fun h hi hg => by
 obtain ⟨v0, F0, rfl, rfl, h0⟩ := h
 exact ⟨v0, F0, rfl, rfl, Keep.keep h0 hi (fun k hk => hg k (by simp [hk]))⟩⟩
instance : Local ow65 := ⟨fun h hg => by
 obtain ⟨v0, F0, rfl, rfl, h0⟩ := h
 exact ⟨v0, F0, rfl, rfl, Local.keep h0 (fun k hk => hg k (by simp [hk]))⟩⟩
instance : Owns ow65 := ⟨fun h k hk => by
 obtain ⟨v0, F0, rfl, rfl, h0⟩ := h
 exact Owns.owns h0 k hk
⟩
instance : OCells ow65 5 := ⟨fun h => by
 obtain ⟨v0, F0, rfl, rfl, h0⟩ := h
 exact ⟨rfl, rfl⟩⟩
instance : Frz ow65 rd65 := ⟨fun h hg => by
 obtain ⟨v0, F0, rfl, rfl, h0⟩ := h
 exact ⟨v0, rfl, Frz.frz h0 (fun k hk => hg k (by simp [hk]))⟩⟩
instance cf29 : ICF Tryz.prog 29 := ⟨Tryz.call29⟩
instance fd52_0 : IFD Tryz.prog 52 0 0 := ⟨by unfold FD; kernel_rfl⟩
instance fd65_0 : IFD Tryz.prog 65 0 0 := ⟨by unfold FD; kernel_rfl⟩
instance fd65_1 : IFD Tryz.prog 65 1 1 := ⟨by unfold FD; kernel_rfl⟩
instance ty22 : ITY Tryz.prog 22 1 24 (.slice none 0 0) := ⟨by unfold TY; kernel_rfl⟩
instance fd52_2 : IFD Tryz.prog 52 2 2 := ⟨by unfold FD; kernel_rfl⟩
instance fd65_2 : IFD Tryz.prog 65 2 2 := ⟨by unfold FD; kernel_rfl⟩
instance fd52_3 : IFD Tryz.prog 52 3 3 := ⟨by unfold FD; kernel_rfl⟩
instance fd65_3 : IFD Tryz.prog 65 3 3 := ⟨by unfold FD; kernel_rfl⟩
instance fd52_4 : IFD Tryz.prog 52 4 4 := ⟨by unfold FD; kernel_rfl⟩
instance fd65_4 : IFD Tryz.prog 65 4 4 := ⟨by unfold FD; kernel_rfl⟩
instance ag65 : IAG Tryz.prog 65 true := ⟨by unfold AG; kernel_rfl⟩
theorem mk65 {a : Method} {v0 : Sv} {F0 : List Nat} : Mk ow65 F0 (.agg [(.int .i64 a.Rel), v0.v, (.int .i64 a.Limit), (.int .i64 a.Cost), (.int .i64 a.Quota)].toArray) a [cown (OwnS 3 (roE rdInt)) F0 v0.v a.Inputs] :=
 ⟨fun H h => ⟨v0, F0, rfl, rfl, h (cown (OwnS 3 (roE rdInt)) F0 v0.v a.Inputs) (by simp)⟩, by simp [cown]⟩
instance cf9 : ICF Tryz.prog 9 := ⟨Tryz.call9⟩
instance ty39 : ITY Tryz.prog 39 2 48 (.agg [(.slice none 0 0), (.slice none 0 0)].toArray) := ⟨by unfold TY; kernel_rfl⟩
instance fd39_0 : IFD Tryz.prog 39 0 0 := ⟨by unfold FD; kernel_rfl⟩
instance cf30 : ICF Tryz.prog 30 := ⟨Tryz.call30⟩
instance sl37 : ISL Tryz.prog 37 84 := ⟨by unfold SL; kernel_rfl⟩
instance ty84 : ITY Tryz.prog 84 2 32 (.agg [(.int .i64 0), (.slice none 0 0)].toArray) := ⟨by unfold TY; kernel_rfl⟩
def rd84 (H : AHeap) (v : Value) (a : Atom) : Prop := ∃ v0 : Sv, v = .agg [(.int .i64 a.Rel), v0.v].toArray ∧ (RdS 3 rdInt) H v0.v a.Terms
instance : Mono rd84 := ⟨fun h hi => by
 obtain ⟨v0, h, h0⟩ := h
 exact ⟨v0, h, Mono.up h0 hi⟩⟩
instance : Cells rd84 2 := ⟨fun h => by
 obtain ⟨v0, rfl, h0⟩ := h
 exact ⟨rfl, rfl⟩⟩
def ow84 : ORel Atom := fun F H v a => ∃ (v0 : Sv) (F0 : List Nat), v = .agg [(.int .i64 a.Rel), v0.v].toArray ∧ F0 = F ∧ (OwnS 3 (roE rdInt)) F0 H v0.v a.Terms
instance : Keep ow84 := ⟨fun h hi hg => by
 obtain ⟨v0, F0, rfl, rfl, h0⟩ := h
 exact ⟨v0, F0, rfl, rfl, Keep.keep h0 hi (fun k hk => hg k (by simp [hk]))⟩⟩
instance : Local ow84 := ⟨fun h hg => by
 obtain ⟨v0, F0, rfl, rfl, h0⟩ := h
 exact ⟨v0, F0, rfl, rfl, Local.keep h0 (fun k hk => hg k (by simp [hk]))⟩⟩
instance : Owns ow84 := ⟨fun h k hk => by
 obtain ⟨v0, F0, rfl, rfl, h0⟩ := h
 exact Owns.owns h0 k hk
⟩
instance : OCells ow84 2 := ⟨fun h => by
 obtain ⟨v0, F0, rfl, rfl, h0⟩ := h
 exact ⟨rfl, rfl⟩⟩
instance : Frz ow84 rd84 := ⟨fun h hg => by
 obtain ⟨v0, F0, rfl, rfl, h0⟩ := h
 exact ⟨v0, rfl, Frz.frz h0 (fun k hk => hg k (by simp [hk]))⟩⟩
instance cf58 : ICF Tryz.prog 58 := ⟨Tryz.call58⟩
instance fd76_0 : IFD Tryz.prog 76 0 0 := ⟨by unfold FD; kernel_rfl⟩
instance fd84_0 : IFD Tryz.prog 84 0 0 := ⟨by unfold FD; kernel_rfl⟩
instance fd84_1 : IFD Tryz.prog 84 1 1 := ⟨by unfold FD; kernel_rfl⟩
instance ag84 : IAG Tryz.prog 84 true := ⟨by unfold AG; kernel_rfl⟩
theorem mk84 {a : Atom} {v0 : Sv} {F0 : List Nat} : Mk ow84 F0 (.agg [(.int .i64 a.Rel), v0.v].toArray) a [cown (OwnS 3 (roE rdInt)) F0 v0.v a.Terms] :=
 ⟨fun H h => ⟨v0, F0, rfl, rfl, h (cown (OwnS 3 (roE rdInt)) F0 v0.v a.Terms) (by simp)⟩, by simp [cown]⟩
instance fd39_1 : IFD Tryz.prog 39 1 1 := ⟨by unfold FD; kernel_rfl⟩
instance ty37 : ITY Tryz.prog 37 1 24 (.slice none 0 0) := ⟨by unfold TY; kernel_rfl⟩
instance ag39 : IAG Tryz.prog 39 true := ⟨by unfold AG; kernel_rfl⟩
instance cf6 : ICF Tryz.prog 6 := ⟨Tryz.call6⟩
instance cf23 : ICF Tryz.prog 23 := ⟨Tryz.call23⟩
instance cf45 : ICF Tryz.prog 45 := ⟨Tryz.call45⟩
instance cf72 : ICF Tryz.prog 72 := ⟨Tryz.call72⟩
instance cf56 : ICF Tryz.prog 56 := ⟨Tryz.call56⟩
def ul65_0_65 (a : Method) (p : Sv) : List Value := [(.int .i64 a.Rel), p.v, (.int .i64 a.Limit), (.int .i64 a.Cost), (.int .i64 a.Quota)]
theorem la65_0_65 {a : Method} : ∀ H e, rd65 H e a → ∃ i : Sv, 0 + 5 ≤ e.cells.size ∧ (e.cells.toList.drop 0).take 5 = ul65_0_65 a i ∧ ∀ c ∈ ([crd (RdS 3 rdInt) i.v a.Inputs] : List Comp), c.P H ∧ c.F = [] := by
 intro H e h
 obtain ⟨v0, rfl, h0⟩ := h
 refine ⟨v0, Nat.le_of_ble_eq_true rfl, rfl, fun c hc => by
   simp only [List.mem_cons, List.not_mem_nil, or_false] at hc
   rcases hc with rfl
   · exact ⟨h0, rfl⟩
⟩
instance cf71 : ICF Tryz.prog 71 := ⟨Tryz.call71⟩
instance cf46 : ICF Tryz.prog 46 := ⟨Tryz.call46⟩
instance ag37 : IAG Tryz.prog 37 false := ⟨by unfold AG; kernel_rfl⟩
instance cf49 : ICF Tryz.prog 49 := ⟨Tryz.call49⟩
theorem lv84_1 {a : Atom} : ∀ H e, rd84 H e a → ∃ w : Sv, e.cells.toList[1]? = some w.v ∧ (RdS 3 rdInt) H w.v a.Terms := by
 intro H e h
 obtain ⟨v0, rfl, h0⟩ := h
 exact ⟨v0, rfl, h0⟩
instance cf79 : ICF Tryz.prog 79 := ⟨Tryz.call79⟩
instance cf57 : ICF Tryz.prog 57 := ⟨Tryz.call57⟩
instance cf50 : ICF Tryz.prog 50 := ⟨Tryz.call50⟩
theorem ni22 : NotInt Tryz.prog 22 := .inr ⟨3, by kernel_rfl⟩
def ul84_0_84 (a : Atom) (p : Sv) : List Value := [(.int .i64 a.Rel), p.v]
theorem la84_0_84 {a : Atom} : ∀ H e, rd84 H e a → ∃ i : Sv, 0 + 2 ≤ e.cells.size ∧ (e.cells.toList.drop 0).take 2 = ul84_0_84 a i ∧ ∀ c ∈ ([crd (RdS 3 rdInt) i.v a.Terms] : List Comp), c.P H ∧ c.F = [] := by
 intro H e h
 obtain ⟨v0, rfl, h0⟩ := h
 refine ⟨v0, Nat.le_of_ble_eq_true rfl, rfl, fun c hc => by
   simp only [List.mem_cons, List.not_mem_nil, or_false] at hc
   rcases hc with rfl
   · exact ⟨h0, rfl⟩
⟩
instance cf73 : ICF Tryz.prog 73 := ⟨Tryz.call73⟩
instance cf111 : ICF Tryz.prog 111 := ⟨Tryz.call111⟩
instance cf24 : ICF Tryz.prog 24 := ⟨Tryz.call24⟩
instance cf47 : ICF Tryz.prog 47 := ⟨Tryz.call47⟩
instance cf75 : ICF Tryz.prog 75 := ⟨Tryz.call75⟩
theorem mr65 {a : Method} {v0 : Sv} : Mk (roE rd65) [] (.agg [(.int .i64 a.Rel), v0.v, (.int .i64 a.Limit), (.int .i64 a.Cost), (.int .i64 a.Quota)].toArray) a [crd (RdS 3 rdInt) v0.v a.Inputs] :=
 ⟨fun H h => ⟨rfl, v0, rfl, h (crd (RdS 3 rdInt) v0.v a.Inputs) (by simp)⟩, by simp [crd]⟩
theorem ni35 : NotInt Tryz.prog 35 := .inr ⟨65, by kernel_rfl⟩
instance cf74 : ICF Tryz.prog 74 := ⟨Tryz.call74⟩
structure Step where
 Atom : Int
 Method : Int
instance sl104 : ISL Tryz.prog 104 108 := ⟨by unfold SL; kernel_rfl⟩
instance ty108 : ITY Tryz.prog 108 2 16 (.agg [(.int .i64 0), (.int .i64 0)].toArray) := ⟨by unfold TY; kernel_rfl⟩
def rd108 (_ : AHeap) (v : Value) (a : Step) : Prop := v = .agg [(.int .i64 a.Atom), (.int .i64 a.Method)].toArray
instance : Pure rd108 := ⟨fun h => h⟩
instance : Cells rd108 2 := ⟨fun h => by
 subst h
 exact ⟨rfl, rfl⟩⟩
instance cf112 : ICF Tryz.prog 112 := ⟨Tryz.call112⟩
instance cf152 : ICF Tryz.prog 152 := ⟨Tryz.call152⟩
theorem ni104 : NotInt Tryz.prog 104 := .inr ⟨108, by kernel_rfl⟩
instance cf113 : ICF Tryz.prog 113 := ⟨Tryz.call113⟩
instance fd108_0 : IFD Tryz.prog 108 0 0 := ⟨by unfold FD; kernel_rfl⟩
theorem lo108_0 {a : Step} : ∀ F H e, (roE rd108) F H e a → e.cells.toList[0]? = some (.int .i64 a.Atom) := by
 intro F H e h
 obtain ⟨-, h⟩ := h
 subst h
 rfl
theorem ls84_0 {a : Atom} : ∀ H e, rd84 H e a → e.cells.toList[0]? = some (.int .i64 a.Rel) := by
 intro H e h
 obtain ⟨_, rfl, _⟩ := h
 rfl
instance cf76 : ICF Tryz.prog 76 := ⟨Tryz.call76⟩
theorem ni37 : NotInt Tryz.prog 37 := .inr ⟨84, by kernel_rfl⟩
instance cf48 : ICF Tryz.prog 48 := ⟨Tryz.call48⟩
instance cf77 : ICF Tryz.prog 77 := ⟨Tryz.call77⟩
structure Binding where
 Vars : List Int
 Values : List Int
instance ty56 : ITY Tryz.prog 56 2 48 (.agg [(.slice none 0 0), (.slice none 0 0)].toArray) := ⟨by unfold TY; kernel_rfl⟩
instance cf114 : ICF Tryz.prog 114 := ⟨Tryz.call114⟩
instance cf27 : ICF Tryz.prog 27 := ⟨Tryz.call27⟩
instance cf25 : ICF Tryz.prog 25 := ⟨Tryz.call25⟩
instance sl29 : ISL Tryz.prog 29 86 := ⟨by unfold SL; kernel_rfl⟩
instance ty86 : ITY Tryz.prog 86 2 32 (.agg [(.int .i64 0), (.slice none 0 0)].toArray) := ⟨by unfold TY; kernel_rfl⟩
def rd86 (H : AHeap) (v : Value) (a : Fact) : Prop := ∃ v0 : Sv, v = .agg [(.int .i64 a.Rel), v0.v].toArray ∧ (RdS 3 rdInt) H v0.v a.Values
instance : Mono rd86 := ⟨fun h hi => by
 obtain ⟨v0, h, h0⟩ := h
 exact ⟨v0, h, Mono.up h0 hi⟩⟩
instance : Cells rd86 2 := ⟨fun h => by
 obtain ⟨v0, rfl, h0⟩ := h
 exact ⟨rfl, rfl⟩⟩
def ow86 : ORel Fact := fun F H v a => ∃ (v0 : Sv) (F0 : List Nat), v = .agg [(.int .i64 a.Rel), v0.v].toArray ∧ F0 = F ∧ (OwnS 3 (roE rdInt)) F0 H v0.v a.Values
instance : Keep ow86 := ⟨fun h hi hg => by
 obtain ⟨v0, F0, rfl, rfl, h0⟩ := h
 exact ⟨v0, F0, rfl, rfl, Keep.keep h0 hi (fun k hk => hg k (by simp [hk]))⟩⟩
instance : Local ow86 := ⟨fun h hg => by
 obtain ⟨v0, F0, rfl, rfl, h0⟩ := h
 exact ⟨v0, F0, rfl, rfl, Local.keep h0 (fun k hk => hg k (by simp [hk]))⟩⟩
instance : Owns ow86 := ⟨fun h k hk => by
 obtain ⟨v0, F0, rfl, rfl, h0⟩ := h
 exact Owns.owns h0 k hk
⟩
instance : OCells ow86 2 := ⟨fun h => by
 obtain ⟨v0, F0, rfl, rfl, h0⟩ := h
 exact ⟨rfl, rfl⟩⟩
instance : Frz ow86 rd86 := ⟨fun h hg => by
 obtain ⟨v0, F0, rfl, rfl, h0⟩ := h
 exact ⟨v0, rfl, Frz.frz h0 (fun k hk => hg k (by simp [hk]))⟩⟩
instance ag56 : IAG Tryz.prog 56 true := ⟨by unfold AG; kernel_rfl⟩
instance fd86_1 : IFD Tryz.prog 86 1 1 := ⟨by unfold FD; kernel_rfl⟩
instance cf52 : ICF Tryz.prog 52 := ⟨Tryz.call52⟩
instance fd56_0 : IFD Tryz.prog 56 0 0 := ⟨by unfold FD; kernel_rfl⟩
instance fd56_1 : IFD Tryz.prog 56 1 1 := ⟨by unfold FD; kernel_rfl⟩
instance ag86 : IAG Tryz.prog 86 true := ⟨by unfold AG; kernel_rfl⟩
instance cf53 : ICF Tryz.prog 53 := ⟨Tryz.call53⟩
instance cf80 : ICF Tryz.prog 80 := ⟨Tryz.call80⟩
def ul86_0_86 (a : Fact) (p : Sv) : List Value := [(.int .i64 a.Rel), p.v]
theorem la86_0_86 {a : Fact} : ∀ H e, rd86 H e a → ∃ i : Sv, 0 + 2 ≤ e.cells.size ∧ (e.cells.toList.drop 0).take 2 = ul86_0_86 a i ∧ ∀ c ∈ ([crd (RdS 3 rdInt) i.v a.Values] : List Comp), c.P H ∧ c.F = [] := by
 intro H e h
 obtain ⟨v0, rfl, h0⟩ := h
 refine ⟨v0, Nat.le_of_ble_eq_true rfl, rfl, fun c hc => by
   simp only [List.mem_cons, List.not_mem_nil, or_false] at hc
   rcases hc with rfl
   · exact ⟨h0, rfl⟩
⟩
instance cf81 : ICF Tryz.prog 81 := ⟨Tryz.call81⟩
instance fd86_0 : IFD Tryz.prog 86 0 0 := ⟨by unfold FD; kernel_rfl⟩
instance cf82 : ICF Tryz.prog 82 := ⟨Tryz.call82⟩
theorem mk86 {a : Fact} {v0 : Sv} {F0 : List Nat} : Mk ow86 F0 (.agg [(.int .i64 a.Rel), v0.v].toArray) a [cown (OwnS 3 (roE rdInt)) F0 v0.v a.Values] :=
 ⟨fun H h => ⟨v0, F0, rfl, rfl, h (cown (OwnS 3 (roE rdInt)) F0 v0.v a.Values) (by simp)⟩, by simp [cown]⟩
theorem ni29 : NotInt Tryz.prog 29 := .inr ⟨86, by kernel_rfl⟩
theorem ls86_0 {a : Fact} : ∀ H e, rd86 H e a → e.cells.toList[0]? = some (.int .i64 a.Rel) := by
 intro H e h
 obtain ⟨_, rfl, _⟩ := h
 rfl
theorem lv86_1 {a : Fact} : ∀ H e, rd86 H e a → ∃ w : Sv, e.cells.toList[1]? = some w.v ∧ (RdS 3 rdInt) H w.v a.Values := by
 intro H e h
 obtain ⟨v0, rfl, h0⟩ := h
 exact ⟨v0, rfl, h0⟩
instance cf51 : ICF Tryz.prog 51 := ⟨Tryz.call51⟩
theorem mr86 {a : Fact} {v0 : Sv} : Mk (roE rd86) [] (.agg [(.int .i64 a.Rel), v0.v].toArray) a [crd (RdS 3 rdInt) v0.v a.Values] :=
 ⟨fun H h => ⟨rfl, v0, rfl, h (crd (RdS 3 rdInt) v0.v a.Values) (by simp)⟩, by simp [crd]⟩
instance cf28 : ICF Tryz.prog 28 := ⟨Tryz.call28⟩
instance cf78 : ICF Tryz.prog 78 := ⟨Tryz.call78⟩
instance cf115 : ICF Tryz.prog 115 := ⟨Tryz.call115⟩
instance sl138 : ISL Tryz.prog 138 56 := ⟨by unfold SL; kernel_rfl⟩
def rd56 (H : AHeap) (v : Value) (a : Binding) : Prop := ∃ v0 v1 : Sv, v = .agg [v0.v, v1.v].toArray ∧ (RdS 3 rdInt) H v0.v a.Vars ∧ (RdS 3 rdInt) H v1.v a.Values
instance : Mono rd56 := ⟨fun h hi => by
 obtain ⟨v0, v1, h, h0, h1⟩ := h
 exact ⟨v0, v1, h, Mono.up h0 hi, Mono.up h1 hi⟩⟩
instance : Cells rd56 2 := ⟨fun h => by
 obtain ⟨v0, v1, rfl, h0, h1⟩ := h
 exact ⟨rfl, rfl⟩⟩
def ow56 : ORel Binding := fun F H v a => ∃ (v0 v1 : Sv) (F0 F1 : List Nat), v = .agg [v0.v, v1.v].toArray ∧ F = (F0 ++ F1) ∧ (OwnS 3 (roE rdInt)) F0 H v0.v a.Vars ∧ (OwnS 3 (roE rdInt)) F1 H v1.v a.Values
instance : Keep ow56 := ⟨fun h hi hg => by
 obtain ⟨v0, v1, F0, F1, rfl, rfl, h0, h1⟩ := h
 exact ⟨v0, v1, F0, F1, rfl, rfl, Keep.keep h0 hi (fun k hk => hg k (by simp [hk])), Keep.keep h1 hi (fun k hk => hg k (by simp [hk]))⟩⟩
instance : Local ow56 := ⟨fun h hg => by
 obtain ⟨v0, v1, F0, F1, rfl, rfl, h0, h1⟩ := h
 exact ⟨v0, v1, F0, F1, rfl, rfl, Local.keep h0 (fun k hk => hg k (by simp [hk])), Local.keep h1 (fun k hk => hg k (by simp [hk]))⟩⟩
instance : Owns ow56 := ⟨fun h k hk => by
 obtain ⟨v0, v1, F0, F1, rfl, rfl, h0, h1⟩ := h
 simp only [List.mem_append] at hk
 rcases hk with hk | hk
 · exact Owns.owns h0 k hk
 · exact Owns.owns h1 k hk
⟩
instance : OCells ow56 2 := ⟨fun h => by
 obtain ⟨v0, v1, F0, F1, rfl, rfl, h0, h1⟩ := h
 exact ⟨rfl, rfl⟩⟩
instance : Frz ow56 rd56 := ⟨fun h hg => by
 obtain ⟨v0, v1, F0, F1, rfl, rfl, h0, h1⟩ := h
 exact ⟨v0, v1, rfl, Frz.frz h0 (fun k hk => hg k (by simp [hk])), Frz.frz h1 (fun k hk => hg k (by simp [hk]))⟩⟩
theorem mk56 {a : Binding} {v0 v1 : Sv} {F0 F1 : List Nat} : Mk ow56 (F0 ++ F1) (.agg [v0.v, v1.v].toArray) a [cown (OwnS 3 (roE rdInt)) F0 v0.v a.Vars, cown (OwnS 3 (roE rdInt)) F1 v1.v a.Values] :=
 ⟨fun H h => ⟨v0, v1, F0, F1, rfl, rfl, h (cown (OwnS 3 (roE rdInt)) F0 v0.v a.Vars) (by simp), h (cown (OwnS 3 (roE rdInt)) F1 v1.v a.Values) (by simp)⟩, by simp [cown]⟩
instance cf153 : ICF Tryz.prog 153 := ⟨Tryz.call153⟩
def ul56_0_56 (a : Binding) (p : Sv × Sv) : List Value := [p.1.v, p.2.v]
theorem la56_0_56 {a : Binding} : ∀ H e, rd56 H e a → ∃ i : Sv × Sv, 0 + 2 ≤ e.cells.size ∧ (e.cells.toList.drop 0).take 2 = ul56_0_56 a i ∧ ∀ c ∈ ([crd (RdS 3 rdInt) i.1.v a.Vars, crd (RdS 3 rdInt) i.2.v a.Values] : List Comp), c.P H ∧ c.F = [] := by
 intro H e h
 obtain ⟨v0, v1, rfl, h0, h1⟩ := h
 refine ⟨(v0, v1), Nat.le_of_ble_eq_true rfl, rfl, fun c hc => by
   simp only [List.mem_cons, List.not_mem_nil, or_false] at hc
   rcases hc with rfl | rfl
   · exact ⟨h0, rfl⟩
   · exact ⟨h1, rfl⟩
⟩
instance cf189 : ICF Tryz.prog 189 := ⟨Tryz.call189⟩
instance cf117 : ICF Tryz.prog 117 := ⟨Tryz.call117⟩
instance cf203 : ICF Tryz.prog 203 := ⟨Tryz.call203⟩
theorem ni138 : NotInt Tryz.prog 138 := .inr ⟨56, by kernel_rfl⟩
instance cf116 : ICF Tryz.prog 116 := ⟨Tryz.call116⟩
instance ag31 : IAG Tryz.prog 31 true := ⟨by unfold AG; kernel_rfl⟩
instance cf26 : ICF Tryz.prog 26 := ⟨Tryz.call26⟩
structure Access where
 Method : Int
 Values : List Int
structure Reached where
 Facts : List Fact
 Values : List Int
 Log : List Access
 Rounds : Int
instance ty61 : ITY Tryz.prog 61 4 80 (.agg [(.slice none 0 0), (.slice none 0 0), (.slice none 0 0), (.int .i64 0)].toArray) := ⟨by unfold TY; kernel_rfl⟩
instance cf54 : ICF Tryz.prog 54 := ⟨Tryz.call54⟩
instance ag61 : IAG Tryz.prog 61 true := ⟨by unfold AG; kernel_rfl⟩
def rd130 (H : AHeap) (v : Value) (a : Access) : Prop := ∃ v0 : Sv, v = .agg [(.int .i64 a.Method), v0.v].toArray ∧ (RdS 3 rdInt) H v0.v a.Values
instance : Mono rd130 := ⟨fun h hi => by
 obtain ⟨v0, h, h0⟩ := h
 exact ⟨v0, h, Mono.up h0 hi⟩⟩
instance : Cells rd130 2 := ⟨fun h => by
 obtain ⟨v0, rfl, h0⟩ := h
 exact ⟨rfl, rfl⟩⟩
def ow130 : ORel Access := fun F H v a => ∃ (v0 : Sv) (F0 : List Nat), v = .agg [(.int .i64 a.Method), v0.v].toArray ∧ F0 = F ∧ (OwnS 3 (roE rdInt)) F0 H v0.v a.Values
instance : Keep ow130 := ⟨fun h hi hg => by
 obtain ⟨v0, F0, rfl, rfl, h0⟩ := h
 exact ⟨v0, F0, rfl, rfl, Keep.keep h0 hi (fun k hk => hg k (by simp [hk]))⟩⟩
instance : Local ow130 := ⟨fun h hg => by
 obtain ⟨v0, F0, rfl, rfl, h0⟩ := h
 exact ⟨v0, F0, rfl, rfl, Local.keep h0 (fun k hk => hg k (by simp [hk]))⟩⟩
instance : Owns ow130 := ⟨fun h k hk => by
 obtain ⟨v0, F0, rfl, rfl, h0⟩ := h
 exact Owns.owns h0 k hk
⟩
instance : OCells ow130 2 := ⟨fun h => by
 obtain ⟨v0, F0, rfl, rfl, h0⟩ := h
 exact ⟨rfl, rfl⟩⟩
instance : Frz ow130 rd130 := ⟨fun h hg => by
 obtain ⟨v0, F0, rfl, rfl, h0⟩ := h
 exact ⟨v0, rfl, Frz.frz h0 (fun k hk => hg k (by simp [hk]))⟩⟩
instance fd61_1 : IFD Tryz.prog 61 1 1 := ⟨by unfold FD; kernel_rfl⟩
instance cf55 : ICF Tryz.prog 55 := ⟨Tryz.call55⟩
instance cf83 : ICF Tryz.prog 83 := ⟨Tryz.call83⟩
instance cf118 : ICF Tryz.prog 118 := ⟨Tryz.call118⟩
instance cf84 : ICF Tryz.prog 84 := ⟨Tryz.call84⟩
instance fd61_0 : IFD Tryz.prog 61 0 0 := ⟨by unfold FD; kernel_rfl⟩
instance ag29 : IAG Tryz.prog 29 false := ⟨by unfold AG; kernel_rfl⟩
instance fd61_3 : IFD Tryz.prog 61 3 3 := ⟨by unfold FD; kernel_rfl⟩
instance cf85 : ICF Tryz.prog 85 := ⟨Tryz.call85⟩
instance cf119 : ICF Tryz.prog 119 := ⟨Tryz.call119⟩
instance fd61_2 : IFD Tryz.prog 61 2 2 := ⟨by unfold FD; kernel_rfl⟩
instance ag59 : IAG Tryz.prog 59 false := ⟨by unfold AG; kernel_rfl⟩
instance cf120 : ICF Tryz.prog 120 := ⟨Tryz.call120⟩
instance sl59 : ISL Tryz.prog 59 130 := ⟨by unfold SL; kernel_rfl⟩
instance ty130 : ITY Tryz.prog 130 2 32 (.agg [(.int .i64 0), (.slice none 0 0)].toArray) := ⟨by unfold TY; kernel_rfl⟩
instance fd130_0 : IFD Tryz.prog 130 0 0 := ⟨by unfold FD; kernel_rfl⟩
theorem ls130_0 {a : Access} : ∀ H e, rd130 H e a → e.cells.toList[0]? = some (.int .i64 a.Method) := by
 intro H e h
 obtain ⟨_, rfl, _⟩ := h
 rfl
instance fd130_1 : IFD Tryz.prog 130 1 1 := ⟨by unfold FD; kernel_rfl⟩
theorem lv130_1 {a : Access} : ∀ H e, rd130 H e a → ∃ w : Sv, e.cells.toList[1]? = some w.v ∧ (RdS 3 rdInt) H w.v a.Values := by
 intro H e h
 obtain ⟨v0, rfl, h0⟩ := h
 exact ⟨v0, rfl, h0⟩
instance cf154 : ICF Tryz.prog 154 := ⟨Tryz.call154⟩
instance ag130 : IAG Tryz.prog 130 true := ⟨by unfold AG; kernel_rfl⟩
theorem mk130 {a : Access} {v0 : Sv} {F0 : List Nat} : Mk ow130 F0 (.agg [(.int .i64 a.Method), v0.v].toArray) a [cown (OwnS 3 (roE rdInt)) F0 v0.v a.Values] :=
 ⟨fun H h => ⟨v0, F0, rfl, rfl, h (cown (OwnS 3 (roE rdInt)) F0 v0.v a.Values) (by simp)⟩, by simp [cown]⟩
theorem ni59 : NotInt Tryz.prog 59 := .inr ⟨130, by kernel_rfl⟩
instance ty59 : ITY Tryz.prog 59 1 24 (.slice none 0 0) := ⟨by unfold TY; kernel_rfl⟩
instance cf86 : ICF Tryz.prog 86 := ⟨Tryz.call86⟩
instance cf121 : ICF Tryz.prog 121 := ⟨Tryz.call121⟩
theorem ls65_2 {a : Method} : ∀ H e, rd65 H e a → e.cells.toList[2]? = some (.int .i64 a.Limit) := by
 intro H e h
 obtain ⟨_, rfl, _⟩ := h
 rfl
theorem lv65_1 {a : Method} : ∀ H e, rd65 H e a → ∃ w : Sv, e.cells.toList[1]? = some w.v ∧ (RdS 3 rdInt) H w.v a.Inputs := by
 intro H e h
 obtain ⟨v0, rfl, h0⟩ := h
 exact ⟨v0, rfl, h0⟩
instance cf155 : ICF Tryz.prog 155 := ⟨Tryz.call155⟩
instance sl153 : ISL Tryz.prog 153 22 := ⟨by unfold SL; kernel_rfl⟩
theorem lv22_0 {a : List Int} : ∀ H e, (RdS 3 rdInt) H e a → ∃ w : Sv, e.cells.toList[0]? = some w.v ∧ (RdS 3 rdInt) H w.v a := by
 intro H e h
 obtain ⟨a0, m, rfl⟩ := RdS.len h
 exact ⟨⟨a0, _, m⟩, rfl, h⟩
theorem ni153 : NotInt Tryz.prog 153 := .inr ⟨22, by kernel_rfl⟩
instance cf156 : ICF Tryz.prog 156 := ⟨Tryz.call156⟩
def ul130_0_130 (a : Access) (p : Sv) : List Value := [(.int .i64 a.Method), p.v]
theorem la130_0_130 {a : Access} : ∀ H e, rd130 H e a → ∃ i : Sv, 0 + 2 ≤ e.cells.size ∧ (e.cells.toList.drop 0).take 2 = ul130_0_130 a i ∧ ∀ c ∈ ([crd (RdS 3 rdInt) i.v a.Values] : List Comp), c.P H ∧ c.F = [] := by
 intro H e h
 obtain ⟨v0, rfl, h0⟩ := h
 refine ⟨v0, Nat.le_of_ble_eq_true rfl, rfl, fun c hc => by
   simp only [List.mem_cons, List.not_mem_nil, or_false] at hc
   rcases hc with rfl
   · exact ⟨h0, rfl⟩
⟩
instance cf190 : ICF Tryz.prog 190 := ⟨Tryz.call190⟩
theorem mr130 {a : Access} {v0 : Sv} : Mk (roE rd130) [] (.agg [(.int .i64 a.Method), v0.v].toArray) a [crd (RdS 3 rdInt) v0.v a.Values] :=
 ⟨fun H h => ⟨rfl, v0, rfl, h (crd (RdS 3 rdInt) v0.v a.Values) (by simp)⟩, by simp [crd]⟩
instance cf122 : ICF Tryz.prog 122 := ⟨Tryz.call122⟩
instance cf157 : ICF Tryz.prog 157 := ⟨Tryz.call157⟩
instance ty29 : ITY Tryz.prog 29 1 24 (.slice none 0 0) := ⟨by unfold TY; kernel_rfl⟩
instance cf10 : ICF Tryz.prog 10 := ⟨Tryz.call10⟩
instance cf31 : ICF Tryz.prog 31 := ⟨Tryz.call31⟩
instance cf59 : ICF Tryz.prog 59 := ⟨Tryz.call59⟩
instance cf87 : ICF Tryz.prog 87 := ⟨Tryz.call87⟩
instance cf91 : ICF Tryz.prog 91 := ⟨Tryz.call91⟩
instance cf123 : ICF Tryz.prog 123 := ⟨Tryz.call123⟩
instance cf158 : ICF Tryz.prog 158 := ⟨Tryz.call158⟩
instance cf124 : ICF Tryz.prog 124 := ⟨Tryz.call124⟩
instance cf88 : ICF Tryz.prog 88 := ⟨Tryz.call88⟩
instance cf125 : ICF Tryz.prog 125 := ⟨Tryz.call125⟩
instance cf89 : ICF Tryz.prog 89 := ⟨Tryz.call89⟩
instance cf90 : ICF Tryz.prog 90 := ⟨Tryz.call90⟩
instance cf126 : ICF Tryz.prog 126 := ⟨Tryz.call126⟩
instance cf127 : ICF Tryz.prog 127 := ⟨Tryz.call127⟩
instance cf159 : ICF Tryz.prog 159 := ⟨Tryz.call159⟩
instance cf160 : ICF Tryz.prog 160 := ⟨Tryz.call160⟩
instance cf161 : ICF Tryz.prog 161 := ⟨Tryz.call161⟩
instance cf60 : ICF Tryz.prog 60 := ⟨Tryz.call60⟩
instance cf92 : ICF Tryz.prog 92 := ⟨Tryz.call92⟩
instance cf128 : ICF Tryz.prog 128 := ⟨Tryz.call128⟩
instance cf93 : ICF Tryz.prog 93 := ⟨Tryz.call93⟩
instance cf94 : ICF Tryz.prog 94 := ⟨Tryz.call94⟩
instance cf129 : ICF Tryz.prog 129 := ⟨Tryz.call129⟩
instance cf162 : ICF Tryz.prog 162 := ⟨Tryz.call162⟩
instance cf163 : ICF Tryz.prog 163 := ⟨Tryz.call163⟩
instance cf67 : ICF Tryz.prog 67 := ⟨Tryz.call67⟩
instance cf109 : ICF Tryz.prog 109 := ⟨Tryz.call109⟩
instance cf95 : ICF Tryz.prog 95 := ⟨Tryz.call95⟩
instance cf99 : ICF Tryz.prog 99 := ⟨Tryz.call99⟩
instance cf66 : ICF Tryz.prog 66 := ⟨Tryz.call66⟩
instance cf107 : ICF Tryz.prog 107 := ⟨Tryz.call107⟩
def lays189_ren : Go.Shelf.Ren := ⟨fun | 189 => 107 | 125 => 151 | 257 => 150 | 128 => 187 | 129 => 188 | 294 => 178 | 295 => 179 | 296 => 180 | 297 => 181 | 298 => 182 | 299 => 183 | 216 => 184 | 300 => 185 | 301 => 186 | 328 => 198 | 329 => 199 | 330 => 200 | 331 => 201 | 332 => 202 | 215 => 195 | 343 => 207 | n => n, fun | 28 => 22 | 3 => 3 | 46 => 163 | 0 => 0 | 51 => 189 | 53 => 191 | 4 => 4 | 183 => 181 | 182 => 180 | 131 => 186 | 5 => 5 | 9 => 9 | 218 => 196 | 222 => 200 | 228 => 204 | 229 => 205 | n => n, fun | n => n⟩
theorem lays189 : Go.Proofs.Lays.n189 Tryz.prog lays189_ren := {
 mixed := by kernel_rfl
 f125 := Tryz.func151.trans (congrArg some (by kernel_rfl))
 f128 := Tryz.func187.trans (congrArg some (by kernel_rfl))
 f129 := Tryz.func188.trans (congrArg some (by kernel_rfl))
 f189 := Tryz.func107.trans (congrArg some (by kernel_rfl))
 f215 := Tryz.func195.trans (congrArg some (by kernel_rfl))
 f216 := Tryz.func184.trans (congrArg some (by kernel_rfl))
 f257 := Tryz.func150.trans (congrArg some (by kernel_rfl))
 f294 := Tryz.func178.trans (congrArg some (by kernel_rfl))
 f295 := Tryz.func179.trans (congrArg some (by kernel_rfl))
 f296 := Tryz.func180.trans (congrArg some (by kernel_rfl))
 f297 := Tryz.func181.trans (congrArg some (by kernel_rfl))
 f298 := Tryz.func182.trans (congrArg some (by kernel_rfl))
 f299 := Tryz.func183.trans (congrArg some (by kernel_rfl))
 f300 := Tryz.func185.trans (congrArg some (by kernel_rfl))
 f301 := Tryz.func186.trans (congrArg some (by kernel_rfl))
 f328 := Tryz.func198.trans (congrArg some (by kernel_rfl))
 f329 := Tryz.func199.trans (congrArg some (by kernel_rfl))
 f330 := Tryz.func200.trans (congrArg some (by kernel_rfl))
 f331 := Tryz.func201.trans (congrArg some (by kernel_rfl))
 f332 := Tryz.func202.trans (congrArg some (by kernel_rfl))
 f343 := Tryz.func207.trans (congrArg some (by kernel_rfl))
 t0 := Tryz.underlying0
 a0 := Tryz.isAgg0
 z0 := Tryz.sizeOf0
 v0 := Tryz.zeroValue0
 t3 := Tryz.underlying3
 a3 := Tryz.isAgg3
 z3 := Tryz.sizeOf3
 v3 := Tryz.zeroValue3
 t4 := Tryz.underlying4
 a4 := Tryz.isAgg4
 z4 := Tryz.sizeOf4
 v4 := Tryz.zeroValue4
 t5 := Tryz.underlying5
 a5 := Tryz.isAgg5
 z5 := Tryz.sizeOf5
 v5 := Tryz.zeroValue5
 t9 := Tryz.underlying9
 a9 := Tryz.isAgg9
 z9 := Tryz.sizeOf9
 v9 := Tryz.zeroValue9
 t28 := Tryz.underlying22
 a28 := Tryz.isAgg22
 z28 := Tryz.sizeOf22
 v28 := Tryz.zeroValue22
 t46 := Tryz.underlying163
 a46 := Tryz.isAgg163
 z46 := Tryz.sizeOf163
 v46 := Tryz.zeroValue163
 t51 := Tryz.underlying189
 a51 := Tryz.isAgg189
 z51 := Tryz.sizeOf189
 v51 := Tryz.zeroValue189
 t53 := Tryz.underlying191
 a53 := Tryz.isAgg191
 z53 := Tryz.sizeOf191
 v53 := Tryz.zeroValue191
 t131 := Tryz.underlying186
 a131 := Tryz.isAgg186
 z131 := Tryz.sizeOf186
 v131 := Tryz.zeroValue186
 t182 := Tryz.underlying180
 a182 := Tryz.isAgg180
 z182 := Tryz.sizeOf180
 v182 := Tryz.zeroValue180
 t183 := Tryz.underlying181
 a183 := Tryz.isAgg181
 z183 := Tryz.sizeOf181
 v183 := Tryz.zeroValue181
 t218 := Tryz.underlying196
 a218 := Tryz.isAgg196
 z218 := Tryz.sizeOf196
 v218 := Tryz.zeroValue196
 t222 := Tryz.underlying200
 a222 := Tryz.isAgg200
 z222 := Tryz.sizeOf200
 v222 := Tryz.zeroValue200
 t228 := Tryz.underlying204
 a228 := Tryz.isAgg204
 z228 := Tryz.sizeOf204
 v228 := Tryz.zeroValue204
 t229 := Tryz.underlying205
 a229 := Tryz.isAgg205
 z229 := Tryz.sizeOf205
 v229 := Tryz.zeroValue205 }
instance cf108 : ICF Tryz.prog 108 := ⟨Tryz.call108⟩
def lays2020_ren : Go.Shelf.Ren := ⟨fun | 20 => 108 | n => n, fun | 22 => 22 | 3 => 3 | 4 => 4 | 0 => 0 | n => n, fun | n => n⟩
theorem lays2020 : Go.Proofs.Lays2.n20 Tryz.prog lays2020_ren := {
 mixed := by kernel_rfl
 f20 := Tryz.func108.trans (congrArg some (by kernel_rfl))
 t0 := Tryz.underlying0
 a0 := Tryz.isAgg0
 z0 := Tryz.sizeOf0
 v0 := Tryz.zeroValue0
 t3 := Tryz.underlying3
 a3 := Tryz.isAgg3
 z3 := Tryz.sizeOf3
 v3 := Tryz.zeroValue3
 t4 := Tryz.underlying4
 a4 := Tryz.isAgg4
 z4 := Tryz.sizeOf4
 v4 := Tryz.zeroValue4
 t22 := Tryz.underlying22
 a22 := Tryz.isAgg22
 z22 := Tryz.sizeOf22
 v22 := Tryz.zeroValue22
 i3 := by kernel_rfl }
instance cf130 : ICF Tryz.prog 130 := ⟨Tryz.call130⟩
instance cf100 : ICF Tryz.prog 100 := ⟨Tryz.call100⟩
instance cf138 : ICF Tryz.prog 138 := ⟨Tryz.call138⟩
instance cf32 : ICF Tryz.prog 32 := ⟨Tryz.call32⟩
instance cf61 : ICF Tryz.prog 61 := ⟨Tryz.call61⟩
instance cf96 : ICF Tryz.prog 96 := ⟨Tryz.call96⟩
instance cf132 : ICF Tryz.prog 132 := ⟨Tryz.call132⟩
instance cf166 : ICF Tryz.prog 166 := ⟨Tryz.call166⟩
theorem sfs65_0 {a : Method} {d : Int} : ∀ F H e, (roE rd65) F H e a → (roE rd65) F H (setPart e 0 (Value.cells (.int .i64 d)).toList) { a with Rel := d } := by
 intro F H e h
 obtain ⟨rfl, v0, rfl, h0⟩ := h
 exact ⟨rfl, v0, rfl, h0⟩
theorem fsfs65_0 {a : Method} : ∀ F H e, (roE rd65) F H e a → 0 + 1 ≤ e.cells.size := by
 intro F H e h
 obtain ⟨rfl, v0, rfl, h0⟩ := h
 exact Nat.le_of_ble_eq_true rfl
instance cf131 : ICF Tryz.prog 131 := ⟨Tryz.call131⟩
instance cf164 : ICF Tryz.prog 164 := ⟨Tryz.call164⟩
instance ty35 : ITY Tryz.prog 35 1 24 (.slice none 0 0) := ⟨by unfold TY; kernel_rfl⟩
instance ty170 : ITY Tryz.prog 170 1 8 .nilFunc := ⟨by unfold TY; kernel_rfl⟩
instance sl149 : ISL Tryz.prog 149 4 := ⟨by unfold SL; kernel_rfl⟩
instance ty4 : ITY Tryz.prog 4 1 1 (.bool false) := ⟨by unfold TY; kernel_rfl⟩
instance ty149 : ITY Tryz.prog 149 1 24 (.slice none 0 0) := ⟨by unfold TY; kernel_rfl⟩
instance cf191 : ICF Tryz.prog 191 := ⟨Tryz.call191⟩
instance ag108 : IAG Tryz.prog 108 true := ⟨by unfold AG; kernel_rfl⟩
instance ag35 : IAG Tryz.prog 35 false := ⟨by unfold AG; kernel_rfl⟩
instance cf192 : ICF Tryz.prog 192 := ⟨Tryz.call192⟩
instance cf193 : ICF Tryz.prog 193 := ⟨Tryz.call193⟩
instance cf204 : ICF Tryz.prog 204 := ⟨Tryz.call204⟩
instance ag170 : IAG Tryz.prog 170 false := ⟨by unfold AG; kernel_rfl⟩
instance cf165 : ICF Tryz.prog 165 := ⟨Tryz.call165⟩
instance ag149 : IAG Tryz.prog 149 false := ⟨by unfold AG; kernel_rfl⟩
theorem ls4_0 {a : Bool} : ∀ H e, rdBool H e a → e.cells.toList[0]? = some (.bool a) := by
 intro H e h
 subst h
 rfl
instance ag4 : IAG Tryz.prog 4 false := ⟨by unfold AG; kernel_rfl⟩
instance cf133 : ICF Tryz.prog 133 := ⟨Tryz.call133⟩
theorem lo4_0 {a : Bool} : ∀ F H e, (roE rdBool) F H e a → e.cells.toList[0]? = some (.bool a) := by
 intro F H e h
 obtain ⟨-, h⟩ := h
 subst h
 rfl
instance cf134 : ICF Tryz.prog 134 := ⟨Tryz.call134⟩
instance cf62 : ICF Tryz.prog 62 := ⟨Tryz.call62⟩
instance cf35 : ICF Tryz.prog 35 := ⟨Tryz.call35⟩
instance cf97 : ICF Tryz.prog 97 := ⟨Tryz.call97⟩
instance cf135 : ICF Tryz.prog 135 := ⟨Tryz.call135⟩
theorem ik3 : IK Tryz.prog 3 .i64 := by unfold IK; kernel_rfl
instance cf63 : ICF Tryz.prog 63 := ⟨Tryz.call63⟩
theorem lo3_0 {a : Int} : ∀ F H e, (roE rdInt) F H e a → e.cells.toList[0]? = some (.int .i64 a) := by
 intro F H e h
 obtain ⟨-, h⟩ := h
 subst h
 rfl
instance cf102 : ICF Tryz.prog 102 := ⟨Tryz.call102⟩
instance cf68 : ICF Tryz.prog 68 := ⟨Tryz.call68⟩
instance cf110 : ICF Tryz.prog 110 := ⟨Tryz.call110⟩
instance cf101 : ICF Tryz.prog 101 := ⟨Tryz.call101⟩
instance cf139 : ICF Tryz.prog 139 := ⟨Tryz.call139⟩
instance cf168 : ICF Tryz.prog 168 := ⟨Tryz.call168⟩
instance cf140 : ICF Tryz.prog 140 := ⟨Tryz.call140⟩
instance cf169 : ICF Tryz.prog 169 := ⟨Tryz.call169⟩
instance cf142 : ICF Tryz.prog 142 := ⟨Tryz.call142⟩
instance cf171 : ICF Tryz.prog 171 := ⟨Tryz.call171⟩
instance cf195 : ICF Tryz.prog 195 := ⟨Tryz.call195⟩
instance cf172 : ICF Tryz.prog 172 := ⟨Tryz.call172⟩
instance cf170 : ICF Tryz.prog 170 := ⟨Tryz.call170⟩
instance cf141 : ICF Tryz.prog 141 := ⟨Tryz.call141⟩
instance cf144 : ICF Tryz.prog 144 := ⟨Tryz.call144⟩
instance cf143 : ICF Tryz.prog 143 := ⟨Tryz.call143⟩
theorem hov173 : ∀ args w, (callFunc 173 args).run Tryz.prog w = ((Extern.SlicesOverlaps.overlaps #[29, 29] #[4] args).run Tryz.prog w).andThen fun v w' => .ok (.value v) w' := fun args w => run_callFunc_extern Tryz.func173 (by kernel_rfl) (by kernel_rfl) (by kernel_rfl) (e := Extern.SlicesOverlaps.overlaps #[29, 29] #[4]) (by kernel_rfl) args w
instance cf36 : ICF Tryz.prog 36 := ⟨Tryz.call36⟩
instance cf98 : ICF Tryz.prog 98 := ⟨Tryz.call98⟩
instance cf136 : ICF Tryz.prog 136 := ⟨Tryz.call136⟩
instance cf167 : ICF Tryz.prog 167 := ⟨Tryz.call167⟩
instance cf194 : ICF Tryz.prog 194 := ⟨Tryz.call194⟩
instance cf205 : ICF Tryz.prog 205 := ⟨Tryz.call205⟩
instance cf137 : ICF Tryz.prog 137 := ⟨Tryz.call137⟩
instance cf33 : ICF Tryz.prog 33 := ⟨Tryz.call33⟩
instance cf34 : ICF Tryz.prog 34 := ⟨Tryz.call34⟩
instance cf64 : ICF Tryz.prog 64 := ⟨Tryz.call64⟩
instance cf103 : ICF Tryz.prog 103 := ⟨Tryz.call103⟩
instance cf65 : ICF Tryz.prog 65 := ⟨Tryz.call65⟩
instance cf104 : ICF Tryz.prog 104 := ⟨Tryz.call104⟩
instance cf145 : ICF Tryz.prog 145 := ⟨Tryz.call145⟩
instance cf146 : ICF Tryz.prog 146 := ⟨Tryz.call146⟩
instance cf175 : ICF Tryz.prog 175 := ⟨Tryz.call175⟩
instance cf197 : ICF Tryz.prog 197 := ⟨Tryz.call197⟩
instance cf176 : ICF Tryz.prog 176 := ⟨Tryz.call176⟩
instance cf177 : ICF Tryz.prog 177 := ⟨Tryz.call177⟩
instance cf105 : ICF Tryz.prog 105 := ⟨Tryz.call105⟩
instance cf148 : ICF Tryz.prog 148 := ⟨Tryz.call148⟩
instance cf147 : ICF Tryz.prog 147 := ⟨Tryz.call147⟩
instance cf149 : ICF Tryz.prog 149 := ⟨Tryz.call149⟩
instance cf106 : ICF Tryz.prog 106 := ⟨Tryz.call106⟩
theorem fdt61_0 : FDT Tryz.prog 61 0 0 29 := by unfold FDT; kernel_rfl
instance cf11 : ICF Tryz.prog 11 := ⟨Tryz.call11⟩
instance fd31_0 : IFD Tryz.prog 31 0 0 := ⟨by unfold FD; kernel_rfl⟩
instance cf37 : ICF Tryz.prog 37 := ⟨Tryz.call37⟩
instance cf69 : ICF Tryz.prog 69 := ⟨Tryz.call69⟩
instance cf12 : ICF Tryz.prog 12 := ⟨Tryz.call12⟩
instance fd31_1 : IFD Tryz.prog 31 1 1 := ⟨by unfold FD; kernel_rfl⟩
instance fd31_2 : IFD Tryz.prog 31 2 2 := ⟨by unfold FD; kernel_rfl⟩
instance cf13 : ICF Tryz.prog 13 := ⟨Tryz.call13⟩
instance cf38 : ICF Tryz.prog 38 := ⟨Tryz.call38⟩
instance cf14 : ICF Tryz.prog 14 := ⟨Tryz.call14⟩
instance cf39 : ICF Tryz.prog 39 := ⟨Tryz.call39⟩
instance cf70 : ICF Tryz.prog 70 := ⟨Tryz.call70⟩
instance cf15 : ICF Tryz.prog 15 := ⟨Tryz.call15⟩
instance cf16 : ICF Tryz.prog 16 := ⟨Tryz.call16⟩
theorem sf65_0 {a : Method} {d : Int} : ∀ F H e, ow65 F H e a → ow65 F H (setPart e 0 (Value.cells (.int .i64 d)).toList) { a with Rel := d } := by
 intro F H e h
 obtain ⟨v0, F0, rfl, rfl, h0⟩ := h
 exact ⟨v0, F0, rfl, rfl, h0⟩
theorem fsf65_0 {a : Method} : ∀ F H e, ow65 F H e a → 0 + 1 ≤ e.cells.size := by
 intro F H e h
 obtain ⟨v0, F0, rfl, rfl, h0⟩ := h
 exact Nat.le_of_ble_eq_true rfl
theorem pt65_1 : Part ow65 1 (OwnS 3 (roE rdInt)) (fun a : Method => a.Inputs) (fun a d => { a with Inputs := d }) := ⟨fun {F H e a} h => by
 obtain ⟨v0, F0, rfl, rfl, h0⟩ := h
 exact ⟨v0, [], F0, [], rfl, by simp, h0, fun hi hk h' => ⟨v0, _, rfl, by simp, h'⟩⟩⟩
theorem sf65_2 {a : Method} {d : Int} : ∀ F H e, ow65 F H e a → ow65 F H (setPart e 2 (Value.cells (.int .i64 d)).toList) { a with Limit := d } := by
 intro F H e h
 obtain ⟨v0, F0, rfl, rfl, h0⟩ := h
 exact ⟨v0, F0, rfl, rfl, h0⟩
theorem fsf65_2 {a : Method} : ∀ F H e, ow65 F H e a → 2 + 1 ≤ e.cells.size := by
 intro F H e h
 obtain ⟨v0, F0, rfl, rfl, h0⟩ := h
 exact Nat.le_of_ble_eq_true rfl
theorem sf65_3 {a : Method} {d : Int} : ∀ F H e, ow65 F H e a → ow65 F H (setPart e 3 (Value.cells (.int .i64 d)).toList) { a with Cost := d } := by
 intro F H e h
 obtain ⟨v0, F0, rfl, rfl, h0⟩ := h
 exact ⟨v0, F0, rfl, rfl, h0⟩
theorem fsf65_3 {a : Method} : ∀ F H e, ow65 F H e a → 3 + 1 ≤ e.cells.size := by
 intro F H e h
 obtain ⟨v0, F0, rfl, rfl, h0⟩ := h
 exact Nat.le_of_ble_eq_true rfl
theorem sf65_4 {a : Method} {d : Int} : ∀ F H e, ow65 F H e a → ow65 F H (setPart e 4 (Value.cells (.int .i64 d)).toList) { a with Quota := d } := by
 intro F H e h
 obtain ⟨v0, F0, rfl, rfl, h0⟩ := h
 exact ⟨v0, F0, rfl, rfl, h0⟩
theorem fsf65_4 {a : Method} : ∀ F H e, ow65 F H e a → 4 + 1 ≤ e.cells.size := by
 intro F H e h
 obtain ⟨v0, F0, rfl, rfl, h0⟩ := h
 exact Nat.le_of_ble_eq_true rfl
instance cf17 : ICF Tryz.prog 17 := ⟨Tryz.call17⟩
instance cf40 : ICF Tryz.prog 40 := ⟨Tryz.call40⟩
theorem sf84_0 {a : Atom} {d : Int} : ∀ F H e, ow84 F H e a → ow84 F H (setPart e 0 (Value.cells (.int .i64 d)).toList) { a with Rel := d } := by
 intro F H e h
 obtain ⟨v0, F0, rfl, rfl, h0⟩ := h
 exact ⟨v0, F0, rfl, rfl, h0⟩
theorem fsf84_0 {a : Atom} : ∀ F H e, ow84 F H e a → 0 + 1 ≤ e.cells.size := by
 intro F H e h
 obtain ⟨v0, F0, rfl, rfl, h0⟩ := h
 exact Nat.le_of_ble_eq_true rfl
theorem pt84_1 : Part ow84 1 (OwnS 3 (roE rdInt)) (fun a : Atom => a.Terms) (fun a d => { a with Terms := d }) := ⟨fun {F H e a} h => by
 obtain ⟨v0, F0, rfl, rfl, h0⟩ := h
 exact ⟨v0, [], F0, [], rfl, by simp, h0, fun hi hk h' => ⟨v0, _, rfl, by simp, h'⟩⟩⟩
instance cf18 : ICF Tryz.prog 18 := ⟨Tryz.call18⟩
instance cf41 : ICF Tryz.prog 41 := ⟨Tryz.call41⟩
theorem sf86_0 {a : Fact} {d : Int} : ∀ F H e, ow86 F H e a → ow86 F H (setPart e 0 (Value.cells (.int .i64 d)).toList) { a with Rel := d } := by
 intro F H e h
 obtain ⟨v0, F0, rfl, rfl, h0⟩ := h
 exact ⟨v0, F0, rfl, rfl, h0⟩
theorem fsf86_0 {a : Fact} : ∀ F H e, ow86 F H e a → 0 + 1 ≤ e.cells.size := by
 intro F H e h
 obtain ⟨v0, F0, rfl, rfl, h0⟩ := h
 exact Nat.le_of_ble_eq_true rfl
theorem pt86_1 : Part ow86 1 (OwnS 3 (roE rdInt)) (fun a : Fact => a.Values) (fun a d => { a with Values := d }) := ⟨fun {F H e a} h => by
 obtain ⟨v0, F0, rfl, rfl, h0⟩ := h
 exact ⟨v0, [], F0, [], rfl, by simp, h0, fun hi hk h' => ⟨v0, _, rfl, by simp, h'⟩⟩⟩
instance cf19 : ICF Tryz.prog 19 := ⟨Tryz.call19⟩
instance cf42 : ICF Tryz.prog 42 := ⟨Tryz.call42⟩
instance cf43 : ICF Tryz.prog 43 := ⟨Tryz.call43⟩
theorem fa52_0 : fieldAt Tryz.prog 52 0 = some (3, 0, 1) := by kernel_rfl
theorem fa52_1 : fieldAt Tryz.prog 52 1 = some (22, 1, 1) := by kernel_rfl
theorem fa52_2 : fieldAt Tryz.prog 52 2 = some (3, 2, 1) := by kernel_rfl
theorem fa52_3 : fieldAt Tryz.prog 52 3 = some (3, 3, 1) := by kernel_rfl
theorem fa52_4 : fieldAt Tryz.prog 52 4 = some (3, 4, 1) := by kernel_rfl
def wf52 (a : Method) : Prop := wfInt a.Rel ∧ (wfSl wfInt) a.Inputs ∧ wfInt a.Limit ∧ wfInt a.Cost ∧ wfInt a.Quota
theorem sh52 : ∀ H v a, rd52 H v a → isAgV v = aggT Tryz.prog 52 := by
 intro H v a h
 obtain ⟨v1, rfl, _⟩ := h
 kernel_rfl
theorem op52 : Opn Tryz.prog 52 rd52 wf52 := by
 intro T enc w fuel cs x h hw ρ H hr hF
 have hl := opn_len fa52_0 h (n := 5) ty52.h.sz.cells
 obtain ⟨ρ0, H0, av0, a0, r0, f0, u0, i0, v0, q0, w0⟩ := opn_field fa52_0 h hw (Opn.int (by kernel_rfl)) hr hF
 obtain ⟨ρ1, H1, av1, a1, r1, f1, u1, i1, v1, q1, w1⟩ := opn_field fa52_1 h hw (Opn.slice (s := 1) (by kernel_rfl) (by kernel_rfl) (by decide) (Nat.lt_of_lt_of_le (by decide) (Nat.le_of_eq (show 8 = _ from by kernel_rfl))) (Opn.int (by kernel_rfl))) r0 f0
 obtain ⟨ρ2, H2, av2, a2, r2, f2, u2, i2, v2, q2, w2⟩ := opn_field fa52_2 h hw (Opn.int (by kernel_rfl)) r1 f1
 obtain ⟨ρ3, H3, av3, a3, r3, f3, u3, i3, v3, q3, w3⟩ := opn_field fa52_3 h hw (Opn.int (by kernel_rfl)) r2 f2
 obtain ⟨ρ4, H4, av4, a4, r4, f4, u4, i4, v4, q4, w4⟩ := opn_field fa52_4 h hw (Opn.int (by kernel_rfl)) r3 f3
 obtain rfl : av0 = (.int .i64 a0) := q0
 replace v0 := v0.up (((u1.trans u2).trans u3).trans u4)
 obtain ⟨sa1, sm1, rfl⟩ := RdS.len q1
 replace v1 := v1.one rfl
 replace v1 := v1.up ((u2.trans u3).trans u4)
 obtain rfl : av2 = (.int .i64 a2) := q2
 replace v2 := v2.up (u3.trans u4)
 obtain rfl : av3 = (.int .i64 a3) := q3
 replace v3 := v3.up u4
 obtain rfl : av4 = (.int .i64 a4) := q4
 have hv := RelVs.field (o := 0) v0 (RelVs.field (o := 1) v1 (RelVs.field (o := 2) v2 (RelVs.field (o := 3) v3 (RelVs.field (o := 4) v4 (RelVs.end hl)))))
 rw [List.drop_zero] at hv
 refine ⟨ρ4, H4, (.agg [(.int .i64 a0), (.slice sa1 a1.length sm1), (.int .i64 a2), (.int .i64 a3), (.int .i64 a4)].toArray : Value), ({ Rel := a0, Inputs := a1, Limit := a2, Cost := a3, Quota := a4 } : Method), r4, f4, ((((u0.trans u1).trans u2).trans u3).trans u4), ((((i0.trans i1).trans i2).trans i3).trans i4), ?_, ?_, w0, w1, w2, w3, w4⟩
 · exact hv
 · exact ⟨⟨sa1, _, sm1⟩, rfl, (Mono.up q1 ((i2.trans i3).trans i4))⟩
def rd26 (H : AHeap) (v : Value) (a : Query) : Prop := ∃ v0 v1 : Sv, v = .agg [v0.v, v1.v].toArray ∧ (RdS 3 rdInt) H v0.v a.Head ∧ (RdS 76 rd76) H v1.v a.Atoms
instance : Mono rd26 := ⟨fun h hi => by
 obtain ⟨v0, v1, h, h0, h1⟩ := h
 exact ⟨v0, v1, h, Mono.up h0 hi, Mono.up h1 hi⟩⟩
instance : Cells rd26 2 := ⟨fun h => by
 obtain ⟨v0, v1, rfl, h0, h1⟩ := h
 exact ⟨rfl, rfl⟩⟩
theorem fa76_0 : fieldAt Tryz.prog 76 0 = some (3, 0, 1) := by kernel_rfl
theorem fa76_1 : fieldAt Tryz.prog 76 1 = some (22, 1, 1) := by kernel_rfl
def wf76 (a : Atom) : Prop := wfInt a.Rel ∧ (wfSl wfInt) a.Terms
theorem sh76 : ∀ H v a, rd76 H v a → isAgV v = aggT Tryz.prog 76 := by
 intro H v a h
 obtain ⟨v1, rfl, _⟩ := h
 kernel_rfl
theorem op76 : Opn Tryz.prog 76 rd76 wf76 := by
 intro T enc w fuel cs x h hw ρ H hr hF
 have hl := opn_len fa76_0 h (n := 2) ty76.h.sz.cells
 obtain ⟨ρ0, H0, av0, a0, r0, f0, u0, i0, v0, q0, w0⟩ := opn_field fa76_0 h hw (Opn.int (by kernel_rfl)) hr hF
 obtain ⟨ρ1, H1, av1, a1, r1, f1, u1, i1, v1, q1, w1⟩ := opn_field fa76_1 h hw (Opn.slice (s := 1) (by kernel_rfl) (by kernel_rfl) (by decide) (Nat.lt_of_lt_of_le (by decide) (Nat.le_of_eq (show 8 = _ from by kernel_rfl))) (Opn.int (by kernel_rfl))) r0 f0
 obtain rfl : av0 = (.int .i64 a0) := q0
 replace v0 := v0.up u1
 obtain ⟨sa1, sm1, rfl⟩ := RdS.len q1
 replace v1 := v1.one rfl
 have hv := RelVs.field (o := 0) v0 (RelVs.field (o := 1) v1 (RelVs.end hl))
 rw [List.drop_zero] at hv
 refine ⟨ρ1, H1, (.agg [(.int .i64 a0), (.slice sa1 a1.length sm1)].toArray : Value), ({ Rel := a0, Terms := a1 } : Atom), r1, f1, (u0.trans u1), (i0.trans i1), ?_, ?_, w0, w1⟩
 · exact hv
 · exact ⟨⟨sa1, _, sm1⟩, rfl, q1⟩
theorem fa26_0 : fieldAt Tryz.prog 26 0 = some (22, 0, 1) := by kernel_rfl
theorem fa26_1 : fieldAt Tryz.prog 26 1 = some (24, 1, 1) := by kernel_rfl
def wf26 (a : Query) : Prop := (wfSl wfInt) a.Head ∧ (wfSl wf76) a.Atoms
theorem sh26 : ∀ H v a, rd26 H v a → isAgV v = aggT Tryz.prog 26 := by
 intro H v a h
 obtain ⟨v0, v1, rfl, _, _⟩ := h
 kernel_rfl
theorem op26 : Opn Tryz.prog 26 rd26 wf26 := by
 intro T enc w fuel cs x h hw ρ H hr hF
 have hl := opn_len fa26_0 h (n := 2) ty26.h.sz.cells
 obtain ⟨ρ0, H0, av0, a0, r0, f0, u0, i0, v0, q0, w0⟩ := opn_field fa26_0 h hw (Opn.slice (s := 1) (by kernel_rfl) (by kernel_rfl) (by decide) (Nat.lt_of_lt_of_le (by decide) (Nat.le_of_eq (show 8 = _ from by kernel_rfl))) (Opn.int (by kernel_rfl))) hr hF
 obtain ⟨ρ1, H1, av1, a1, r1, f1, u1, i1, v1, q1, w1⟩ := opn_field fa26_1 h hw (Opn.slice (s := 2) (by kernel_rfl) (by kernel_rfl) (by decide) (Nat.lt_of_lt_of_le (by decide) (Nat.le_of_eq (show 32 = _ from by kernel_rfl))) op76) r0 f0
 obtain ⟨sa0, sm0, rfl⟩ := RdS.len q0
 replace v0 := v0.one rfl
 replace v0 := v0.up u1
 obtain ⟨sa1, sm1, rfl⟩ := RdS.len q1
 replace v1 := v1.one rfl
 have hv := RelVs.field (o := 0) v0 (RelVs.field (o := 1) v1 (RelVs.end hl))
 rw [List.drop_zero] at hv
 refine ⟨ρ1, H1, (.agg [(.slice sa0 a0.length sm0), (.slice sa1 a1.length sm1)].toArray : Value), ({ Head := a0, Atoms := a1 } : Query), r1, f1, (u0.trans u1), (i0.trans i1), ?_, ?_, w0, w1⟩
 · exact hv
 · exact ⟨⟨sa0, _, sm0⟩, ⟨sa1, _, sm1⟩, rfl, (Mono.up q0 i1), q1⟩
def l_szIntS (a_a : List Int) (a_left : Int) : Option (Int) :=
 if (decide (((IntKind.i64.wrap (a_left - (a_a.length : Int))) : Int) < 0)) then (
   some (-1))
 else (
   some (IntKind.i64.wrap (a_left - (a_a.length : Int))))
theorem l_szIntS_ok (a_a : List Int) (v0_0 : Sv) (a_left : Int) (R : Int) (hF : l_szIntS a_a a_left = some R) :
   Fw.Spec Tryz.prog 21 [v0_0.v, (.int .i64 a_left)] [crd (RdS 3 rdInt) v0_0.v a_a] (fun _ : Unit => (.int .i64 R)) (fun _ => []) := by
 refine Se 12 Tryz.func21 [.tmp 4] ?_
 intro H0 F0
 unfold l_szIntS at hF
 iterate 15 refine au ?_
 refine Ci hF (fun hb1 hF => ?_) (fun hb1 hF => ?_)
 · iterate 4 refine au ?_
   cases hF
   exact Er ()
 iterate 6 refine au ?_
 cases hF
 exact Er ()
def l_szMethod (a_a : Method) (a_left : Int) : Option (Int) :=
 (l_szIntS a_a.Inputs a_left).bind fun r2 =>
 if (decide ((r2 : Int) < 0)) then (
   some (-1))
 else (
   some r2)
theorem l_szMethod_ok (a_a : Method) (v0_1 : Sv) (a_left : Int) (R : Int) (hF : l_szMethod a_a a_left = some R) :
   Fw.Spec Tryz.prog 20 [(.agg [(.int .i64 a_a.Rel), v0_1.v, (.int .i64 a_a.Limit), (.int .i64 a_a.Cost), (.int .i64 a_a.Quota)].toArray), (.int .i64 a_left)] [crd (RdS 3 rdInt) v0_1.v a_a.Inputs] (fun _ : Unit => (.int .i64 R)) (fun _ => []) := by
 refine Se 12 Tryz.func20 [.tmp 4] ?_
 intro H0 F0
 unfold l_szMethod at hF
 refine au ?_
 refine AbR (fun k1 => ?_)
 iterate 6 refine au ?_
 refine bnd hF fun r2 hx3 hF => Cx0 (l_szIntS_ok _ _ _ _ hx3) (fun _ => ?_)
 iterate 7 refine au ?_
 refine Ci hF (fun hb5 hF => ?_) (fun hb5 hF => ?_)
 · iterate 4 refine au ?_
   cases hF
   exact Er ()
 iterate 6 refine au ?_
 cases hF
 exact Er ()
def l_szMethodS_L1 : List Method → Nat → Int → Option (Int)
 | [], k5, c1 => some c1
 | x7 :: rest6, k5, c1 => (l_szMethod x7 c1).bind fun r17 =>
   if (decide ((r17 : Int) < 0)) then (
     some (-1))
   else (
     l_szMethodS_L1 rest6 (k5 + 1) r17)
def l_szMethodS (a_a : List Method) (a_left : Int) : Option (Int) :=
 if (decide (((IntKind.i64.wrap (a_left - (a_a.length : Int))) : Int) < 0)) then (
   some (-1))
 else (
   l_szMethodS_L1 a_a 0 (IntKind.i64.wrap (a_left - (a_a.length : Int))))
theorem l_szMethodS_ok (a_a : List Method) (v0_0 : Sv) (a_left : Int) (R : Int) (hF : l_szMethodS a_a a_left = some R) :
   Fw.Spec Tryz.prog 4 [v0_0.v, (.int .i64 a_left)] [crd (RdS 52 rd52) v0_0.v a_a] (fun _ : Unit => (.int .i64 R)) (fun _ => []) := by
 refine Se 27 Tryz.func4 [.tmp 4] ?_
 intro H0 F0
 unfold l_szMethodS at hF
 iterate 15 refine au ?_
 refine Ci hF (fun hb22 hF => ?_) (fun hb22 hF => ?_)
 · iterate 4 refine au ?_
   cases hF
   exact Er ()
 iterate 5 refine au ?_
 refine CW_block (CW_loop (m := a_a.length) (fun m3 f' cs' => ∃ (g : Fr) (k5 : Nat) (rest6 : List Method) (c1 : Int), m3 = rest6.length ∧ f' = updL g [(0, v0_0.v), (1, (.int .i64 c1)), (5, (.int .i64 (k5 : Int)))] ∧ List.drop k5 a_a = rest6 ∧ Ent cs' [crd (RdS 52 rd52) v0_0.v a_a] ∧ l_szMethodS_L1 rest6 k5 c1 = some R) ⟨_, 0, _, _, rfl, eqA, rfl, entA, hF⟩ ?_)
 rintro m3 _ _ ⟨g4, k5, rest6, c1, rfl, rfl, hd8, hE, hF⟩
 refine Kb hE a_a (fun hbd13 => ?_)
 rcases rest6 with _ | ⟨x7, rest6⟩
 · have hk9 := dn hd8
   rw [l_szMethodS_L1] at hF
   iterate 7 refine au ?_
   refine CdF ?_
   iterate 9 refine au ?_
   cases hF
   exact Er ()
 obtain ⟨hk9, hx10, hd11⟩ := drop_cons hd8
 rw [l_szMethodS_L1] at hF
 iterate 7 refine au ?_
 refine CdT ?_
 iterate 5 refine au ?_
 refine Ai hx10 (fun k14 j15 => ?_)
 refine AlA1 (ul52_0_52 x7) la52_0_52 (fun p16 => ?_)
 refine au ?_
 refine bnd hF fun r17 hx18 hF => Cx0 (l_szMethod_ok _ _ _ _ hx18) (fun _ => ?_)
 iterate 6 refine au ?_
 refine Ci hF (fun hb21 hF => ?_) (fun hb21 hF => ?_)
 · iterate 4 refine au ?_
   cases hF
   exact Er ()
 iterate 6 refine au ?_
 rw [wk k5]
 exact ⟨_, Nat.lt_succ_self _, _, k5 + 1, rest6, _, rfl, eqA, hd11, entA, hF⟩
def l_szAtom (a_a : Atom) (a_left : Int) : Option (Int) :=
 (l_szIntS a_a.Terms a_left).bind fun r2 =>
 if (decide ((r2 : Int) < 0)) then (
   some (-1))
 else (
   some r2)
theorem l_szAtom_ok (a_a : Atom) (v0_1 : Sv) (a_left : Int) (R : Int) (hF : l_szAtom a_a a_left = some R) :
   Fw.Spec Tryz.prog 44 [(.agg [(.int .i64 a_a.Rel), v0_1.v].toArray), (.int .i64 a_left)] [crd (RdS 3 rdInt) v0_1.v a_a.Terms] (fun _ : Unit => (.int .i64 R)) (fun _ => []) := by
 refine Se 12 Tryz.func44 [.tmp 4] ?_
 intro H0 F0
 unfold l_szAtom at hF
 refine au ?_
 refine AbR (fun k1 => ?_)
 iterate 6 refine au ?_
 refine bnd hF fun r2 hx3 hF => Cx0 (l_szIntS_ok _ _ _ _ hx3) (fun _ => ?_)
 iterate 7 refine au ?_
 refine Ci hF (fun hb5 hF => ?_) (fun hb5 hF => ?_)
 · iterate 4 refine au ?_
   cases hF
   exact Er ()
 iterate 6 refine au ?_
 cases hF
 exact Er ()
def l_szAtomS_L1 : List Atom → Nat → Int → Option (Int)
 | [], k5, c1 => some c1
 | x7 :: rest6, k5, c1 => (l_szAtom x7 c1).bind fun r17 =>
   if (decide ((r17 : Int) < 0)) then (
     some (-1))
   else (
     l_szAtomS_L1 rest6 (k5 + 1) r17)
def l_szAtomS (a_a : List Atom) (a_left : Int) : Option (Int) :=
 if (decide (((IntKind.i64.wrap (a_left - (a_a.length : Int))) : Int) < 0)) then (
   some (-1))
 else (
   l_szAtomS_L1 a_a 0 (IntKind.i64.wrap (a_left - (a_a.length : Int))))
theorem l_szAtomS_ok (a_a : List Atom) (v0_0 : Sv) (a_left : Int) (R : Int) (hF : l_szAtomS a_a a_left = some R) :
   Fw.Spec Tryz.prog 22 [v0_0.v, (.int .i64 a_left)] [crd (RdS 76 rd76) v0_0.v a_a] (fun _ : Unit => (.int .i64 R)) (fun _ => []) := by
 refine Se 27 Tryz.func22 [.tmp 4] ?_
 intro H0 F0
 unfold l_szAtomS at hF
 iterate 15 refine au ?_
 refine Ci hF (fun hb22 hF => ?_) (fun hb22 hF => ?_)
 · iterate 4 refine au ?_
   cases hF
   exact Er ()
 iterate 5 refine au ?_
 refine CW_block (CW_loop (m := a_a.length) (fun m3 f' cs' => ∃ (g : Fr) (k5 : Nat) (rest6 : List Atom) (c1 : Int), m3 = rest6.length ∧ f' = updL g [(0, v0_0.v), (1, (.int .i64 c1)), (5, (.int .i64 (k5 : Int)))] ∧ List.drop k5 a_a = rest6 ∧ Ent cs' [crd (RdS 76 rd76) v0_0.v a_a] ∧ l_szAtomS_L1 rest6 k5 c1 = some R) ⟨_, 0, _, _, rfl, eqA, rfl, entA, hF⟩ ?_)
 rintro m3 _ _ ⟨g4, k5, rest6, c1, rfl, rfl, hd8, hE, hF⟩
 refine Kb hE a_a (fun hbd13 => ?_)
 rcases rest6 with _ | ⟨x7, rest6⟩
 · have hk9 := dn hd8
   rw [l_szAtomS_L1] at hF
   iterate 7 refine au ?_
   refine CdF ?_
   iterate 9 refine au ?_
   cases hF
   exact Er ()
 obtain ⟨hk9, hx10, hd11⟩ := drop_cons hd8
 rw [l_szAtomS_L1] at hF
 iterate 7 refine au ?_
 refine CdT ?_
 iterate 5 refine au ?_
 refine Ai hx10 (fun k14 j15 => ?_)
 refine AlA1 (ul76_0_76 x7) la76_0_76 (fun p16 => ?_)
 refine au ?_
 refine bnd hF fun r17 hx18 hF => Cx0 (l_szAtom_ok _ _ _ _ hx18) (fun _ => ?_)
 iterate 6 refine au ?_
 refine Ci hF (fun hb21 hF => ?_) (fun hb21 hF => ?_)
 · iterate 4 refine au ?_
   cases hF
   exact Er ()
 iterate 6 refine au ?_
 rw [wk k5]
 exact ⟨_, Nat.lt_succ_self _, _, k5 + 1, rest6, _, rfl, eqA, hd11, entA, hF⟩
def l_szQuery (a_a : Query) (a_left : Int) : Option (Int) :=
 (l_szIntS a_a.Head a_left).bind fun r2 =>
 if (decide ((r2 : Int) < 0)) then (
   some (-1))
 else (
   (l_szAtomS a_a.Atoms r2).bind fun r5 =>
   if (decide ((r5 : Int) < 0)) then (
     some (-1))
   else (
     some r5))
theorem l_szQuery_ok (a_a : Query) (v0_0 : Sv) (v0_1 : Sv) (a_left : Int) (R : Int) (hF : l_szQuery a_a a_left = some R) :
   Fw.Spec Tryz.prog 5 [(.agg [v0_0.v, v0_1.v].toArray), (.int .i64 a_left)] [crd (RdS 3 rdInt) v0_0.v a_a.Head, crd (RdS 76 rd76) v0_1.v a_a.Atoms] (fun _ : Unit => (.int .i64 R)) (fun _ => []) := by
 refine Se 18 Tryz.func5 [.tmp 4] ?_
 intro H0 F0
 unfold l_szQuery at hF
 refine au ?_
 refine AbR (fun k1 => ?_)
 iterate 6 refine au ?_
 refine bnd hF fun r2 hx3 hF => Cx0 (l_szIntS_ok _ _ _ _ hx3) (fun _ => ?_)
 iterate 7 refine au ?_
 refine Ci hF (fun hb9 hF => ?_) (fun hb9 hF => ?_)
 · iterate 4 refine au ?_
   cases hF
   exact Er ()
 iterate 5 refine au ?_
 refine bnd hF fun r5 hx6 hF => Cx0 (l_szAtomS_ok _ _ _ _ hx6) (fun _ => ?_)
 iterate 7 refine au ?_
 refine Ci hF (fun hb8 hF => ?_) (fun hb8 hF => ?_)
 · iterate 4 refine au ?_
   cases hF
   exact Er ()
 iterate 6 refine au ?_
 cases hF
 exact Er ()
def l_toIntS_L1 : List Int → Nat → (List Int) → Option ((List Int))
 | [], k32, c27 => some c27
 | x34 :: rest33, k32, c27 => (chk (decide (0 ≤ (k32 : Int)) && decide ((k32 : Int) < (c27.length : Int)))).bind fun u46 =>
   (some (c27.set ((k32 : Int)).toNat x34)).bind fun z48 =>
   l_toIntS_L1 rest33 (k32 + 1) z48
def l_toIntS (a_a : List Int) : Option ((List Int)) :=
 (mkz (a_a.length : Int) (0 : Int)).bind fun z1 =>
 l_toIntS_L1 a_a 0 z1
theorem l_toIntS_ok (a_a : List Int) (v0_0 : Sv) (R : (List Int)) (hF : l_toIntS a_a = some R) :
   Fw.Spec Tryz.prog 7 [v0_0.v] [crd (RdS 3 rdInt) v0_0.v a_a] (fun p : Sv × List Nat => p.1.v) (fun p => [cown (OwnS 3 (roE rdInt)) p.2 p.1.v R]) := by
 refine Se 22 Tryz.func7 [.tmp 2] ?_
 intro H0 F0
 unfold l_toIntS at hF
 iterate 6 refine au ?_
 refine bnd hF fun z1 hx2 hF => ?_
 have hm3 := mkz_some hx2
 refine C_new rfl (N_makeSlice (g := true) (c := (a_a.length : Int)) sl22.h ty3.h rfl rfl (by decide) (.tmp rfl rfl) hm3.2.1 hm3.2.2) (fun k4 => ?_)
 refine Cv1 (.cons .h .nil) (own_make (Ro := (roE rdInt)) (E := 3) (a := (0 : Int)) hx2 (fun _ => ⟨rfl, rfl⟩)) ?_
 iterate 6 refine au ?_
 refine CW_block (CW_loop (m := a_a.length) (fun m30 f' cs' => ∃ (g : Fr) (k32 : Nat) (rest33 : List Int) (c27 : List Int) (F28 : List Nat), m30 = rest33.length ∧ f' = updL g [(0, v0_0.v), (3, (.slice (some ⟨k4, 0, none⟩) (a_a.length : Int).toNat 1)), (4, (.int .i64 (k32 : Int)))] ∧ List.drop k32 a_a = rest33 ∧ Ent cs' [crd (RdS 3 rdInt) v0_0.v a_a, cown (OwnS 3 (roE rdInt)) F28 (.slice (some ⟨k4, 0, none⟩) (a_a.length : Int).toNat 1) c27] ∧ l_toIntS_L1 rest33 k32 c27 = some R) ⟨_, 0, _, _, [k4], rfl, eqA, rfl, entA, hF⟩ ?_)
 rintro m30 _ _ ⟨g31, k32, rest33, c27, F28, rfl, rfl, hd35, hE, hF⟩
 refine Kb hE a_a (fun hbd40 => ?_)
 rcases rest33 with _ | ⟨x34, rest33⟩
 · have hk36 := dn hd35
   rw [l_toIntS_L1] at hF
   iterate 7 refine au ?_
   refine CdF ?_
   iterate 9 refine au ?_
   cases hF
   exact Er (⟨(some ⟨k4, 0, none⟩), (a_a.length : Int).toNat, 1⟩, F28)
 obtain ⟨hk36, hx37, hd38⟩ := drop_cons hd35
 rw [l_toIntS_L1] at hF
 iterate 7 refine au ?_
 refine CdT ?_
 iterate 7 refine au ?_
 refine Ai hx37 (fun k41 j42 => ?_)
 refine Al ls3_0 ?_
 refine bnd hF fun u46 hx47 hF => ?_
 have hi45 := chk_some hx47
 refine C_idxO sl22.h ty3.h.sz (.tmp rfl rfl) (.tmp rfl rfl) (.t (.t .h)) hi45 (fun k43 hk44 => ?_)
 refine bnd hF fun z48 hx49 hF => ?_
 replace hx49 := Option.some.inj hx49
 refine C_x1 (.cons (.t (.t .h)) .nil) (X_storeO (Ro := (roE rdInt)) (a := x34) (i := (k32 : Int)) ty3.h.sz rfl (.tmp rfl rfl) (.tmp rfl rfl) hk44 hi45 (Mk_pure (fun _ => rfl)) (fun _ _ _ _ h => by obtain ⟨-, h⟩ := h; cases h; rfl)) (fun F50 => ?_)
 rw [hx49]
 iterate 6 refine au ?_
 rw [wk k32]
 exact ⟨_, Nat.lt_succ_self _, _, k32 + 1, rest33, _, F50, rfl, eqA, hd38, entA, hF⟩
def l_toMethod (a_a : Method) : Option (Method) :=
 (l_toIntS a_a.Inputs).bind fun r4 =>
 some ({ Rel := a_a.Rel, Inputs := r4, Limit := a_a.Limit, Cost := a_a.Cost, Quota := a_a.Quota } : Method)
theorem l_toMethod_ok (a_a : Method) (v0_1 : Sv) (R : Method) (hF : l_toMethod a_a = some R) :
   Fw.Spec Tryz.prog 29 [(.agg [(.int .i64 a_a.Rel), v0_1.v, (.int .i64 a_a.Limit), (.int .i64 a_a.Cost), (.int .i64 a_a.Quota)].toArray)] [crd (RdS 3 rdInt) v0_1.v a_a.Inputs] (fun p : Sv × List Nat => (.agg [(.int .i64 R.Rel), p.1.v, (.int .i64 R.Limit), (.int .i64 R.Cost), (.int .i64 R.Quota)].toArray)) (fun p => [cown (OwnS 3 (roE rdInt)) p.2 p.1.v R.Inputs]) := by
 refine Se 21 Tryz.func29 [.cell 2 65] ?_
 intro H0 F0
 unfold l_toMethod at hF
 refine au ?_
 refine AbR (fun k1 => ?_)
 refine AnW (fun k2 => ?_)
 iterate 2 refine au ?_
 refine AnW (fun k3 => ?_)
 iterate 5 refine au ?_
 refine As (.agg [(.int .i64 a_a.Rel), (.slice none 0 0), (.int .i64 0), (.int .i64 0), (.int .i64 0)].toArray) ?_
 iterate 4 refine au ?_
 refine bnd hF fun r4 hx5 hF => Cx1 (l_toIntS_ok _ _ _ hx5) (fun p6 => ?_)
 refine au ?_
 refine As (.agg [(.int .i64 a_a.Rel), p6.1.v, (.int .i64 0), (.int .i64 0), (.int .i64 0)].toArray) ?_
 iterate 5 refine au ?_
 refine As (.agg [(.int .i64 a_a.Rel), p6.1.v, (.int .i64 a_a.Limit), (.int .i64 0), (.int .i64 0)].toArray) ?_
 iterate 5 refine au ?_
 refine As (.agg [(.int .i64 a_a.Rel), p6.1.v, (.int .i64 a_a.Limit), (.int .i64 a_a.Cost), (.int .i64 0)].toArray) ?_
 iterate 5 refine au ?_
 refine As (.agg [(.int .i64 a_a.Rel), p6.1.v, (.int .i64 a_a.Limit), (.int .i64 a_a.Cost), (.int .i64 a_a.Quota)].toArray) ?_
 iterate 3 refine au ?_
 refine As (.agg [(.int .i64 a_a.Rel), p6.1.v, (.int .i64 a_a.Limit), (.int .i64 a_a.Cost), (.int .i64 a_a.Quota)].toArray) ?_
 iterate 2 refine au ?_
 cases hF
 exact Er (p6.1, p6.2)
def l_toMethodS_L1 : List Method → Nat → (List Method) → Option ((List Method))
 | [], k36, c31 => some c31
 | x38 :: rest37, k36, c31 => (l_toMethod x38).bind fun r48 =>
   (chk (decide (0 ≤ (k36 : Int)) && decide ((k36 : Int) < (c31.length : Int)))).bind fun u54 =>
   (some (c31.set ((k36 : Int)).toNat r48)).bind fun z56 =>
   l_toMethodS_L1 rest37 (k36 + 1) z56
def l_toMethodS (a_a : List Method) : Option ((List Method)) :=
 (mkz (a_a.length : Int) (({ Rel := 0, Inputs := [], Limit := 0, Cost := 0, Quota := 0 } : Method) : Method)).bind fun z1 =>
 l_toMethodS_L1 a_a 0 z1
theorem l_toMethodS_ok (a_a : List Method) (v0_0 : Sv) (R : (List Method)) (hF : l_toMethodS a_a = some R) :
   Fw.Spec Tryz.prog 8 [v0_0.v] [crd (RdS 52 rd52) v0_0.v a_a] (fun p : Sv × List Nat => p.1.v) (fun p => [cown (OwnS 65 ow65) p.2 p.1.v R]) := by
 refine Se 23 Tryz.func8 [.tmp 2] ?_
 intro H0 F0
 unfold l_toMethodS at hF
 iterate 6 refine au ?_
 refine bnd hF fun z1 hx2 hF => ?_
 have hm3 := mkz_some hx2
 refine C_new rfl (N_makeSlice (g := true) (c := (a_a.length : Int)) sl35.h ty65.h rfl rfl (by decide) (.tmp rfl rfl) hm3.2.1 hm3.2.2) (fun k4 => ?_)
 refine Cv1 (.cons .h .nil) (own_make (Ro := ow65) (E := 65) (a := (({ Rel := 0, Inputs := [], Limit := 0, Cost := 0, Quota := 0 } : Method) : Method)) hx2 (fun _ => ⟨⟨none, 0, 0⟩, [], rfl, rfl, .inl ⟨rfl, rfl, rfl⟩⟩)) ?_
 iterate 6 refine au ?_
 refine CW_block (CW_loop (m := a_a.length) (fun m34 f' cs' => ∃ (g : Fr) (k36 : Nat) (rest37 : List Method) (c31 : List Method) (F32 : List Nat), m34 = rest37.length ∧ f' = updL g [(0, v0_0.v), (3, (.slice (some ⟨k4, 0, none⟩) (a_a.length : Int).toNat 1)), (4, (.int .i64 (k36 : Int)))] ∧ List.drop k36 a_a = rest37 ∧ Ent cs' [crd (RdS 52 rd52) v0_0.v a_a, cown (OwnS 65 ow65) F32 (.slice (some ⟨k4, 0, none⟩) (a_a.length : Int).toNat 1) c31] ∧ l_toMethodS_L1 rest37 k36 c31 = some R) ⟨_, 0, _, _, [k4], rfl, eqA, rfl, entA, hF⟩ ?_)
 rintro m34 _ _ ⟨g35, k36, rest37, c31, F32, rfl, rfl, hd39, hE, hF⟩
 refine Kb hE a_a (fun hbd44 => ?_)
 rcases rest37 with _ | ⟨x38, rest37⟩
 · have hk40 := dn hd39
   rw [l_toMethodS_L1] at hF
   iterate 7 refine au ?_
   refine CdF ?_
   iterate 9 refine au ?_
   cases hF
   exact Er (⟨(some ⟨k4, 0, none⟩), (a_a.length : Int).toNat, 1⟩, F32)
 obtain ⟨hk40, hx41, hd42⟩ := drop_cons hd39
 rw [l_toMethodS_L1] at hF
 iterate 7 refine au ?_
 refine CdT ?_
 iterate 7 refine au ?_
 refine Ai hx41 (fun k45 j46 => ?_)
 refine AlA1 (ul52_0_52 x38) la52_0_52 (fun p47 => ?_)
 refine bnd hF fun r48 hx49 hF => Cx1 (l_toMethod_ok _ _ _ hx49) (fun p50 => ?_)
 refine bnd hF fun u54 hx55 hF => ?_
 have hi53 := chk_some hx55
 refine C_idxO sl35.h ty65.h.sz (.tmp rfl rfl) (.tmp rfl rfl) (.t (.t (.t (.t .h)))) hi53 (fun k51 hk52 => ?_)
 refine bnd hF fun z56 hx57 hF => ?_
 replace hx57 := Option.some.inj hx57
 refine C_x1 (.cons (.t (.t (.t (.t .h)))) (.cons .h .nil)) (X_storeO (Ro := ow65) (a := r48) (i := (k36 : Int)) ty65.h.sz rfl (.tmp rfl rfl) (.tmp rfl rfl) hk52 hi53 mk65 (fun _ _ _ _ h => by obtain ⟨_, _, rfl, rfl, _⟩ := h; rfl)) (fun F58 => ?_)
 rw [hx57]
 iterate 6 refine au ?_
 rw [wk k36]
 exact ⟨_, Nat.lt_succ_self _, _, k36 + 1, rest37, _, F58, rfl, eqA, hd42, entA, hF⟩
def l_toAtom (a_a : Atom) : Option (Atom) :=
 (l_toIntS a_a.Terms).bind fun r4 =>
 some ({ Rel := a_a.Rel, Terms := r4 } : Atom)
theorem l_toAtom_ok (a_a : Atom) (v0_1 : Sv) (R : Atom) (hF : l_toAtom a_a = some R) :
   Fw.Spec Tryz.prog 58 [(.agg [(.int .i64 a_a.Rel), v0_1.v].toArray)] [crd (RdS 3 rdInt) v0_1.v a_a.Terms] (fun p : Sv × List Nat => (.agg [(.int .i64 R.Rel), p.1.v].toArray)) (fun p => [cown (OwnS 3 (roE rdInt)) p.2 p.1.v R.Terms]) := by
 refine Se 12 Tryz.func58 [.cell 2 84] ?_
 intro H0 F0
 unfold l_toAtom at hF
 refine au ?_
 refine AbR (fun k1 => ?_)
 refine AnW (fun k2 => ?_)
 iterate 2 refine au ?_
 refine AnW (fun k3 => ?_)
 iterate 5 refine au ?_
 refine As (.agg [(.int .i64 a_a.Rel), (.slice none 0 0)].toArray) ?_
 iterate 4 refine au ?_
 refine bnd hF fun r4 hx5 hF => Cx1 (l_toIntS_ok _ _ _ hx5) (fun p6 => ?_)
 refine au ?_
 refine As (.agg [(.int .i64 a_a.Rel), p6.1.v].toArray) ?_
 iterate 3 refine au ?_
 refine As (.agg [(.int .i64 a_a.Rel), p6.1.v].toArray) ?_
 iterate 2 refine au ?_
 cases hF
 exact Er (p6.1, p6.2)
def l_toAtomS_L1 : List Atom → Nat → (List Atom) → Option ((List Atom))
 | [], k36, c31 => some c31
 | x38 :: rest37, k36, c31 => (l_toAtom x38).bind fun r48 =>
   (chk (decide (0 ≤ (k36 : Int)) && decide ((k36 : Int) < (c31.length : Int)))).bind fun u54 =>
   (some (c31.set ((k36 : Int)).toNat r48)).bind fun z56 =>
   l_toAtomS_L1 rest37 (k36 + 1) z56
def l_toAtomS (a_a : List Atom) : Option ((List Atom)) :=
 (mkz (a_a.length : Int) (({ Rel := 0, Terms := [] } : Atom) : Atom)).bind fun z1 =>
 l_toAtomS_L1 a_a 0 z1
theorem l_toAtomS_ok (a_a : List Atom) (v0_0 : Sv) (R : (List Atom)) (hF : l_toAtomS a_a = some R) :
   Fw.Spec Tryz.prog 30 [v0_0.v] [crd (RdS 76 rd76) v0_0.v a_a] (fun p : Sv × List Nat => p.1.v) (fun p => [cown (OwnS 84 ow84) p.2 p.1.v R]) := by
 refine Se 23 Tryz.func30 [.tmp 2] ?_
 intro H0 F0
 unfold l_toAtomS at hF
 iterate 6 refine au ?_
 refine bnd hF fun z1 hx2 hF => ?_
 have hm3 := mkz_some hx2
 refine C_new rfl (N_makeSlice (g := true) (c := (a_a.length : Int)) sl37.h ty84.h rfl rfl (by decide) (.tmp rfl rfl) hm3.2.1 hm3.2.2) (fun k4 => ?_)
 refine Cv1 (.cons .h .nil) (own_make (Ro := ow84) (E := 84) (a := (({ Rel := 0, Terms := [] } : Atom) : Atom)) hx2 (fun _ => ⟨⟨none, 0, 0⟩, [], rfl, rfl, .inl ⟨rfl, rfl, rfl⟩⟩)) ?_
 iterate 6 refine au ?_
 refine CW_block (CW_loop (m := a_a.length) (fun m34 f' cs' => ∃ (g : Fr) (k36 : Nat) (rest37 : List Atom) (c31 : List Atom) (F32 : List Nat), m34 = rest37.length ∧ f' = updL g [(0, v0_0.v), (3, (.slice (some ⟨k4, 0, none⟩) (a_a.length : Int).toNat 1)), (4, (.int .i64 (k36 : Int)))] ∧ List.drop k36 a_a = rest37 ∧ Ent cs' [crd (RdS 76 rd76) v0_0.v a_a, cown (OwnS 84 ow84) F32 (.slice (some ⟨k4, 0, none⟩) (a_a.length : Int).toNat 1) c31] ∧ l_toAtomS_L1 rest37 k36 c31 = some R) ⟨_, 0, _, _, [k4], rfl, eqA, rfl, entA, hF⟩ ?_)
 rintro m34 _ _ ⟨g35, k36, rest37, c31, F32, rfl, rfl, hd39, hE, hF⟩
 refine Kb hE a_a (fun hbd44 => ?_)
 rcases rest37 with _ | ⟨x38, rest37⟩
 · have hk40 := dn hd39
   rw [l_toAtomS_L1] at hF
   iterate 7 refine au ?_
   refine CdF ?_
   iterate 9 refine au ?_
   cases hF
   exact Er (⟨(some ⟨k4, 0, none⟩), (a_a.length : Int).toNat, 1⟩, F32)
 obtain ⟨hk40, hx41, hd42⟩ := drop_cons hd39
 rw [l_toAtomS_L1] at hF
 iterate 7 refine au ?_
 refine CdT ?_
 iterate 7 refine au ?_
 refine Ai hx41 (fun k45 j46 => ?_)
 refine AlA1 (ul76_0_76 x38) la76_0_76 (fun p47 => ?_)
 refine bnd hF fun r48 hx49 hF => Cx1 (l_toAtom_ok _ _ _ hx49) (fun p50 => ?_)
 refine bnd hF fun u54 hx55 hF => ?_
 have hi53 := chk_some hx55
 refine C_idxO sl37.h ty84.h.sz (.tmp rfl rfl) (.tmp rfl rfl) (.t (.t (.t (.t .h)))) hi53 (fun k51 hk52 => ?_)
 refine bnd hF fun z56 hx57 hF => ?_
 replace hx57 := Option.some.inj hx57
 refine C_x1 (.cons (.t (.t (.t (.t .h)))) (.cons .h .nil)) (X_storeO (Ro := ow84) (a := r48) (i := (k36 : Int)) ty84.h.sz rfl (.tmp rfl rfl) (.tmp rfl rfl) hk52 hi53 mk84 (fun _ _ _ _ h => by obtain ⟨_, _, rfl, rfl, _⟩ := h; rfl)) (fun F58 => ?_)
 rw [hx57]
 iterate 6 refine au ?_
 rw [wk k36]
 exact ⟨_, Nat.lt_succ_self _, _, k36 + 1, rest37, _, F58, rfl, eqA, hd42, entA, hF⟩
def l_toQuery (a_a : Query) : Option (Query) :=
 (l_toIntS a_a.Head).bind fun r4 =>
 (l_toAtomS a_a.Atoms).bind fun r7 =>
 some ({ Head := r4, Atoms := r7 } : Query)
theorem l_toQuery_ok (a_a : Query) (v0_0 : Sv) (v0_1 : Sv) (R : Query) (hF : l_toQuery a_a = some R) :
   Fw.Spec Tryz.prog 9 [(.agg [v0_0.v, v0_1.v].toArray)] [crd (RdS 3 rdInt) v0_0.v a_a.Head, crd (RdS 76 rd76) v0_1.v a_a.Atoms] (fun p : Sv × List Nat × Sv × List Nat => (.agg [p.1.v, p.2.2.1.v].toArray)) (fun p => [cown (OwnS 3 (roE rdInt)) p.2.1 p.1.v R.Head, cown (OwnS 84 ow84) p.2.2.2 p.2.2.1.v R.Atoms]) := by
 refine Se 13 Tryz.func9 [.cell 2 39] ?_
 intro H0 F0
 unfold l_toQuery at hF
 refine au ?_
 refine AbR (fun k1 => ?_)
 refine AnW (fun k2 => ?_)
 iterate 2 refine au ?_
 refine AnW (fun k3 => ?_)
 iterate 4 refine au ?_
 refine bnd hF fun r4 hx5 hF => Cx1 (l_toIntS_ok _ _ _ hx5) (fun p6 => ?_)
 refine au ?_
 refine As (.agg [p6.1.v, (.slice none 0 0)].toArray) ?_
 iterate 4 refine au ?_
 refine bnd hF fun r7 hx8 hF => Cx1 (l_toAtomS_ok _ _ _ hx8) (fun p9 => ?_)
 refine au ?_
 refine As (.agg [p6.1.v, p9.1.v].toArray) ?_
 iterate 3 refine au ?_
 refine As (.agg [p6.1.v, p9.1.v].toArray) ?_
 iterate 2 refine au ?_
 cases hF
 exact Er (p6.1, p6.2, p9.1, p9.2)
def s_l1In (a_x : Int) (a_low : Int) (a_high : Int) : Option (Bool) :=
 some ((decide ((a_low : Int) ≤ a_x)) && (decide ((a_x : Int) ≤ a_high)))
theorem s_l1In_ok (a_x : Int) (a_low : Int) (a_high : Int) (R : Bool) (hF : s_l1In a_x a_low a_high = some R) :
   Fw.Spec Tryz.prog 56 [(.int .i64 a_x), (.int .i64 a_low), (.int .i64 a_high)] [] (fun _ : Unit => (.bool R)) (fun _ => []) := by
 refine Se 15 Tryz.func56 [.tmp 6] ?_
 intro H0 F0
 unfold s_l1In at hF
 iterate 4 refine au ?_
 refine C_cut (fun f' cs' => ∃ (g : Fr), f' = updL g [(6, (.bool ((decide ((a_low : Int) ≤ a_x)) && (decide ((a_x : Int) ≤ a_high)))))] ∧ Ent cs' []) ?_ ?_
 · iterate 4 refine au ?_
   rcases Bool.eq_false_or_eq_true (decide ((a_low : Int) ≤ a_x)) with hg1 | hg1
   · rw [hg1]
     try rw [hg1] at hF; dsimp only [cond_true, cond_false] at hF
     iterate 9 refine au ?_
     exact ⟨_, eqA, entA⟩
   rw [hg1]
   try rw [hg1] at hF; dsimp only [cond_true, cond_false] at hF
   iterate 6 refine au ?_
   exact ⟨_, eqA, entA⟩
 rintro _ _ ⟨g2, rfl, hE⟩
 refine K_ent hE ?_
 refine au ?_
 cases hF
 exact Er ()
def s_IsSchema_L1 (a_s : List Int) : List Int → Nat → Option (Bool)
 | [], k4 => (s_l1In (a_s.length : Int) 1 3).bind fun r13 =>
   some r13
 | x6 :: rest5, k4 => (s_l1In x6 1 3).bind fun r18 =>
   if (!r18) then (
     some false)
   else (
     s_IsSchema_L1 a_s rest5 (k4 + 1))
def s_IsSchema (a_s : List Int) : Option (Bool) :=
 s_IsSchema_L1 a_s a_s 0
theorem s_IsSchema_ok (a_s : List Int) (v0_0 : Sv) (R : Bool) (hF : s_IsSchema a_s = some R) :
   Fw.Spec Tryz.prog 72 [v0_0.v] [crd (RdS 3 rdInt) v0_0.v a_s] (fun _ : Unit => (.bool R)) (fun _ => []) := by
 refine Se 19 Tryz.func72 [.tmp 2] ?_
 intro H0 F0
 unfold s_IsSchema at hF
 iterate 7 refine au ?_
 refine CW_block (CW_loop (m := a_s.length) (fun m2 f' cs' => ∃ (g : Fr) (k4 : Nat) (rest5 : List Int), m2 = rest5.length ∧ f' = updL g [(0, v0_0.v), (3, (.int .i64 (k4 : Int)))] ∧ List.drop k4 a_s = rest5 ∧ Ent cs' [crd (RdS 3 rdInt) v0_0.v a_s] ∧ s_IsSchema_L1 a_s rest5 k4 = some R) ⟨_, 0, _, rfl, eqA, rfl, entA, hF⟩ ?_)
 rintro m2 _ _ ⟨g3, k4, rest5, rfl, rfl, hd7, hE, hF⟩
 refine Kb hE a_s (fun hbd12 => ?_)
 rcases rest5 with _ | ⟨x6, rest5⟩
 · have hk8 := dn hd7
   rw [s_IsSchema_L1] at hF
   iterate 7 refine au ?_
   refine CdF ?_
   iterate 7 refine au ?_
   refine bnd hF fun r13 hx14 hF => Cx0 (s_l1In_ok _ _ _ _ hx14) (fun _ => ?_)
   iterate 3 refine au ?_
   cases hF
   exact Er ()
 obtain ⟨hk8, hx9, hd10⟩ := drop_cons hd7
 rw [s_IsSchema_L1] at hF
 iterate 7 refine au ?_
 refine CdT ?_
 iterate 5 refine au ?_
 refine Ai hx9 (fun k16 j17 => ?_)
 refine Al ls3_0 ?_
 refine bnd hF fun r18 hx19 hF => Cx0 (s_l1In_ok _ _ _ _ hx19) (fun _ => ?_)
 iterate 2 refine au ?_
 refine Ci hF (fun hb22 hF => ?_) (fun hb22 hF => ?_)
 · iterate 4 refine au ?_
   cases hF
   exact Er ()
 iterate 6 refine au ?_
 rw [wk k4]
 exact ⟨_, Nat.lt_succ_self _, _, k4 + 1, rest5, rfl, eqA, hd10, entA, hF⟩
def s_IsMethod_L1 (a_s : List Int) (a_m : Method) : List Int → Nat → Option (Bool)
 | [], k27 => some true
 | x29 :: rest28, k27 => ((ix a_s a_m.Rel).bind fun x40 =>
     (s_l1In x29 0 (IntKind.i64.wrap (x40 - 1))).bind fun r46 =>
     bif (!r46) then (some true)
     else (bif (decide ((0 : Int) < (k27 : Int))) then ((ix a_m.Inputs (IntKind.i64.wrap ((k27 : Int) - 1))).bind fun x53 =>
         some (decide ((x29 : Int) ≤ x53)))
       else (some false))).bind fun o36 =>
   match o36 with
   | c59 => if c59 then (
       some false)
     else (
       s_IsMethod_L1 a_s a_m rest28 (k27 + 1))
def s_IsMethod (a_s : List Int) (a_m : Method) : Option (Bool) :=
 ((s_IsSchema a_s).bind fun r4 =>
   bif (!r4) then (some true)
   else ((s_l1In a_m.Rel 0 (IntKind.i64.wrap ((a_s.length : Int) - 1))).bind fun r8 =>
     bif (!r8) then (some true)
     else ((s_l1In a_m.Limit 0 9).bind fun r12 =>
       bif (!r12) then (some true)
       else ((s_l1In a_m.Cost 0 99).bind fun r16 =>
         bif (!r16) then (some true)
         else ((s_l1In a_m.Quota 1 99).bind fun r20 =>
           some (!r20)))))).bind fun o2 =>
 match o2 with
 | c23 => if c23 then (
     some false)
   else (
     s_IsMethod_L1 a_s a_m a_m.Inputs 0)
theorem s_IsMethod_ok (a_s : List Int) (v0_0 : Sv) (a_m : Method) (v1_1 : Sv) (R : Bool) (hF : s_IsMethod a_s a_m = some R) :
   Fw.Spec Tryz.prog 71 [v0_0.v, (.agg [(.int .i64 a_m.Rel), v1_1.v, (.int .i64 a_m.Limit), (.int .i64 a_m.Cost), (.int .i64 a_m.Quota)].toArray)] [crd (RdS 3 rdInt) v0_0.v a_s, crd (RdS 3 rdInt) v1_1.v a_m.Inputs] (fun _ : Unit => (.bool R)) (fun _ => []) := by
 refine Se 74 Tryz.func71 [.tmp 4] ?_
 intro H0 F0
 unfold s_IsMethod at hF
 refine au ?_
 refine AbR (fun k1 => ?_)
 iterate 3 refine au ?_
 obtain ⟨o2, hio2, hO3⟩ := bind_some hF
 refine au ?_
 refine C_cut (fun f' cs' => ∃ (c23 : Bool) (g : Fr), c23 = o2 ∧ f' = updL g [(0, v0_0.v), (3, (pz k1)), (35, (.bool c23))] ∧ Ent cs' [crd (RdS 3 rdInt) v0_0.v a_s, cboR k1 65 (.agg [(.int .i64 a_m.Rel), v1_1.v, (.int .i64 a_m.Limit), (.int .i64 a_m.Cost), (.int .i64 a_m.Quota)].toArray), crd (RdS 3 rdInt) v1_1.v a_m.Inputs]) ?_ ?_
 · replace hF := hio2
   refine au ?_
   refine bnd hF fun r4 hx5 hF => Cx0 (s_IsSchema_ok _ _ _ hx5) (fun _ => ?_)
   iterate 2 refine au ?_
   rcases Bool.eq_false_or_eq_true (!r4) with hg7 | hg7
   · rw [hg7]
     try rw [hg7] at hF; dsimp only [cond_true, cond_false] at hF
     iterate 27 refine au ?_
     cases hF
     exact ⟨_, _, rfl, eqA, entA⟩
   rw [hg7]
   try rw [hg7] at hF; dsimp only [cond_true, cond_false] at hF
   iterate 11 refine au ?_
   refine bnd hF fun r8 hx9 hF => Cx0 (s_l1In_ok _ _ _ _ hx9) (fun _ => ?_)
   iterate 4 refine au ?_
   rcases Bool.eq_false_or_eq_true (!r8) with hg11 | hg11
   · rw [hg11]
     try rw [hg11] at hF; dsimp only [cond_true, cond_false] at hF
     iterate 18 refine au ?_
     cases hF
     exact ⟨_, _, rfl, eqA, entA⟩
   rw [hg11]
   try rw [hg11] at hF; dsimp only [cond_true, cond_false] at hF
   iterate 5 refine au ?_
   refine bnd hF fun r12 hx13 hF => Cx0 (s_l1In_ok _ _ _ _ hx13) (fun _ => ?_)
   iterate 4 refine au ?_
   rcases Bool.eq_false_or_eq_true (!r12) with hg15 | hg15
   · rw [hg15]
     try rw [hg15] at hF; dsimp only [cond_true, cond_false] at hF
     iterate 12 refine au ?_
     cases hF
     exact ⟨_, _, rfl, eqA, entA⟩
   rw [hg15]
   try rw [hg15] at hF; dsimp only [cond_true, cond_false] at hF
   iterate 5 refine au ?_
   refine bnd hF fun r16 hx17 hF => Cx0 (s_l1In_ok _ _ _ _ hx17) (fun _ => ?_)
   iterate 4 refine au ?_
   rcases Bool.eq_false_or_eq_true (!r16) with hg19 | hg19
   · rw [hg19]
     try rw [hg19] at hF; dsimp only [cond_true, cond_false] at hF
     iterate 6 refine au ?_
     cases hF
     exact ⟨_, _, rfl, eqA, entA⟩
   rw [hg19]
   try rw [hg19] at hF; dsimp only [cond_true, cond_false] at hF
   iterate 5 refine au ?_
   refine bnd hF fun r20 hx21 hF => Cx0 (s_l1In_ok _ _ _ _ hx21) (fun _ => ?_)
   iterate 4 refine au ?_
   cases hF
   exact ⟨_, _, rfl, eqA, entA⟩
 rintro _ _ ⟨c23, g64, rfl, rfl, hE⟩
 replace hF := hO3
 try dsimp only at hF
 refine K_ent hE ?_
 refine Ci hF (fun hb63 hF => ?_) (fun hb63 hF => ?_)
 · iterate 4 refine au ?_
   cases hF
   exact Er ()
 iterate 5 refine au ?_
 refine CW_block (CW_loop (m := a_m.Inputs.length) (fun m25 f' cs' => ∃ (g : Fr) (k27 : Nat) (rest28 : List Int), m25 = rest28.length ∧ f' = updL g [(0, v0_0.v), (3, (pz k1)), (5, (.int .i64 (k27 : Int)))] ∧ List.drop k27 a_m.Inputs = rest28 ∧ Ent cs' [crd (RdS 3 rdInt) v0_0.v a_s, cboR k1 65 (.agg [(.int .i64 a_m.Rel), v1_1.v, (.int .i64 a_m.Limit), (.int .i64 a_m.Cost), (.int .i64 a_m.Quota)].toArray), crd (RdS 3 rdInt) v1_1.v a_m.Inputs] ∧ s_IsMethod_L1 a_s a_m rest28 k27 = some R) ⟨_, 0, _, rfl, eqA, rfl, entA, hF⟩ ?_)
 rintro m25 _ _ ⟨g26, k27, rest28, rfl, rfl, hd30, hE, hF⟩
 refine Kb hE a_m.Inputs (fun hbd35 => ?_)
 rcases rest28 with _ | ⟨x29, rest28⟩
 · have hk31 := dn hd30
   rw [s_IsMethod_L1] at hF
   iterate 8 refine au ?_
   refine CdF ?_
   iterate 8 refine au ?_
   cases hF
   exact Er ()
 obtain ⟨hk31, hx32, hd33⟩ := drop_cons hd30
 rw [s_IsMethod_L1] at hF
 iterate 8 refine au ?_
 refine CdT ?_
 iterate 2 refine au ?_
 obtain ⟨o36, hio36, hO37⟩ := bind_some hF
 refine K_draw [0, 1, 2, 3, 4, 5, 6, 7, 8, 9, 10, 11, 12, 13, 14, 15, 16, 17, 18, 19, 20, 21, 22, 23, 24, 25, 26, 27, 28, 29, 30] [0, 1, 0, 7, 15, 0, 0, 64, 224, 480, 992, 2047, 4095, 8191, 16383, 32767, 65535, 131071, 262143, 131071, 1048575, 2097151, 131071, 4325375, 131071, 16908287, 63045631, 130154495, 268435455, 536870911, 1073741823] [11] mixed (by decide +kernel) ?_
 refine D_cut (fun f' cs' => ∃ (c59 : Bool) (g : Fr), c59 = o36 ∧ f' = updL g [(0, v0_0.v), (3, (pz k1)), (5, (.int .i64 (k27 : Int))), (73, (.bool c59))] ∧ Ent cs' [crd (RdS 3 rdInt) v0_0.v a_s, cboR k1 65 (.agg [(.int .i64 a_m.Rel), v1_1.v, (.int .i64 a_m.Limit), (.int .i64 a_m.Cost), (.int .i64 a_m.Quota)].toArray), crd (RdS 3 rdInt) v1_1.v a_m.Inputs]) ?_ ?_
 · replace hF := hio36
   iterate 3 refine du ?_
   refine Di hx32 (fun k38 j39 => ?_)
   refine Dl ls3_0 ?_
   iterate 3 refine du ?_
   refine bnd hF fun x40 hx41 hF => ?_
   obtain ⟨hp42, hx43⟩ := ix_some hx41
   refine Di hx43 (fun k44 j45 => ?_)
   refine Dl ls3_0 ?_
   refine du ?_
   refine bnd hF fun r46 hx47 hF => Dx0 (s_l1In_ok _ _ _ _ hx47) (fun _ => ?_)
   iterate 2 refine du ?_
   rcases Bool.eq_false_or_eq_true (!r46) with hg49 | hg49
   · rw [hg49]
     try rw [hg49] at hF; dsimp only [cond_true, cond_false] at hF
     iterate 18 refine du ?_
     cases hF
     exact ⟨_, _, rfl, eqA, entA⟩
   rw [hg49]
   try rw [hg49] at hF; dsimp only [cond_true, cond_false] at hF
   iterate 3 refine du ?_
   rcases Bool.eq_false_or_eq_true (decide ((0 : Int) < (k27 : Int))) with hg50 | hg50
   · rw [hg50]
     try rw [hg50] at hF; dsimp only [cond_true, cond_false] at hF
     iterate 3 refine du ?_
     refine Di hx32 (fun k51 j52 => ?_)
     refine Dl ls3_0 ?_
     iterate 4 refine du ?_
     refine bnd hF fun x53 hx54 hF => ?_
     obtain ⟨hp55, hx56⟩ := ix_some hx54
     refine Di hx56 (fun k57 j58 => ?_)
     refine Dl ls3_0 ?_
     iterate 4 refine du ?_
     cases hF
     exact ⟨_, _, rfl, eqA, entA⟩
   rw [hg50]
   try rw [hg50] at hF; dsimp only [cond_true, cond_false] at hF
   iterate 15 refine du ?_
   cases hF
   exact ⟨_, _, rfl, eqA, entA⟩
 rintro _ _ ⟨c59, g62, rfl, rfl, hE⟩
 replace hF := hO37
 try dsimp only at hF
 refine K_ent hE ?_
 refine Ci hF (fun hb61 hF => ?_) (fun hb61 hF => ?_)
 · iterate 4 refine au ?_
   cases hF
   exact Er ()
 iterate 6 refine au ?_
 rw [wk k27]
 exact ⟨_, Nat.lt_succ_self _, _, k27 + 1, rest28, rfl, eqA, hd33, entA, hF⟩
def s_AreMethods_L1 (a_s : List Int) (a_l : List Method) : List Method → Nat → Option (Bool)
 | [], k4 => ((s_IsSchema a_s).bind fun r15 =>
     bif r15 then (some (decide (((a_l.length : Int) : Int) ≤ 5)))
     else (some false)).bind fun o13 =>
   match o13 with
   | c19 => some c19
 | x6 :: rest5, k4 => (s_IsMethod a_s x6).bind fun r24 =>
   if (!r24) then (
     some false)
   else (
     s_AreMethods_L1 a_s a_l rest5 (k4 + 1))
def s_AreMethods (a_s : List Int) (a_l : List Method) : Option (Bool) :=
 s_AreMethods_L1 a_s a_l a_l 0
theorem s_AreMethods_ok (a_s : List Int) (v0_0 : Sv) (a_l : List Method) (v1_0 : Sv) (R : Bool) (hF : s_AreMethods a_s a_l = some R) :
   Fw.Spec Tryz.prog 45 [v0_0.v, v1_0.v] [crd (RdS 3 rdInt) v0_0.v a_s, crd (RdS 65 rd65) v1_0.v a_l] (fun _ : Unit => (.bool R)) (fun _ => []) := by
 refine Se 26 Tryz.func45 [.tmp 4] ?_
 intro H0 F0
 unfold s_AreMethods at hF
 iterate 7 refine au ?_
 refine CW_block (CW_loop (m := a_l.length) (fun m2 f' cs' => ∃ (g : Fr) (k4 : Nat) (rest5 : List Method), m2 = rest5.length ∧ f' = updL g [(0, v0_0.v), (1, v1_0.v), (5, (.int .i64 (k4 : Int)))] ∧ List.drop k4 a_l = rest5 ∧ Ent cs' [crd (RdS 3 rdInt) v0_0.v a_s, crd (RdS 65 rd65) v1_0.v a_l] ∧ s_AreMethods_L1 a_s a_l rest5 k4 = some R) ⟨_, 0, _, rfl, eqA, rfl, entA, hF⟩ ?_)
 rintro m2 _ _ ⟨g3, k4, rest5, rfl, rfl, hd7, hE, hF⟩
 refine Kb hE a_l (fun hbd12 => ?_)
 rcases rest5 with _ | ⟨x6, rest5⟩
 · have hk8 := dn hd7
   rw [s_AreMethods_L1] at hF
   iterate 7 refine au ?_
   refine CdF ?_
   iterate 4 refine au ?_
   obtain ⟨o13, hio13, hO14⟩ := bind_some hF
   refine au ?_
   refine C_cut (fun f' cs' => ∃ (c19 : Bool) (g : Fr), c19 = o13 ∧ f' = updL g [(4, (.bool c19))] ∧ Ent cs' []) ?_ ?_
   · replace hF := hio13
     refine au ?_
     refine bnd hF fun r15 hx16 hF => Cx0 (s_IsSchema_ok _ _ _ hx16) (fun _ => ?_)
     refine au ?_
     rcases Bool.eq_false_or_eq_true r15 with hg18 | hg18
     · rw [hg18]
       try rw [hg18] at hF; dsimp only [cond_true, cond_false] at hF
       iterate 9 refine au ?_
       cases hF
       exact ⟨_, _, rfl, eqA, entA⟩
     rw [hg18]
     try rw [hg18] at hF; dsimp only [cond_true, cond_false] at hF
     iterate 6 refine au ?_
     cases hF
     exact ⟨_, _, rfl, eqA, entA⟩
   rintro _ _ ⟨c19, g20, rfl, rfl, hE⟩
   replace hF := hO14
   try dsimp only at hF
   refine K_ent hE ?_
   refine au ?_
   cases hF
   exact Er ()
 obtain ⟨hk8, hx9, hd10⟩ := drop_cons hd7
 rw [s_AreMethods_L1] at hF
 iterate 7 refine au ?_
 refine CdT ?_
 iterate 6 refine au ?_
 refine Ai hx9 (fun k21 j22 => ?_)
 refine AlA1 (ul65_0_65 x6) la65_0_65 (fun p23 => ?_)
 refine bnd hF fun r24 hx25 hF => Cx0 (s_IsMethod_ok _ _ _ _ _ hx25) (fun _ => ?_)
 iterate 2 refine au ?_
 refine Ci hF (fun hb28 hF => ?_) (fun hb28 hF => ?_)
 · iterate 4 refine au ?_
   cases hF
   exact Er ()
 iterate 6 refine au ?_
 rw [wk k4]
 exact ⟨_, Nat.lt_succ_self _, _, k4 + 1, rest5, rfl, eqA, hd10, entA, hF⟩
def s_IsVar (a_t : Int) : Option (Bool) :=
 (s_l1In a_t 10 17).bind fun r1 =>
 some r1
theorem s_IsVar_ok (a_t : Int) (R : Bool) (hF : s_IsVar a_t = some R) :
   Fw.Spec Tryz.prog 79 [(.int .i64 a_t)] [] (fun _ : Unit => (.bool R)) (fun _ => []) := by
 refine Se 5 Tryz.func79 [.tmp 2] ?_
 intro H0 F0
 unfold s_IsVar at hF
 iterate 5 refine au ?_
 refine bnd hF fun r1 hx2 hF => Cx0 (s_l1In_ok _ _ _ _ hx2) (fun _ => ?_)
 iterate 3 refine au ?_
 cases hF
 exact Er ()
def s_l2Has_L1 (a_x : Int) : List Int → Nat → Option (Bool)
 | [], k4 => some false
 | x6 :: rest5, k4 => if ((x6 : Int) == a_x) then (
     some true)
   else (
     s_l2Has_L1 a_x rest5 (k4 + 1))
def s_l2Has (a_l : List Int) (a_x : Int) : Option (Bool) :=
 s_l2Has_L1 a_x a_l 0
theorem s_l2Has_ok (a_l : List Int) (v0_0 : Sv) (a_x : Int) (R : Bool) (hF : s_l2Has a_l a_x = some R) :
   Fw.Spec Tryz.prog 50 [v0_0.v, (.int .i64 a_x)] [crd (RdS 3 rdInt) v0_0.v a_l] (fun _ : Unit => (.bool R)) (fun _ => []) := by
 refine Se 18 Tryz.func50 [.tmp 4] ?_
 intro H0 F0
 unfold s_l2Has at hF
 iterate 7 refine au ?_
 refine CW_block (CW_loop (m := a_l.length) (fun m2 f' cs' => ∃ (g : Fr) (k4 : Nat) (rest5 : List Int), m2 = rest5.length ∧ f' = updL g [(0, v0_0.v), (1, (.int .i64 a_x)), (5, (.int .i64 (k4 : Int)))] ∧ List.drop k4 a_l = rest5 ∧ Ent cs' [crd (RdS 3 rdInt) v0_0.v a_l] ∧ s_l2Has_L1 a_x rest5 k4 = some R) ⟨_, 0, _, rfl, eqA, rfl, entA, hF⟩ ?_)
 rintro m2 _ _ ⟨g3, k4, rest5, rfl, rfl, hd7, hE, hF⟩
 refine Kb hE a_l (fun hbd12 => ?_)
 rcases rest5 with _ | ⟨x6, rest5⟩
 · have hk8 := dn hd7
   rw [s_l2Has_L1] at hF
   iterate 7 refine au ?_
   refine CdF ?_
   iterate 8 refine au ?_
   cases hF
   exact Er ()
 obtain ⟨hk8, hx9, hd10⟩ := drop_cons hd7
 rw [s_l2Has_L1] at hF
 iterate 7 refine au ?_
 refine CdT ?_
 iterate 5 refine au ?_
 refine Ai hx9 (fun k13 j14 => ?_)
 refine Al ls3_0 ?_
 iterate 3 refine au ?_
 refine Ci hF (fun hb16 hF => ?_) (fun hb16 hF => ?_)
 · iterate 4 refine au ?_
   cases hF
   exact Er ()
 iterate 6 refine au ?_
 rw [wk k4]
 exact ⟨_, Nat.lt_succ_self _, _, k4 + 1, rest5, rfl, eqA, hd10, entA, hF⟩
def s_l3Put_L1 (a_x : Int) : List Int → Nat → (List Int) → Bool → Option ((List Int))
 | [], k12, c5, c8 => if (!c8) then (
     (app c5 ([a_x] : List Int)).bind fun z22 =>
     some z22)
   else (
     some c5)
 | x14 :: rest13, k12, c5, c8 => (if ((!c8) && (decide ((a_x : Int) < x14))) then (
       (app c5 ([a_x] : List Int)).bind fun z33 =>
       (app z33 ([x14] : List Int)).bind fun z39 =>
       some (z39, true))
     else (
       (app c5 ([x14] : List Int)).bind fun z45 =>
       some (z45, c8))).bind fun o26 =>
   match o26 with
   | (c49, c52) => s_l3Put_L1 a_x rest13 (k12 + 1) c49 c52
def s_l3Put (a_l : List Int) (a_x : Int) : Option ((List Int)) :=
 (s_l2Has a_l a_x).bind fun r1 =>
 if r1 then (
   some a_l)
 else (
   s_l3Put_L1 a_x a_l 0 ([] : List Int) false)
theorem s_l3Put_ok (a_l : List Int) (v0_0 : Sv) (a_x : Int) (R : (List Int)) (hF : s_l3Put a_l a_x = some R) :
   Fw.Spec Tryz.prog 57 [v0_0.v, (.int .i64 a_x)] [crd (RdS 3 rdInt) v0_0.v a_l] (fun p : Sv => p.v) (fun p => [crd (RdS 3 rdInt) p.v R]) := by
 refine Se 47 Tryz.func57 [.tmp 4] ?_
 intro H0 F0
 unfold s_l3Put at hF
 iterate 7 refine au ?_
 refine bnd hF fun r1 hx2 hF => Cx0 (s_l2Has_ok _ _ _ _ hx2) (fun _ => ?_)
 refine au ?_
 refine Ci hF (fun hb55 hF => ?_) (fun hb55 hF => ?_)
 · iterate 5 refine au ?_
   cases hF
   exact Er v0_0
 iterate 2 refine au ?_
 refine C_new rfl (N_buildSliceT (g := true) sl22.h ty3.h .nil (vs := []) rfl rfl rfl (by simp)) (fun k4 => ?_)
 refine Cv1 (.cons .h .nil) (own_lit (Ro := (roE rdInt)) (E := 3) (F := []) (xs := ([] : List Int)) MkL_nil rfl rfl) ?_
 iterate 9 refine au ?_
 refine CW_block (CW_loop (m := a_l.length) (fun m10 f' cs' => ∃ (g : Fr) (k12 : Nat) (rest13 : List Int) (c5 : List Int) (c8 : Bool) (v6 : Sv) (F7 : List Nat), m10 = rest13.length ∧ f' = updL g [(0, v0_0.v), (1, (.int .i64 a_x)), (5, v6.v), (6, (.bool c8)), (7, (.int .i64 (k12 : Int)))] ∧ List.drop k12 a_l = rest13 ∧ Ent cs' [crd (RdS 3 rdInt) v0_0.v a_l, cown (OwnS 3 (roE rdInt)) F7 v6.v c5] ∧ s_l3Put_L1 a_x rest13 k12 c5 c8 = some R) ⟨_, 0, _, _, _, ⟨(some ⟨k4, 0, none⟩), 0, 1⟩, (k4 :: []), rfl, eqA, rfl, entA, hF⟩ ?_)
 rintro m10 _ _ ⟨g11, k12, rest13, c5, c8, v6, F7, rfl, rfl, hd15, hE, hF⟩
 refine Kb hE a_l (fun hbd20 => ?_)
 rcases rest13 with _ | ⟨x14, rest13⟩
 · have hk16 := dn hd15
   rw [s_l3Put_L1] at hF
   iterate 7 refine au ?_
   refine CdF ?_
   iterate 9 refine au ?_
   refine Ci hF (fun hb25 hF => ?_) (fun hb25 hF => ?_)
   · iterate 3 refine au ?_
     refine C_new rfl (N_buildSliceT (g := true) sl22.h ty3.h (.cons (.tmp rfl rfl) .nil) (vs := [(.int .i64 a_x)]) rfl rfl rfl (by intro v hv; simp at hv; rcases hv with rfl <;> rfl)) (fun k21 => ?_)
     refine Cv1 (.cons .h .nil) (own_lit (Ro := (roE rdInt)) (E := 3) (F := ([] ++ [])) (xs := ([a_x] : List Int)) (MkL_cons (Mk_pure (fun _ => rfl)) MkL_nil apps) rfl rfl) ?_
     refine bnd hF fun z22 hx23 hF => C_x1 (.cons (.t (.t .h)) (.cons .h .nil)) (X_appendO (Ro := (roE rdInt)) sl22.h ni22 ty3.h rfl rfl rfl (.tmp rfl rfl) (.tmp rfl rfl) hx23 src_own) (fun p24 => ?_)
     iterate 7 refine au ?_
     cases hF
     exact End_ret p24.1 (.tmp rfl rfl .nil) rfl (.frz .h frz_own (.sel (.rd .h rfl .nil)))
   iterate 6 refine au ?_
   cases hF
   exact End_ret v6 (.tmp rfl rfl .nil) rfl (.frz (.t .h) frz_own (.sel (.rd .h rfl .nil)))
 obtain ⟨hk16, hx17, hd18⟩ := drop_cons hd15
 rw [s_l3Put_L1] at hF
 iterate 7 refine au ?_
 refine CdT ?_
 refine au ?_
 obtain ⟨o26, hio26, hO27⟩ := bind_some hF
 refine K_cut (fun f' cs' => ∃ (c49 : List Int) (c52 : Bool) (v50 : Sv) (F51 : List Nat) (g : Fr), o26 = (c49, c52) ∧ f' = updL g [(0, v0_0.v), (1, (.int .i64 a_x)), (5, v50.v), (6, (.bool c52)), (7, (.int .i64 (k12 : Int)))] ∧ Ent cs' [crd (RdS 3 rdInt) v0_0.v a_l, cown (OwnS 3 (roE rdInt)) F51 v50.v c49]) ?_ ?_
 · replace hF := hio26
   refine CW_block (K_in (K_region (C_cut (fun f' cs' => ∃ (g : Fr), f' = updL g [(0, v0_0.v), (1, (.int .i64 a_x)), (5, v6.v), (6, (.bool c8)), (7, (.int .i64 (k12 : Int))), (28, (.bool ((!c8) && (decide ((a_x : Int) < x14)))))] ∧ Ent cs' [crd (RdS 3 rdInt) v0_0.v a_l, cown (OwnS 3 (roE rdInt)) F7 v6.v c5]) ?_ ?_)))
   · iterate 3 refine au ?_
     rcases Bool.eq_false_or_eq_true (!c8) with hg28 | hg28
     · rw [hg28]
       try rw [hg28] at hF; dsimp only [cond_true, cond_false] at hF
       iterate 5 refine au ?_
       refine Ai hx17 (fun k29 j30 => ?_)
       refine au ?_
       refine Al ls3_0 ?_
       iterate 6 refine au ?_
       exact ⟨_, eqA, entA⟩
     rw [hg28]
     try rw [hg28] at hF; dsimp only [cond_true, cond_false] at hF
     iterate 8 refine au ?_
     exact ⟨_, eqA, entA⟩
   rintro _ _ ⟨g31, rfl, hE⟩
   refine K_ent hE ?_
   refine Ci hF (fun hb48 hF => ?_) (fun hb48 hF => ?_)
   · iterate 3 refine au ?_
     refine C_new rfl (N_buildSliceT (g := true) sl22.h ty3.h (.cons (.tmp rfl rfl) .nil) (vs := [(.int .i64 a_x)]) rfl rfl rfl (by intro v hv; simp at hv; rcases hv with rfl <;> rfl)) (fun k32 => ?_)
     refine Cv1 (.cons .h .nil) (own_lit (Ro := (roE rdInt)) (E := 3) (F := ([] ++ [])) (xs := ([a_x] : List Int)) (MkL_cons (Mk_pure (fun _ => rfl)) MkL_nil apps) rfl rfl) ?_
     refine bnd hF fun z33 hx34 hF => C_x1 (.cons (.t (.t .h)) (.cons .h .nil)) (X_appendO (Ro := (roE rdInt)) sl22.h ni22 ty3.h rfl rfl rfl (.tmp rfl rfl) (.tmp rfl rfl) hx34 src_own) (fun p35 => ?_)
     iterate 9 refine au ?_
     refine Ai hx17 (fun k36 j37 => ?_)
     refine Al ls3_0 ?_
     refine C_new rfl (N_buildSliceT (g := true) sl22.h ty3.h (.cons (.tmp rfl rfl) .nil) (vs := [(.int .i64 x14)]) rfl rfl rfl (by intro v hv; simp at hv; rcases hv with rfl <;> rfl)) (fun k38 => ?_)
     refine Cv1 (.cons .h .nil) (own_lit (Ro := (roE rdInt)) (E := 3) (F := ([] ++ [])) (xs := ([x14] : List Int)) (MkL_cons (Mk_pure (fun _ => rfl)) MkL_nil apps) rfl rfl) ?_
     refine bnd hF fun z39 hx40 hF => C_x1 (.cons (.t (.t .h)) (.cons .h .nil)) (X_appendO (Ro := (roE rdInt)) sl22.h ni22 ty3.h rfl rfl rfl (.tmp rfl rfl) (.tmp rfl rfl) hx40 src_own) (fun p41 => ?_)
     iterate 2 refine au ?_
     cases hF
     exact ⟨_, _, p41.1, p41.2, _, rfl, eqA, entA⟩
   iterate 5 refine au ?_
   refine Ai hx17 (fun k42 j43 => ?_)
   refine Al ls3_0 ?_
   refine C_new rfl (N_buildSliceT (g := true) sl22.h ty3.h (.cons (.tmp rfl rfl) .nil) (vs := [(.int .i64 x14)]) rfl rfl rfl (by intro v hv; simp at hv; rcases hv with rfl <;> rfl)) (fun k44 => ?_)
   refine Cv1 (.cons .h .nil) (own_lit (Ro := (roE rdInt)) (E := 3) (F := ([] ++ [])) (xs := ([x14] : List Int)) (MkL_cons (Mk_pure (fun _ => rfl)) MkL_nil apps) rfl rfl) ?_
   refine bnd hF fun z45 hx46 hF => C_x1 (.cons (.t (.t (.t .h))) (.cons .h .nil)) (X_appendO (Ro := (roE rdInt)) sl22.h ni22 ty3.h rfl rfl rfl (.tmp rfl rfl) (.tmp rfl rfl) hx46 src_own) (fun p47 => ?_)
   iterate 2 refine au ?_
   cases hF
   exact ⟨_, _, p47.1, p47.2, _, rfl, eqA, entA⟩
 rintro _ _ ⟨c49, c52, v50, F51, g54, rfl, rfl, hE⟩
 replace hF := hO27
 try dsimp only at hF
 refine K_ent hE ?_
 iterate 5 refine au ?_
 rw [wk k12]
 exact ⟨_, Nat.lt_succ_self _, _, k12 + 1, rest13, _, _, v50, F51, rfl, eqA, hd18, entA, hF⟩
def s_VarsOf_L3 (x127 : Atom) : Nat → (List Int) → Int → Option ((List Int))
 | 0, _, _ => none
 | m139 + 1, c136, c138 => if (decide ((c138 : Int) < (x127.Terms.length : Int))) then (
     ((ix x127.Terms c138).bind fun x155 =>
       (s_IsVar x155).bind fun r161 =>
       if r161 then (
         (ix x127.Terms c138).bind fun x167 =>
         (s_l3Put c136 x167).bind fun r173 =>
         some r173)
       else (
         some c136)).bind fun o150 =>
     match o150 with
     | c177 => s_VarsOf_L3 x127 m139 c177 (IntKind.i64.wrap (c138 + 1)))
   else (
     some c136)
def s_VarsOf_L1 : List Atom → Nat → (List Int) → Option ((List Int))
 | [], k125, c120 => some c120
 | x127 :: rest126, k125, c120 => (s_VarsOf_L3 x127 (((x127.Terms.length : Int) - 0).toNat + 2) c120 0).bind fun o134 =>
   match o134 with
   | c181 => s_VarsOf_L1 rest126 (k125 + 1) c181
def s_VarsOf (a_q : Query) : Option ((List Int)) :=
 s_VarsOf_L1 a_q.Atoms 0 ([] : List Int)
theorem s_VarsOf_ok (a_q : Query) (v0_0 : Sv) (v0_1 : Sv) (R : (List Int)) (hF : s_VarsOf a_q = some R) :
   Fw.Spec Tryz.prog 49 [(.agg [v0_0.v, v0_1.v].toArray)] [crd (RdS 3 rdInt) v0_0.v a_q.Head, crd (RdS 84 rd84) v0_1.v a_q.Atoms] (fun p : Sv => p.v) (fun p => [crd (RdS 3 rdInt) p.v R]) := by
 refine Se 47 Tryz.func49 [.tmp 2] ?_
 intro H0 F0
 unfold s_VarsOf at hF
 refine au ?_
 refine AbR (fun k1 => ?_)
 iterate 3 refine au ?_
 refine C_new rfl (N_buildSliceT (g := true) sl22.h ty3.h .nil (vs := []) rfl rfl rfl (by simp)) (fun k2 => ?_)
 refine Cv1 (.cons .h .nil) (own_lit (Ro := (roE rdInt)) (E := 3) (F := []) (xs := ([] : List Int)) MkL_nil rfl rfl) ?_
 iterate 6 refine au ?_
 refine CW_block (CW_loop (m := a_q.Atoms.length) (fun m123 f' cs' => ∃ (g : Fr) (k125 : Nat) (rest126 : List Atom) (c120 : List Int) (v121 : Sv), m123 = rest126.length ∧ f' = updL g [(1, (pz k1)), (3, v121.v), (4, (.int .i64 (k125 : Int)))] ∧ List.drop k125 a_q.Atoms = rest126 ∧ Ent cs' [cboR k1 39 (.agg [v0_0.v, v0_1.v].toArray), crd (RdS 3 rdInt) v0_0.v a_q.Head, crd (RdS 84 rd84) v0_1.v a_q.Atoms, crd (RdS 3 rdInt) v121.v c120] ∧ s_VarsOf_L1 rest126 k125 c120 = some R) ⟨_, 0, _, _, ⟨(some ⟨k2, 0, none⟩), 0, 1⟩, rfl, eqA, rfl, (.frz .h frz_own entA), hF⟩ ?_)
 rintro m123 _ _ ⟨g124, k125, rest126, c120, v121, rfl, rfl, hd128, hE, hF⟩
 refine Kb hE a_q.Atoms (fun hbd133 => ?_)
 rcases rest126 with _ | ⟨x127, rest126⟩
 · have hk129 := dn hd128
   rw [s_VarsOf_L1] at hF
   iterate 8 refine au ?_
   refine CdF ?_
   iterate 9 refine au ?_
   cases hF
   exact Er v121
 obtain ⟨hk129, hx130, hd131⟩ := drop_cons hd128
 rw [s_VarsOf_L1] at hF
 iterate 8 refine au ?_
 refine CdT ?_
 refine au ?_
 obtain ⟨o134, hio134, hO135⟩ := bind_some hF
 refine K_cut (fun f' cs' => ∃ (c181 : List Int) (v182 : Sv) (g : Fr), c181 = o134 ∧ f' = updL g [(1, (pz k1)), (3, v182.v), (4, (.int .i64 (k125 : Int)))] ∧ Ent cs' [cboR k1 39 (.agg [v0_0.v, v0_1.v].toArray), crd (RdS 3 rdInt) v0_0.v a_q.Head, crd (RdS 84 rd84) v0_1.v a_q.Atoms, crd (RdS 3 rdInt) v182.v c181]) ?_ ?_
 · replace hF := hio134
   refine CW_block (K_region (C_val (V_assign (v := (.int .i64 0)) (.int _ _)) ?_))
   refine au ?_
   refine CW_block (CW_loop (m := (((x127.Terms.length : Int) - 0).toNat + 2)) (fun m139 f' cs' => ∃ (g : Fr) (c136 : List Int) (c138 : Int) (v137 : Sv), f' = updL g [(1, (pz k1)), (3, v137.v), (4, (.int .i64 (k125 : Int))), (5, (.int .i64 c138))] ∧ Ent cs' [cboR k1 39 (.agg [v0_0.v, v0_1.v].toArray), crd (RdS 3 rdInt) v0_0.v a_q.Head, crd (RdS 84 rd84) v0_1.v a_q.Atoms, crd (RdS 3 rdInt) v137.v c136] ∧ s_VarsOf_L3 x127 m139 c136 c138 = some o134) ⟨_, _, _, v121, eqA, entA, hF⟩ ?_)
   rintro m139 _ _ ⟨g140, c136, c138, v137, rfl, hE, hF⟩
   refine K_ent hE ?_
   rcases m139 with _ | m139
   · rw [s_VarsOf_L3] at hF
     exact absurd hF (by simp)
   rw [s_VarsOf_L3] at hF
   iterate 6 refine au ?_
   refine Ai hx130 (fun k147 j148 => ?_)
   refine au ?_
   refine C_ldV (R' := (RdS 3 rdInt)) ag22.h (.tmp rfl rfl) .h lv84_1 (fun w149 => ?_)
   iterate 3 refine au ?_
   refine Ci hF (fun hb180 hF => ?_) (fun hb180 hF => ?_)
   · refine au ?_
     obtain ⟨o150, hio150, hO151⟩ := bind_some hF
     refine K_cut (fun f' cs' => ∃ (c177 : List Int) (v178 : Sv) (g : Fr), c177 = o150 ∧ f' = updL g [(1, (pz k1)), (3, v178.v), (4, (.int .i64 (k125 : Int))), (5, (.int .i64 c138))] ∧ Ent cs' [cboR k1 39 (.agg [v0_0.v, v0_1.v].toArray), crd (RdS 3 rdInt) v0_0.v a_q.Head, crd (RdS 84 rd84) v0_1.v a_q.Atoms, crd (RdS 3 rdInt) v178.v c177]) ?_ ?_
     · replace hF := hio150
       refine CW_block (K_region (C_val (V_fieldAddr (off := 1) fd39_1.h (.tmp rfl rfl)) ?_))
       iterate 2 refine au ?_
       refine Ai hx130 (fun k152 j153 => ?_)
       refine au ?_
       refine C_ldV (R' := (RdS 3 rdInt)) ag22.h (.tmp rfl rfl) .h lv84_1 (fun w154 => ?_)
       refine au ?_
       refine bnd hF fun x155 hx156 hF => ?_
       obtain ⟨hp157, hx158⟩ := ix_some hx156
       refine Ai hx158 (fun k159 j160 => ?_)
       refine Al ls3_0 ?_
       refine bnd hF fun r161 hx162 hF => Cx0 (s_IsVar_ok _ _ hx162) (fun _ => ?_)
       refine au ?_
       refine Ci hF (fun hb176 hF => ?_) (fun hb176 hF => ?_)
       · iterate 5 refine au ?_
         refine Ai hx130 (fun k164 j165 => ?_)
         refine au ?_
         refine C_ldV (R' := (RdS 3 rdInt)) ag22.h (.tmp rfl rfl) .h lv84_1 (fun w166 => ?_)
         refine au ?_
         refine bnd hF fun x167 hx168 hF => ?_
         obtain ⟨hp169, hx170⟩ := ix_some hx168
         refine Ai hx170 (fun k171 j172 => ?_)
         refine Al ls3_0 ?_
         refine bnd hF fun r173 hx174 hF => Cx1 (s_l3Put_ok _ _ _ _ hx174) (fun p175 => ?_)
         iterate 2 refine au ?_
         cases hF
         exact ⟨_, p175, _, rfl, eqA, entA⟩
       refine au ?_
       cases hF
       exact ⟨_, v137, _, rfl, eqA, entA⟩
     rintro _ _ ⟨c177, v178, g179, rfl, rfl, hE⟩
     replace hF := hO151
     try dsimp only at hF
     refine K_ent hE ?_
     iterate 5 refine au ?_
     exact ⟨m139, Nat.lt_succ_self _, _, _, _, v178, eqA, entA, hF⟩
   iterate 4 refine au ?_
   cases hF
   exact ⟨_, v137, _, rfl, eqA, entA⟩
 rintro _ _ ⟨c181, v182, g184, rfl, rfl, hE⟩
 replace hF := hO135
 try dsimp only at hF
 refine K_ent hE ?_
 iterate 5 refine au ?_
 rw [wk k125]
 exact ⟨_, Nat.lt_succ_self _, _, k125 + 1, rest126, _, v182, rfl, eqA, hd131, entA, hF⟩
def s_IsTerm (a_t : Int) : Option (Bool) :=
 ((s_l1In a_t 0 9).bind fun r3 =>
   bif r3 then (some true)
   else ((s_IsVar a_t).bind fun r7 =>
     some r7)).bind fun o1 =>
 match o1 with
 | c10 => some c10
theorem s_IsTerm_ok (a_t : Int) (R : Bool) (hF : s_IsTerm a_t = some R) :
   Fw.Spec Tryz.prog 111 [(.int .i64 a_t)] [] (fun _ : Unit => (.bool R)) (fun _ => []) := by
 refine Se 9 Tryz.func111 [.tmp 2] ?_
 intro H0 F0
 unfold s_IsTerm at hF
 iterate 3 refine au ?_
 obtain ⟨o1, hio1, hO2⟩ := bind_some hF
 refine au ?_
 refine C_cut (fun f' cs' => ∃ (c10 : Bool) (g : Fr), c10 = o1 ∧ f' = updL g [(2, (.bool c10))] ∧ Ent cs' []) ?_ ?_
 · replace hF := hio1
   refine au ?_
   refine bnd hF fun r3 hx4 hF => Cx0 (s_l1In_ok _ _ _ _ hx4) (fun _ => ?_)
   refine au ?_
   rcases Bool.eq_false_or_eq_true r3 with hg6 | hg6
   · rw [hg6]
     try rw [hg6] at hF; dsimp only [cond_true, cond_false] at hF
     iterate 5 refine au ?_
     cases hF
     exact ⟨_, _, rfl, eqA, entA⟩
   rw [hg6]
   try rw [hg6] at hF; dsimp only [cond_true, cond_false] at hF
   iterate 3 refine au ?_
   refine bnd hF fun r7 hx8 hF => Cx0 (s_IsVar_ok _ _ hx8) (fun _ => ?_)
   iterate 3 refine au ?_
   cases hF
   exact ⟨_, _, rfl, eqA, entA⟩
 rintro _ _ ⟨c10, g11, rfl, rfl, hE⟩
 replace hF := hO2
 try dsimp only at hF
 refine K_ent hE ?_
 refine au ?_
 cases hF
 exact Er ()
def s_IsAtom_L1 : List Int → Nat → Option (Bool)
 | [], k22 => some true
 | x24 :: rest23, k22 => (s_IsTerm x24).bind fun r33 =>
   if (!r33) then (
     some false)
   else (
     s_IsAtom_L1 rest23 (k22 + 1))
def s_IsAtom (a_s : List Int) (a_a : Atom) : Option (Bool) :=
 ((s_IsSchema a_s).bind fun r4 =>
   bif (!r4) then (some true)
   else ((s_l1In a_a.Rel 0 (IntKind.i64.wrap ((a_s.length : Int) - 1))).bind fun r8 =>
     bif (!r8) then (some true)
     else ((ix a_s a_a.Rel).bind fun x12 =>
       some (((a_a.Terms.length : Int) : Int) != x12)))).bind fun o2 =>
 match o2 with
 | c18 => if c18 then (
     some false)
   else (
     s_IsAtom_L1 a_a.Terms 0)
theorem s_IsAtom_ok (a_s : List Int) (v0_0 : Sv) (a_a : Atom) (v1_1 : Sv) (R : Bool) (hF : s_IsAtom a_s a_a = some R) :
   Fw.Spec Tryz.prog 73 [v0_0.v, (.agg [(.int .i64 a_a.Rel), v1_1.v].toArray)] [crd (RdS 3 rdInt) v0_0.v a_s, crd (RdS 3 rdInt) v1_1.v a_a.Terms] (fun _ : Unit => (.bool R)) (fun _ => []) := by
 refine Se 43 Tryz.func73 [.tmp 4] ?_
 intro H0 F0
 unfold s_IsAtom at hF
 refine au ?_
 refine AbR (fun k1 => ?_)
 iterate 3 refine au ?_
 obtain ⟨o2, hio2, hO3⟩ := bind_some hF
 refine K_draw [0, 1, 2, 3, 4, 5, 6, 7, 8, 9, 10, 11, 12, 13, 14, 15, 16, 17, 18, 19, 20, 21, 22] [0, 1, 3, 7, 15, 31, 15, 79, 207, 511, 1023, 2047, 4095, 8191, 16383, 32767, 8191, 8191, 139263, 466943, 991231, 2097151, 4194303] [1, 9] mixed (by decide +kernel) ?_
 refine D_cut (fun f' cs' => ∃ (c18 : Bool) (g : Fr), c18 = o2 ∧ f' = updL g [(3, (pz k1)), (28, (.bool c18))] ∧ Ent cs' [cboR k1 84 (.agg [(.int .i64 a_a.Rel), v1_1.v].toArray), crd (RdS 3 rdInt) v1_1.v a_a.Terms]) ?_ ?_
 · replace hF := hio2
   refine du ?_
   refine bnd hF fun r4 hx5 hF => Dx0 (s_IsSchema_ok _ _ _ hx5) (fun _ => ?_)
   iterate 2 refine du ?_
   rcases Bool.eq_false_or_eq_true (!r4) with hg7 | hg7
   · rw [hg7]
     try rw [hg7] at hF; dsimp only [cond_true, cond_false] at hF
     iterate 20 refine du ?_
     cases hF
     exact ⟨_, _, rfl, eqA, entA⟩
   rw [hg7]
   try rw [hg7] at hF; dsimp only [cond_true, cond_false] at hF
   iterate 5 refine du ?_
   refine bnd hF fun r8 hx9 hF => Dx0 (s_l1In_ok _ _ _ _ hx9) (fun _ => ?_)
   iterate 3 refine du ?_
   rcases Bool.eq_false_or_eq_true (!r8) with hg11 | hg11
   · rw [hg11]
     try rw [hg11] at hF; dsimp only [cond_true, cond_false] at hF
     iterate 11 refine du ?_
     cases hF
     exact ⟨_, _, rfl, eqA, entA⟩
   rw [hg11]
   try rw [hg11] at hF; dsimp only [cond_true, cond_false] at hF
   iterate 6 refine du ?_
   refine bnd hF fun x12 hx13 hF => ?_
   obtain ⟨hp14, hx15⟩ := ix_some hx13
   refine Di hx15 (fun k16 j17 => ?_)
   refine Dl ls3_0 ?_
   iterate 3 refine du ?_
   cases hF
   exact ⟨_, _, rfl, eqA, entA⟩
 rintro _ _ ⟨c18, g39, rfl, rfl, hE⟩
 replace hF := hO3
 try dsimp only at hF
 refine K_ent hE ?_
 refine Ci hF (fun hb38 hF => ?_) (fun hb38 hF => ?_)
 · iterate 4 refine au ?_
   cases hF
   exact Er ()
 iterate 5 refine au ?_
 refine CW_block (CW_loop (m := a_a.Terms.length) (fun m20 f' cs' => ∃ (g : Fr) (k22 : Nat) (rest23 : List Int), m20 = rest23.length ∧ f' = updL g [(3, (pz k1)), (5, (.int .i64 (k22 : Int)))] ∧ List.drop k22 a_a.Terms = rest23 ∧ Ent cs' [cboR k1 84 (.agg [(.int .i64 a_a.Rel), v1_1.v].toArray), crd (RdS 3 rdInt) v1_1.v a_a.Terms] ∧ s_IsAtom_L1 rest23 k22 = some R) ⟨_, 0, _, rfl, eqA, rfl, entA, hF⟩ ?_)
 rintro m20 _ _ ⟨g21, k22, rest23, rfl, rfl, hd25, hE, hF⟩
 refine Kb hE a_a.Terms (fun hbd30 => ?_)
 rcases rest23 with _ | ⟨x24, rest23⟩
 · have hk26 := dn hd25
   rw [s_IsAtom_L1] at hF
   iterate 8 refine au ?_
   refine CdF ?_
   iterate 8 refine au ?_
   cases hF
   exact Er ()
 obtain ⟨hk26, hx27, hd28⟩ := drop_cons hd25
 rw [s_IsAtom_L1] at hF
 iterate 8 refine au ?_
 refine CdT ?_
 iterate 6 refine au ?_
 refine Ai hx27 (fun k31 j32 => ?_)
 refine Al ls3_0 ?_
 refine bnd hF fun r33 hx34 hF => Cx0 (s_IsTerm_ok _ _ hx34) (fun _ => ?_)
 iterate 2 refine au ?_
 refine Ci hF (fun hb37 hF => ?_) (fun hb37 hF => ?_)
 · iterate 4 refine au ?_
   cases hF
   exact Er ()
 iterate 6 refine au ?_
 rw [wk k22]
 exact ⟨_, Nat.lt_succ_self _, _, k22 + 1, rest23, rfl, eqA, hd28, entA, hF⟩
def s_IsQuery_L2 (a_s : List Int) (a_q : Query) (r14 : (List Int)) : List Int → Nat → Option (Bool)
 | [], k20 => ((s_IsSchema a_s).bind fun r31 =>
     bif r31 then ((s_l1In (a_q.Atoms.length : Int) 1 4).bind fun r35 =>
       bif r35 then (some (decide (((a_q.Head.length : Int) : Int) ≤ 3)))
       else (some false))
     else (some false)).bind fun o29 =>
   match o29 with
   | c39 => some c39
 | x22 :: rest21, k20 => (s_l2Has r14 x22).bind fun r43 =>
   if (!r43) then (
     some false)
   else (
     s_IsQuery_L2 a_s a_q r14 rest21 (k20 + 1))
def s_IsQuery_L1 (a_s : List Int) (a_q : Query) : List Atom → Nat → Option (Bool)
 | [], k5 => (s_VarsOf a_q).bind fun r14 =>
   s_IsQuery_L2 a_s a_q r14 a_q.Head 0
 | x7 :: rest6, k5 => (s_IsAtom a_s x7).bind fun r51 =>
   if (!r51) then (
     some false)
   else (
     s_IsQuery_L1 a_s a_q rest6 (k5 + 1))
def s_IsQuery (a_s : List Int) (a_q : Query) : Option (Bool) :=
 s_IsQuery_L1 a_s a_q a_q.Atoms 0
theorem s_IsQuery_ok (a_s : List Int) (v0_0 : Sv) (a_q : Query) (v1_0 : Sv) (v1_1 : Sv) (R : Bool) (hF : s_IsQuery a_s a_q = some R) :
   Fw.Spec Tryz.prog 46 [v0_0.v, (.agg [v1_0.v, v1_1.v].toArray)] [crd (RdS 3 rdInt) v0_0.v a_s, crd (RdS 3 rdInt) v1_0.v a_q.Head, crd (RdS 84 rd84) v1_1.v a_q.Atoms] (fun _ : Unit => (.bool R)) (fun _ => []) := by
 refine Se 54 Tryz.func46 [.tmp 4] ?_
 intro H0 F0
 unfold s_IsQuery at hF
 refine au ?_
 refine AbR (fun k1 => ?_)
 iterate 6 refine au ?_
 refine CW_block (CW_loop (m := a_q.Atoms.length) (fun m3 f' cs' => ∃ (g : Fr) (k5 : Nat) (rest6 : List Atom), m3 = rest6.length ∧ f' = updL g [(0, v0_0.v), (3, (pz k1)), (5, (.int .i64 (k5 : Int)))] ∧ List.drop k5 a_q.Atoms = rest6 ∧ Ent cs' [crd (RdS 3 rdInt) v0_0.v a_s, cboR k1 39 (.agg [v1_0.v, v1_1.v].toArray), crd (RdS 3 rdInt) v1_0.v a_q.Head, crd (RdS 84 rd84) v1_1.v a_q.Atoms] ∧ s_IsQuery_L1 a_s a_q rest6 k5 = some R) ⟨_, 0, _, rfl, eqA, rfl, entA, hF⟩ ?_)
 rintro m3 _ _ ⟨g4, k5, rest6, rfl, rfl, hd8, hE, hF⟩
 refine Kb hE a_q.Atoms (fun hbd13 => ?_)
 rcases rest6 with _ | ⟨x7, rest6⟩
 · have hk9 := dn hd8
   rw [s_IsQuery_L1] at hF
   iterate 8 refine au ?_
   refine CdF ?_
   iterate 6 refine au ?_
   refine bnd hF fun r14 hx15 hF => Cx1 (s_VarsOf_ok _ _ _ _ hx15) (fun p16 => ?_)
   iterate 6 refine au ?_
   refine CW_block (CW_loop (m := a_q.Head.length) (fun m18 f' cs' => ∃ (g : Fr) (k20 : Nat) (rest21 : List Int), m18 = rest21.length ∧ f' = updL g [(0, v0_0.v), (3, (pz k1)), (6, p16.v), (7, (.int .i64 (k20 : Int)))] ∧ List.drop k20 a_q.Head = rest21 ∧ Ent cs' [crd (RdS 3 rdInt) v0_0.v a_s, cboR k1 39 (.agg [v1_0.v, v1_1.v].toArray), crd (RdS 3 rdInt) v1_0.v a_q.Head, crd (RdS 84 rd84) v1_1.v a_q.Atoms, crd (RdS 3 rdInt) p16.v r14] ∧ s_IsQuery_L2 a_s a_q r14 rest21 k20 = some R) ⟨_, 0, _, rfl, eqA, rfl, entA, hF⟩ ?_)
   rintro m18 _ _ ⟨g19, k20, rest21, rfl, rfl, hd23, hE, hF⟩
   refine Kb hE a_q.Head (fun hbd28 => ?_)
   rcases rest21 with _ | ⟨x22, rest21⟩
   · have hk24 := dn hd23
     rw [s_IsQuery_L2] at hF
     iterate 8 refine au ?_
     refine CdF ?_
     iterate 4 refine au ?_
     obtain ⟨o29, hio29, hO30⟩ := bind_some hF
     refine au ?_
     refine C_cut (fun f' cs' => ∃ (c39 : Bool) (g : Fr), c39 = o29 ∧ f' = updL g [(4, (.bool c39))] ∧ Ent cs' []) ?_ ?_
     · replace hF := hio29
       refine au ?_
       refine bnd hF fun r31 hx32 hF => Cx0 (s_IsSchema_ok _ _ _ hx32) (fun _ => ?_)
       refine au ?_
       rcases Bool.eq_false_or_eq_true r31 with hg34 | hg34
       · rw [hg34]
         try rw [hg34] at hF; dsimp only [cond_true, cond_false] at hF
         iterate 7 refine au ?_
         refine bnd hF fun r35 hx36 hF => Cx0 (s_l1In_ok _ _ _ _ hx36) (fun _ => ?_)
         iterate 2 refine au ?_
         rcases Bool.eq_false_or_eq_true r35 with hg38 | hg38
         · rw [hg38]
           try rw [hg38] at hF; dsimp only [cond_true, cond_false] at hF
           iterate 11 refine au ?_
           cases hF
           exact ⟨_, _, rfl, eqA, entA⟩
         rw [hg38]
         try rw [hg38] at hF; dsimp only [cond_true, cond_false] at hF
         iterate 7 refine au ?_
         cases hF
         exact ⟨_, _, rfl, eqA, entA⟩
       rw [hg34]
       try rw [hg34] at hF; dsimp only [cond_true, cond_false] at hF
       iterate 13 refine au ?_
       cases hF
       exact ⟨_, _, rfl, eqA, entA⟩
     rintro _ _ ⟨c39, g40, rfl, rfl, hE⟩
     replace hF := hO30
     try dsimp only at hF
     refine K_ent hE ?_
     refine au ?_
     cases hF
     exact Er ()
   obtain ⟨hk24, hx25, hd26⟩ := drop_cons hd23
   rw [s_IsQuery_L2] at hF
   iterate 8 refine au ?_
   refine CdT ?_
   iterate 7 refine au ?_
   refine Ai hx25 (fun k41 j42 => ?_)
   refine Al ls3_0 ?_
   refine bnd hF fun r43 hx44 hF => Cx0 (s_l2Has_ok _ _ _ _ hx44) (fun _ => ?_)
   iterate 2 refine au ?_
   refine Ci hF (fun hb47 hF => ?_) (fun hb47 hF => ?_)
   · iterate 4 refine au ?_
     cases hF
     exact Er ()
   iterate 6 refine au ?_
   rw [wk k20]
   exact ⟨_, Nat.lt_succ_self _, _, k20 + 1, rest21, rfl, eqA, hd26, entA, hF⟩
 obtain ⟨hk9, hx10, hd11⟩ := drop_cons hd8
 rw [s_IsQuery_L1] at hF
 iterate 8 refine au ?_
 refine CdT ?_
 iterate 7 refine au ?_
 refine Ai hx10 (fun k48 j49 => ?_)
 refine AlA1 (ul84_0_84 x7) la84_0_84 (fun p50 => ?_)
 refine bnd hF fun r51 hx52 hF => Cx0 (s_IsAtom_ok _ _ _ _ _ hx52) (fun _ => ?_)
 iterate 2 refine au ?_
 refine Ci hF (fun hb55 hF => ?_) (fun hb55 hF => ?_)
 · iterate 4 refine au ?_
   cases hF
   exact Er ()
 iterate 6 refine au ?_
 rw [wk k5]
 exact ⟨_, Nat.lt_succ_self _, _, k5 + 1, rest6, rfl, eqA, hd11, entA, hF⟩
def s_l6Fine (a_s : List Int) (a_l : List Method) (a_q : Query) : Option (Bool) :=
 ((s_AreMethods a_s a_l).bind fun r4 =>
   bif r4 then ((s_IsQuery a_s a_q).bind fun r8 =>
     some r8)
   else (some false)).bind fun o2 =>
 match o2 with
 | c11 => some c11
theorem s_l6Fine_ok (a_s : List Int) (v0_0 : Sv) (a_l : List Method) (v1_0 : Sv) (a_q : Query) (v2_0 : Sv) (v2_1 : Sv) (R : Bool) (hF : s_l6Fine a_s a_l a_q = some R) :
   Fw.Spec Tryz.prog 23 [v0_0.v, v1_0.v, (.agg [v2_0.v, v2_1.v].toArray)] [crd (RdS 3 rdInt) v0_0.v a_s, crd (RdS 65 rd65) v1_0.v a_l, crd (RdS 3 rdInt) v2_0.v a_q.Head, crd (RdS 84 rd84) v2_1.v a_q.Atoms] (fun _ : Unit => (.bool R)) (fun _ => []) := by
 refine Se 15 Tryz.func23 [.tmp 6] ?_
 intro H0 F0
 unfold s_l6Fine at hF
 refine au ?_
 refine AbR (fun k1 => ?_)
 iterate 2 refine au ?_
 obtain ⟨o2, hio2, hO3⟩ := bind_some hF
 refine au ?_
 refine C_cut (fun f' cs' => ∃ (c11 : Bool) (g : Fr), c11 = o2 ∧ f' = updL g [(6, (.bool c11))] ∧ Ent cs' []) ?_ ?_
 · replace hF := hio2
   iterate 2 refine au ?_
   refine bnd hF fun r4 hx5 hF => Cx0 (s_AreMethods_ok _ _ _ _ _ hx5) (fun _ => ?_)
   refine au ?_
   rcases Bool.eq_false_or_eq_true r4 with hg7 | hg7
   · rw [hg7]
     try rw [hg7] at hF; dsimp only [cond_true, cond_false] at hF
     iterate 5 refine au ?_
     refine bnd hF fun r8 hx9 hF => Cx0 (s_IsQuery_ok _ _ _ _ _ _ hx9) (fun _ => ?_)
     iterate 3 refine au ?_
     cases hF
     exact ⟨_, _, rfl, eqA, entA⟩
   rw [hg7]
   try rw [hg7] at hF; dsimp only [cond_true, cond_false] at hF
   iterate 6 refine au ?_
   cases hF
   exact ⟨_, _, rfl, eqA, entA⟩
 rintro _ _ ⟨c11, g12, rfl, rfl, hE⟩
 replace hF := hO3
 try dsimp only at hF
 refine K_ent hE ?_
 refine au ?_
 cases hF
 exact Er ()
def s_l10Exact_L1 : List Method → Nat → (List Method) → Option ((List Method))
 | [], k8, c2 => some c2
 | x10 :: rest9, k8, c2 => (if ((x10.Limit : Int) != 0) then (
       (app c2 ([({ Rel := (-1), Inputs := x10.Inputs, Limit := x10.Limit, Cost := x10.Cost, Quota := x10.Quota } : Method)] : List Method)).bind fun z24 =>
       some z24)
     else (
       (app c2 ([x10] : List Method)).bind fun z28 =>
       some z28)).bind fun o17 =>
   match o17 with
   | c32 => s_l10Exact_L1 rest9 (k8 + 1) c32
def s_l10Exact (a_l : List Method) : Option ((List Method)) :=
 s_l10Exact_L1 a_l 0 ([] : List Method)
theorem s_l10Exact_ok (a_l : List Method) (v0_0 : Sv) (R : (List Method)) (hF : s_l10Exact a_l = some R) :
   Fw.Spec Tryz.prog 75 [v0_0.v] [crd (RdS 65 rd65) v0_0.v a_l] (fun p : Sv × List Nat => p.1.v) (fun p => [cown (OwnS 65 (roE rd65)) p.2 p.1.v R]) := by
 refine Se 26 Tryz.func75 [.tmp 2] ?_
 intro H0 F0
 unfold s_l10Exact at hF
 iterate 4 refine au ?_
 refine C_new rfl (N_buildSliceT (g := true) sl35.h ty65.h .nil (vs := []) rfl rfl rfl (by simp)) (fun k1 => ?_)
 refine Cv1 (.cons .h .nil) (own_lit (Ro := (roE rd65)) (E := 65) (F := []) (xs := ([] : List Method)) MkL_nil rfl rfl) ?_
 iterate 6 refine au ?_
 refine CW_block (CW_loop (m := a_l.length) (fun m6 f' cs' => ∃ (g : Fr) (k8 : Nat) (rest9 : List Method) (c2 : List Method) (v3 : Sv) (F4 : List Nat), m6 = rest9.length ∧ f' = updL g [(0, v0_0.v), (3, v3.v), (4, (.int .i64 (k8 : Int)))] ∧ List.drop k8 a_l = rest9 ∧ Ent cs' [crd (RdS 65 rd65) v0_0.v a_l, cown (OwnS 65 (roE rd65)) F4 v3.v c2] ∧ s_l10Exact_L1 rest9 k8 c2 = some R) ⟨_, 0, _, _, ⟨(some ⟨k1, 0, none⟩), 0, 1⟩, (k1 :: []), rfl, eqA, rfl, entA, hF⟩ ?_)
 rintro m6 _ _ ⟨g7, k8, rest9, c2, v3, F4, rfl, rfl, hd11, hE, hF⟩
 refine Kb hE a_l (fun hbd16 => ?_)
 rcases rest9 with _ | ⟨x10, rest9⟩
 · have hk12 := dn hd11
   rw [s_l10Exact_L1] at hF
   iterate 7 refine au ?_
   refine CdF ?_
   iterate 9 refine au ?_
   cases hF
   exact Er (v3, F4)
 obtain ⟨hk12, hx13, hd14⟩ := drop_cons hd11
 rw [s_l10Exact_L1] at hF
 iterate 7 refine au ?_
 refine CdT ?_
 refine au ?_
 obtain ⟨o17, hio17, hO18⟩ := bind_some hF
 refine K_cut (fun f' cs' => ∃ (c32 : List Method) (v33 : Sv) (F34 : List Nat) (g : Fr), c32 = o17 ∧ f' = updL g [(0, v0_0.v), (3, v33.v), (4, (.int .i64 (k8 : Int)))] ∧ Ent cs' [crd (RdS 65 rd65) v0_0.v a_l, cown (OwnS 65 (roE rd65)) F34 v33.v c32]) ?_ ?_
 · replace hF := hio17
   refine CW_block (K_region (Cm v0_0.v rfl rfl ?_))
   refine au ?_
   refine Ai hx13 (fun k19 j20 => ?_)
   refine AlA1 (ul65_0_65 x10) la65_0_65 (fun p21 => ?_)
   refine AnW (fun k22 => ?_)
   refine As (.agg [(.int .i64 x10.Rel), p21.v, (.int .i64 x10.Limit), (.int .i64 x10.Cost), (.int .i64 x10.Quota)].toArray) ?_
   iterate 7 refine au ?_
   refine Ci hF (fun hb31 hF => ?_) (fun hb31 hF => ?_)
   · iterate 2 refine au ?_
     refine As (.agg [(.int .i64 (-1)), p21.v, (.int .i64 x10.Limit), (.int .i64 x10.Cost), (.int .i64 x10.Quota)].toArray) ?_
     iterate 4 refine au ?_
     refine C_new rfl (N_buildSliceT (g := true) sl35.h ty65.h (.cons (.tmp rfl rfl) .nil) (vs := [(.agg [(.int .i64 (-1)), p21.v, (.int .i64 x10.Limit), (.int .i64 x10.Cost), (.int .i64 x10.Quota)].toArray)]) rfl rfl rfl (by intro v hv; simp at hv; rcases hv with rfl <;> rfl)) (fun k23 => ?_)
     refine Cv1 (.cons .h (.rd (.t .h) rfl .nil)) (own_lit (Ro := (roE rd65)) (E := 65) (F := ([] ++ [])) (xs := ([({ Rel := (-1), Inputs := x10.Inputs, Limit := x10.Limit, Cost := x10.Cost, Quota := x10.Quota } : Method)] : List Method)) (MkL_cons (mr65 (a := ({ Rel := (-1), Inputs := x10.Inputs, Limit := x10.Limit, Cost := x10.Cost, Quota := x10.Quota } : Method))) MkL_nil apps) rfl rfl) ?_
     refine bnd hF fun z24 hx25 hF => C_x1 (.cons (.t (.t (.t (.t (.t .h))))) (.cons .h .nil)) (X_appendO (Ro := (roE rd65)) sl35.h ni35 ty65.h rfl rfl rfl (.tmp rfl rfl) (.tmp rfl rfl) hx25 src_own) (fun p26 => ?_)
     iterate 2 refine au ?_
     cases hF
     exact ⟨_, p26.1, p26.2, _, rfl, eqA, entA⟩
   iterate 4 refine au ?_
   refine C_new rfl (N_buildSliceT (g := true) sl35.h ty65.h (.cons (.tmp rfl rfl) .nil) (vs := [(.agg [(.int .i64 x10.Rel), p21.v, (.int .i64 x10.Limit), (.int .i64 x10.Cost), (.int .i64 x10.Quota)].toArray)]) rfl rfl rfl (by intro v hv; simp at hv; rcases hv with rfl <;> rfl)) (fun k27 => ?_)
   refine Cv1 (.cons .h (.rd (.t .h) rfl .nil)) (own_lit (Ro := (roE rd65)) (E := 65) (F := ([] ++ [])) (xs := ([x10] : List Method)) (MkL_cons mr65 MkL_nil apps) rfl rfl) ?_
   refine bnd hF fun z28 hx29 hF => C_x1 (.cons (.t (.t (.t (.t (.t .h))))) (.cons .h .nil)) (X_appendO (Ro := (roE rd65)) sl35.h ni35 ty65.h rfl rfl rfl (.tmp rfl rfl) (.tmp rfl rfl) hx29 src_own) (fun p30 => ?_)
   iterate 2 refine au ?_
   cases hF
   exact ⟨_, p30.1, p30.2, _, rfl, eqA, entA⟩
 rintro _ _ ⟨c32, v33, F34, g36, rfl, rfl, hE⟩
 replace hF := hO18
 try dsimp only at hF
 refine K_ent hE ?_
 iterate 5 refine au ?_
 rw [wk k8]
 exact ⟨_, Nat.lt_succ_self _, _, k8 + 1, rest9, _, v33, F34, rfl, eqA, hd14, entA, hF⟩
def s_CanCall_L1 (a_a : Atom) (a_bound : List Int) : List Int → Nat → Option (Bool)
 | [], k6 => some true
 | x8 :: rest7, k6 => (s_l1In x8 0 (IntKind.i64.wrap ((a_a.Terms.length : Int) - 1))).bind fun r17 =>
   if (!r17) then (
     some false)
   else (
     (ix a_a.Terms x8).bind fun x22 =>
     ((s_IsVar x22).bind fun r30 =>
       bif r30 then ((s_l2Has a_bound x22).bind fun r34 =>
         some (!r34))
       else (some false)).bind fun o28 =>
     match o28 with
     | c37 => if c37 then (
         some false)
       else (
         s_CanCall_L1 a_a a_bound rest7 (k6 + 1)))
def s_CanCall (a_m : Method) (a_a : Atom) (a_bound : List Int) : Option (Bool) :=
 if ((a_m.Rel : Int) != a_a.Rel) then (
   some false)
 else (
   s_CanCall_L1 a_a a_bound a_m.Inputs 0)
theorem s_CanCall_ok (a_m : Method) (v0_1 : Sv) (a_a : Atom) (v1_1 : Sv) (a_bound : List Int) (v2_0 : Sv) (R : Bool) (hF : s_CanCall a_m a_a a_bound = some R) :
   Fw.Spec Tryz.prog 152 [(.agg [(.int .i64 a_m.Rel), v0_1.v, (.int .i64 a_m.Limit), (.int .i64 a_m.Cost), (.int .i64 a_m.Quota)].toArray), (.agg [(.int .i64 a_a.Rel), v1_1.v].toArray), v2_0.v] [crd (RdS 3 rdInt) v0_1.v a_m.Inputs, crd (RdS 3 rdInt) v1_1.v a_a.Terms, crd (RdS 3 rdInt) v2_0.v a_bound] (fun _ : Unit => (.bool R)) (fun _ => []) := by
 refine Se 49 Tryz.func152 [.tmp 6] ?_
 intro H0 F0
 unfold s_CanCall at hF
 refine au ?_
 refine AbR (fun k1 => ?_)
 refine AbR (fun k2 => ?_)
 iterate 10 refine au ?_
 refine Ci hF (fun hb42 hF => ?_) (fun hb42 hF => ?_)
 · iterate 4 refine au ?_
   cases hF
   exact Er ()
 iterate 5 refine au ?_
 refine CW_block (CW_loop (m := a_m.Inputs.length) (fun m4 f' cs' => ∃ (g : Fr) (k6 : Nat) (rest7 : List Int), m4 = rest7.length ∧ f' = updL g [(2, v2_0.v), (3, (pz k1)), (4, (pz k2)), (7, (.int .i64 (k6 : Int)))] ∧ List.drop k6 a_m.Inputs = rest7 ∧ Ent cs' [crd (RdS 3 rdInt) v2_0.v a_bound, cboR k1 65 (.agg [(.int .i64 a_m.Rel), v0_1.v, (.int .i64 a_m.Limit), (.int .i64 a_m.Cost), (.int .i64 a_m.Quota)].toArray), crd (RdS 3 rdInt) v0_1.v a_m.Inputs, cboR k2 84 (.agg [(.int .i64 a_a.Rel), v1_1.v].toArray), crd (RdS 3 rdInt) v1_1.v a_a.Terms] ∧ s_CanCall_L1 a_a a_bound rest7 k6 = some R) ⟨_, 0, _, rfl, eqA, rfl, entA, hF⟩ ?_)
 rintro m4 _ _ ⟨g5, k6, rest7, rfl, rfl, hd9, hE, hF⟩
 refine Kb hE a_m.Inputs (fun hbd14 => ?_)
 rcases rest7 with _ | ⟨x8, rest7⟩
 · have hk10 := dn hd9
   rw [s_CanCall_L1] at hF
   iterate 8 refine au ?_
   refine CdF ?_
   iterate 8 refine au ?_
   cases hF
   exact Er ()
 obtain ⟨hk10, hx11, hd12⟩ := drop_cons hd9
 rw [s_CanCall_L1] at hF
 iterate 8 refine au ?_
 refine CdT ?_
 iterate 3 refine au ?_
 refine K_draw [0, 1, 2, 3, 4, 5, 6, 7, 8, 9, 10] [0, 1, 0, 7, 15, 0, 32, 96, 224, 511, 1023] [9] mixed (by decide +kernel) ?_
 iterate 3 refine du ?_
 refine Di hx11 (fun k15 j16 => ?_)
 refine Dl ls3_0 ?_
 iterate 4 refine du ?_
 refine bnd hF fun r17 hx18 hF => Dx0 (s_l1In_ok _ _ _ _ hx18) (fun _ => ?_)
 iterate 2 refine du ?_
 refine Ci hF (fun hb41 hF => ?_) (fun hb41 hF => ?_)
 · iterate 4 refine au ?_
   cases hF
   exact Er ()
 refine au ?_
 refine K_draw [0, 1, 2, 3, 4, 5, 6, 7, 8, 9] [0, 1, 0, 4, 0, 28, 60, 127, 255, 511] [] mixed (by decide +kernel) ?_
 iterate 5 refine du ?_
 refine Di hx11 (fun k20 j21 => ?_)
 refine Dl ls3_0 ?_
 refine bnd hF fun x22 hx23 hF => ?_
 obtain ⟨hp24, hx25⟩ := ix_some hx23
 refine Di hx25 (fun k26 j27 => ?_)
 refine Dl ls3_0 ?_
 iterate 2 refine du ?_
 obtain ⟨o28, hio28, hO29⟩ := bind_some hF
 refine au ?_
 refine C_cut (fun f' cs' => ∃ (c37 : Bool) (g : Fr), c37 = o28 ∧ f' = updL g [(2, v2_0.v), (3, (pz k1)), (4, (pz k2)), (7, (.int .i64 (k6 : Int))), (48, (.bool c37))] ∧ Ent cs' [crd (RdS 3 rdInt) v2_0.v a_bound, cboR k1 65 (.agg [(.int .i64 a_m.Rel), v0_1.v, (.int .i64 a_m.Limit), (.int .i64 a_m.Cost), (.int .i64 a_m.Quota)].toArray), crd (RdS 3 rdInt) v0_1.v a_m.Inputs, cboR k2 84 (.agg [(.int .i64 a_a.Rel), v1_1.v].toArray), crd (RdS 3 rdInt) v1_1.v a_a.Terms]) ?_ ?_
 · replace hF := hio28
   refine au ?_
   refine bnd hF fun r30 hx31 hF => Cx0 (s_IsVar_ok _ _ hx31) (fun _ => ?_)
   refine au ?_
   rcases Bool.eq_false_or_eq_true r30 with hg33 | hg33
   · rw [hg33]
     try rw [hg33] at hF; dsimp only [cond_true, cond_false] at hF
     iterate 5 refine au ?_
     refine bnd hF fun r34 hx35 hF => Cx0 (s_l2Has_ok _ _ _ _ hx35) (fun _ => ?_)
     iterate 4 refine au ?_
     cases hF
     exact ⟨_, _, rfl, eqA, entA⟩
   rw [hg33]
   try rw [hg33] at hF; dsimp only [cond_true, cond_false] at hF
   iterate 6 refine au ?_
   cases hF
   exact ⟨_, _, rfl, eqA, entA⟩
 rintro _ _ ⟨c37, g40, rfl, rfl, hE⟩
 replace hF := hO29
 try dsimp only at hF
 refine K_ent hE ?_
 refine Ci hF (fun hb39 hF => ?_) (fun hb39 hF => ?_)
 · iterate 4 refine au ?_
   cases hF
   exact Er ()
 iterate 6 refine au ?_
 rw [wk k6]
 exact ⟨_, Nat.lt_succ_self _, _, k6 + 1, rest7, rfl, eqA, hd12, entA, hF⟩
def s_l6First_L1 (a_a : Atom) (a_bound : List Int) : List Method → Nat → Option (Int)
 | [], k5 => some (-1)
 | x7 :: rest6, k5 => (s_CanCall x7 a_a a_bound).bind fun r17 =>
   if r17 then (
     some (k5 : Int))
   else (
     s_l6First_L1 a_a a_bound rest6 (k5 + 1))
def s_l6First (a_l : List Method) (a_a : Atom) (a_bound : List Int) : Option (Int) :=
 s_l6First_L1 a_a a_bound a_l 0
theorem s_l6First_ok (a_l : List Method) (v0_0 : Sv) (a_a : Atom) (v1_1 : Sv) (a_bound : List Int) (v2_0 : Sv) (R : Int) (hF : s_l6First a_l a_a a_bound = some R) :
   Fw.Spec Tryz.prog 112 [v0_0.v, (.agg [(.int .i64 a_a.Rel), v1_1.v].toArray), v2_0.v] [crd (RdS 65 rd65) v0_0.v a_l, crd (RdS 3 rdInt) v1_1.v a_a.Terms, crd (RdS 3 rdInt) v2_0.v a_bound] (fun _ : Unit => (.int .i64 R)) (fun _ => []) := by
 refine Se 22 Tryz.func112 [.tmp 6] ?_
 intro H0 F0
 unfold s_l6First at hF
 refine au ?_
 refine AbR (fun k1 => ?_)
 iterate 6 refine au ?_
 refine CW_block (CW_loop (m := a_l.length) (fun m3 f' cs' => ∃ (g : Fr) (k5 : Nat) (rest6 : List Method), m3 = rest6.length ∧ f' = updL g [(0, v0_0.v), (2, v2_0.v), (4, (pz k1)), (7, (.int .i64 (k5 : Int)))] ∧ List.drop k5 a_l = rest6 ∧ Ent cs' [crd (RdS 65 rd65) v0_0.v a_l, crd (RdS 3 rdInt) v2_0.v a_bound, cboR k1 84 (.agg [(.int .i64 a_a.Rel), v1_1.v].toArray), crd (RdS 3 rdInt) v1_1.v a_a.Terms] ∧ s_l6First_L1 a_a a_bound rest6 k5 = some R) ⟨_, 0, _, rfl, eqA, rfl, entA, hF⟩ ?_)
 rintro m3 _ _ ⟨g4, k5, rest6, rfl, rfl, hd8, hE, hF⟩
 refine Kb hE a_l (fun hbd13 => ?_)
 rcases rest6 with _ | ⟨x7, rest6⟩
 · have hk9 := dn hd8
   rw [s_l6First_L1] at hF
   iterate 7 refine au ?_
   refine CdF ?_
   iterate 8 refine au ?_
   cases hF
   exact Er ()
 obtain ⟨hk9, hx10, hd11⟩ := drop_cons hd8
 rw [s_l6First_L1] at hF
 iterate 7 refine au ?_
 refine CdT ?_
 iterate 2 refine au ?_
 refine K_draw [0, 1, 2, 3, 4, 5, 6] [0, 0, 3, 7, 0, 0, 63] [6] mixed (by decide +kernel) ?_
 iterate 2 refine du ?_
 refine Di hx10 (fun k14 j15 => ?_)
 refine DlA1 (ul65_0_65 x7) la65_0_65 (fun p16 => ?_)
 iterate 2 refine du ?_
 refine bnd hF fun r17 hx18 hF => Dx0 (s_CanCall_ok _ _ _ _ _ _ _ hx18) (fun _ => ?_)
 refine du ?_
 refine Ci hF (fun hb21 hF => ?_) (fun hb21 hF => ?_)
 · iterate 5 refine au ?_
   cases hF
   exact Er ()
 iterate 6 refine au ?_
 rw [wk k5]
 exact ⟨_, Nat.lt_succ_self _, _, k5 + 1, rest6, rfl, eqA, hd11, entA, hF⟩
def s_l6Bind_L1 : List Int → Nat → (List Int) → Option ((List Int))
 | [], k43, c38 => some c38
 | x45 :: rest44, k43, c38 => ((s_IsVar x45).bind fun r56 =>
     if r56 then (
       (s_l3Put c38 x45).bind fun r61 =>
       some r61)
     else (
       some c38)).bind fun o52 =>
   match o52 with
   | c65 => s_l6Bind_L1 rest44 (k43 + 1) c65
def s_l6Bind (a_bound : List Int) (a_a : Atom) : Option ((List Int)) :=
 (app ([] : List Int) a_bound).bind fun z3 =>
 s_l6Bind_L1 a_a.Terms 0 z3
theorem s_l6Bind_ok (a_bound : List Int) (v0_0 : Sv) (a_a : Atom) (v1_1 : Sv) (R : (List Int)) (hF : s_l6Bind a_bound a_a = some R) :
   Fw.Spec Tryz.prog 113 [v0_0.v, (.agg [(.int .i64 a_a.Rel), v1_1.v].toArray)] [crd (RdS 3 rdInt) v0_0.v a_bound, crd (RdS 3 rdInt) v1_1.v a_a.Terms] (fun p : Sv => p.v) (fun p => [crd (RdS 3 rdInt) p.v R]) := by
 refine Se 31 Tryz.func113 [.tmp 4] ?_
 intro H0 F0
 unfold s_l6Bind at hF
 refine au ?_
 refine AbR (fun k1 => ?_)
 iterate 3 refine au ?_
 refine C_new rfl (N_buildSliceT (g := true) sl22.h ty3.h .nil (vs := []) rfl rfl rfl (by simp)) (fun k2 => ?_)
 refine Cv1 (.cons .h .nil) (own_lit (Ro := (roE rdInt)) (E := 3) (F := []) (xs := ([] : List Int)) MkL_nil rfl rfl) ?_
 refine au ?_
 refine bnd hF fun z3 hx4 hF => C_x1 (.cons .h (.rd (.t .h) rfl .nil)) (X_appendO (Ro := (roE rdInt)) sl22.h ni22 ty3.h rfl rfl rfl (.tmp rfl rfl) (.tmp rfl rfl) hx4 src_rd) (fun p5 => ?_)
 iterate 6 refine au ?_
 refine CW_block (CW_loop (m := a_a.Terms.length) (fun m41 f' cs' => ∃ (g : Fr) (k43 : Nat) (rest44 : List Int) (c38 : List Int) (v39 : Sv), m41 = rest44.length ∧ f' = updL g [(3, (pz k1)), (5, v39.v), (6, (.int .i64 (k43 : Int)))] ∧ List.drop k43 a_a.Terms = rest44 ∧ Ent cs' [cboR k1 84 (.agg [(.int .i64 a_a.Rel), v1_1.v].toArray), crd (RdS 3 rdInt) v1_1.v a_a.Terms, crd (RdS 3 rdInt) v39.v c38] ∧ s_l6Bind_L1 rest44 k43 c38 = some R) ⟨_, 0, _, _, p5.1, rfl, eqA, rfl, (.frz .h frz_own entA), hF⟩ ?_)
 rintro m41 _ _ ⟨g42, k43, rest44, c38, v39, rfl, rfl, hd46, hE, hF⟩
 refine Kb hE a_a.Terms (fun hbd51 => ?_)
 rcases rest44 with _ | ⟨x45, rest44⟩
 · have hk47 := dn hd46
   rw [s_l6Bind_L1] at hF
   iterate 8 refine au ?_
   refine CdF ?_
   iterate 9 refine au ?_
   cases hF
   exact Er v39
 obtain ⟨hk47, hx48, hd49⟩ := drop_cons hd46
 rw [s_l6Bind_L1] at hF
 iterate 8 refine au ?_
 refine CdT ?_
 refine au ?_
 obtain ⟨o52, hio52, hO53⟩ := bind_some hF
 refine K_cut (fun f' cs' => ∃ (c65 : List Int) (v66 : Sv) (g : Fr), c65 = o52 ∧ f' = updL g [(3, (pz k1)), (5, v66.v), (6, (.int .i64 (k43 : Int)))] ∧ Ent cs' [cboR k1 84 (.agg [(.int .i64 a_a.Rel), v1_1.v].toArray), crd (RdS 3 rdInt) v1_1.v a_a.Terms, crd (RdS 3 rdInt) v66.v c65]) ?_ ?_
 · replace hF := hio52
   refine CW_block (K_region (C_val (V_fieldAddr (off := 1) fd84_1.h (.tmp rfl rfl)) ?_))
   iterate 2 refine au ?_
   refine Ai hx48 (fun k54 j55 => ?_)
   refine Al ls3_0 ?_
   refine bnd hF fun r56 hx57 hF => Cx0 (s_IsVar_ok _ _ hx57) (fun _ => ?_)
   refine au ?_
   refine Ci hF (fun hb64 hF => ?_) (fun hb64 hF => ?_)
   · iterate 5 refine au ?_
     refine Ai hx48 (fun k59 j60 => ?_)
     refine Al ls3_0 ?_
     refine bnd hF fun r61 hx62 hF => Cx1 (s_l3Put_ok _ _ _ _ hx62) (fun p63 => ?_)
     iterate 2 refine au ?_
     cases hF
     exact ⟨_, p63, _, rfl, eqA, entA⟩
   refine au ?_
   cases hF
   exact ⟨_, v39, _, rfl, eqA, entA⟩
 rintro _ _ ⟨c65, v66, g68, rfl, rfl, hE⟩
 replace hF := hO53
 try dsimp only at hF
 refine K_ent hE ?_
 iterate 5 refine au ?_
 rw [wk k43]
 exact ⟨_, Nat.lt_succ_self _, _, k43 + 1, rest44, _, v66, rfl, eqA, hd49, entA, hF⟩
def s_l6Greedy_L3 (a_l : List Method) : List Atom → Nat → (List Step) → (List Int) → (List Int) → Option ((List Step) × (List Int) × (List Int))
 | [], k123, c112, c115, c117 => some (c112, c115, c117)
 | x125 :: rest124, k123, c112, c115, c117 => (s_l6First a_l x125 c115).bind fun r135 =>
   (bif (decide ((0 : Int) ≤ r135)) then ((s_l2Has c117 (k123 : Int)).bind fun r141 =>
       some (!r141))
     else (some false)).bind fun o138 =>
   match o138 with
   | c144 => if c144 then (
       (app c112 ([({ Atom := (k123 : Int), Method := r135 } : Step)] : List Step)).bind fun z146 =>
       (app c117 ([(k123 : Int)] : List Int)).bind fun z150 =>
       (s_l6Bind c115 x125).bind fun r156 =>
       some (z146, r156, z150))
     else (
       s_l6Greedy_L3 a_l rest124 (k123 + 1) c112 c115 c117)
def s_l6Greedy_L1 (a_l : List Method) (a_q : Query) : List Atom → Nat → (List Step) → (List Int) → (List Int) → Option ((List Step))
 | [], k101, c90, c93, c95 => some c90
 | x103 :: rest102, k101, c90, c93, c95 => (s_l6Greedy_L3 a_l a_q.Atoms 0 c90 c93 c95).bind fun o110 =>
   match o110 with
   | (c162, c165, c167) => s_l6Greedy_L1 a_l a_q rest102 (k101 + 1) c162 c165 c167
def s_l6Greedy (a_l : List Method) (a_q : Query) : Option ((List Step)) :=
 s_l6Greedy_L1 a_l a_q a_q.Atoms 0 ([] : List Step) ([] : List Int) ([] : List Int)
theorem s_l6Greedy_ok (a_l : List Method) (v0_0 : Sv) (a_q : Query) (v1_0 : Sv) (v1_1 : Sv) (R : (List Step)) (hF : s_l6Greedy a_l a_q = some R) :
   Fw.Spec Tryz.prog 74 [v0_0.v, (.agg [v1_0.v, v1_1.v].toArray)] [crd (RdS 65 rd65) v0_0.v a_l, crd (RdS 3 rdInt) v1_0.v a_q.Head, crd (RdS 84 rd84) v1_1.v a_q.Atoms] (fun p : Sv × List Nat => p.1.v) (fun p => [cown (OwnS 108 (roE rd108)) p.2 p.1.v R]) := by
 refine Se 62 Tryz.func74 [.tmp 4] ?_
 intro H0 F0
 unfold s_l6Greedy at hF
 refine au ?_
 refine AbR (fun k1 => ?_)
 iterate 3 refine au ?_
 refine C_new rfl (N_buildSliceT (g := true) sl104.h ty108.h .nil (vs := []) rfl rfl rfl (by simp)) (fun k2 => ?_)
 refine Cv1 (.cons .h .nil) (own_lit (Ro := (roE rd108)) (E := 108) (F := []) (xs := ([] : List Step)) MkL_nil rfl rfl) ?_
 iterate 3 refine au ?_
 refine C_new rfl (N_buildSliceT (g := true) sl22.h ty3.h .nil (vs := []) rfl rfl rfl (by simp)) (fun k3 => ?_)
 refine Cv1 (.cons .h .nil) (own_lit (Ro := (roE rdInt)) (E := 3) (F := []) (xs := ([] : List Int)) MkL_nil rfl rfl) ?_
 iterate 3 refine au ?_
 refine C_new rfl (N_buildSliceT (g := true) sl22.h ty3.h .nil (vs := []) rfl rfl rfl (by simp)) (fun k4 => ?_)
 refine Cv1 (.cons .h .nil) (own_lit (Ro := (roE rdInt)) (E := 3) (F := []) (xs := ([] : List Int)) MkL_nil rfl rfl) ?_
 iterate 6 refine au ?_
 refine CW_block (CW_loop (m := a_q.Atoms.length) (fun m99 f' cs' => ∃ (g : Fr) (k101 : Nat) (rest102 : List Atom) (c90 : List Step) (c93 : List Int) (c95 : List Int) (v91 : Sv) (F92 : List Nat) (v94 : Sv) (v96 : Sv) (F97 : List Nat), m99 = rest102.length ∧ f' = updL g [(0, v0_0.v), (3, (pz k1)), (5, v91.v), (6, v94.v), (7, v96.v), (8, (.int .i64 (k101 : Int)))] ∧ List.drop k101 a_q.Atoms = rest102 ∧ Ent cs' [crd (RdS 65 rd65) v0_0.v a_l, cboR k1 39 (.agg [v1_0.v, v1_1.v].toArray), crd (RdS 3 rdInt) v1_0.v a_q.Head, crd (RdS 84 rd84) v1_1.v a_q.Atoms, cown (OwnS 108 (roE rd108)) F92 v91.v c90, crd (RdS 3 rdInt) v94.v c93, cown (OwnS 3 (roE rdInt)) F97 v96.v c95] ∧ s_l6Greedy_L1 a_l a_q rest102 k101 c90 c93 c95 = some R) ⟨_, 0, _, _, _, _, ⟨(some ⟨k2, 0, none⟩), 0, 1⟩, (k2 :: []), ⟨(some ⟨k3, 0, none⟩), 0, 1⟩, ⟨(some ⟨k4, 0, none⟩), 0, 1⟩, (k4 :: []), rfl, eqA, rfl, (.frz (.t .h) frz_own entA), hF⟩ ?_)
 rintro m99 _ _ ⟨g100, k101, rest102, c90, c93, c95, v91, F92, v94, v96, F97, rfl, rfl, hd104, hE, hF⟩
 refine Kb hE a_q.Atoms (fun hbd109 => ?_)
 rcases rest102 with _ | ⟨x103, rest102⟩
 · have hk105 := dn hd104
   rw [s_l6Greedy_L1] at hF
   iterate 8 refine au ?_
   refine CdF ?_
   iterate 9 refine au ?_
   cases hF
   exact Er (v91, F92)
 obtain ⟨hk105, hx106, hd107⟩ := drop_cons hd104
 rw [s_l6Greedy_L1] at hF
 iterate 8 refine au ?_
 refine CdT ?_
 refine au ?_
 obtain ⟨o110, hio110, hO111⟩ := bind_some hF
 refine K_cut (fun f' cs' => ∃ (c162 : List Step) (c165 : List Int) (c167 : List Int) (v163 : Sv) (F164 : List Nat) (v166 : Sv) (v168 : Sv) (F169 : List Nat) (g : Fr), o110 = (c162, c165, c167) ∧ f' = updL g [(0, v0_0.v), (3, (pz k1)), (5, v163.v), (6, v166.v), (7, v168.v), (8, (.int .i64 (k101 : Int)))] ∧ Ent cs' [crd (RdS 65 rd65) v0_0.v a_l, cboR k1 39 (.agg [v1_0.v, v1_1.v].toArray), crd (RdS 3 rdInt) v1_0.v a_q.Head, crd (RdS 84 rd84) v1_1.v a_q.Atoms, cown (OwnS 108 (roE rd108)) F164 v163.v c162, crd (RdS 3 rdInt) v166.v c165, cown (OwnS 3 (roE rdInt)) F169 v168.v c167]) ?_ ?_
 · replace hF := hio110
   refine CW_block (K_region (C_val (V_assign (v := (.int .i64 0)) (.int _ _)) ?_))
   refine au ?_
   refine CW_block (CW_loop (m := a_q.Atoms.length) (fun m121 f' cs' => ∃ (g : Fr) (k123 : Nat) (rest124 : List Atom) (c112 : List Step) (c115 : List Int) (c117 : List Int) (v113 : Sv) (F114 : List Nat) (v116 : Sv) (v118 : Sv) (F119 : List Nat), m121 = rest124.length ∧ f' = updL g [(0, v0_0.v), (3, (pz k1)), (5, v113.v), (6, v116.v), (7, v118.v), (8, (.int .i64 (k101 : Int))), (9, (.int .i64 (k123 : Int)))] ∧ List.drop k123 a_q.Atoms = rest124 ∧ Ent cs' [crd (RdS 65 rd65) v0_0.v a_l, cboR k1 39 (.agg [v1_0.v, v1_1.v].toArray), crd (RdS 3 rdInt) v1_0.v a_q.Head, crd (RdS 84 rd84) v1_1.v a_q.Atoms, cown (OwnS 108 (roE rd108)) F114 v113.v c112, crd (RdS 3 rdInt) v116.v c115, cown (OwnS 3 (roE rdInt)) F119 v118.v c117] ∧ s_l6Greedy_L3 a_l rest124 k123 c112 c115 c117 = some o110) ⟨_, 0, _, _, _, _, v91, F92, v94, v96, F97, rfl, eqA, rfl, entA, hF⟩ ?_)
   rintro m121 _ _ ⟨g122, k123, rest124, c112, c115, c117, v113, F114, v116, v118, F119, rfl, rfl, hd126, hE, hF⟩
   refine Kb hE a_q.Atoms (fun hbd131 => ?_)
   rcases rest124 with _ | ⟨x125, rest124⟩
   · have hk127 := dn hd126
     rw [s_l6Greedy_L3] at hF
     iterate 8 refine au ?_
     refine CdF ?_
     iterate 4 refine au ?_
     cases hF
     exact ⟨_, _, _, v113, F114, v116, v118, F119, _, rfl, eqA, entA⟩
   obtain ⟨hk127, hx128, hd129⟩ := drop_cons hd126
   rw [s_l6Greedy_L3] at hF
   iterate 8 refine au ?_
   refine CdT ?_
   iterate 7 refine au ?_
   refine Ai hx128 (fun k132 j133 => ?_)
   refine AlA1 (ul84_0_84 x125) la84_0_84 (fun p134 => ?_)
   refine au ?_
   refine bnd hF fun r135 hx136 hF => Cx0 (s_l6First_ok _ _ _ _ _ _ _ hx136) (fun _ => ?_)
   iterate 2 refine au ?_
   obtain ⟨o138, hio138, hO139⟩ := bind_some hF
   refine au ?_
   refine C_cut (fun f' cs' => ∃ (c144 : Bool) (g : Fr), c144 = o138 ∧ f' = updL g [(0, v0_0.v), (3, (pz k1)), (5, v113.v), (6, v116.v), (7, v118.v), (8, (.int .i64 (k101 : Int))), (9, (.int .i64 (k123 : Int))), (10, (.int .i64 r135)), (43, (.bool c144))] ∧ Ent cs' [crd (RdS 65 rd65) v0_0.v a_l, cboR k1 39 (.agg [v1_0.v, v1_1.v].toArray), crd (RdS 3 rdInt) v1_0.v a_q.Head, crd (RdS 84 rd84) v1_1.v a_q.Atoms, cown (OwnS 108 (roE rd108)) F114 v113.v c112, crd (RdS 3 rdInt) v116.v c115, cown (OwnS 3 (roE rdInt)) F119 v118.v c117]) ?_ ?_
   · replace hF := hio138
     iterate 3 refine au ?_
     rcases Bool.eq_false_or_eq_true (decide ((0 : Int) ≤ r135)) with hg140 | hg140
     · rw [hg140]
       try rw [hg140] at hF; dsimp only [cond_true, cond_false] at hF
       iterate 5 refine au ?_
       refine bnd hF fun r141 hx142 hF => C_x1 (.cons (.t (.t (.t (.t (.t (.t (.t (.t .h)))))))) .nil) (XC_bor frz_own (fun _ => .nil) (X_callS cf50.h (.cons (.tmp rfl rfl) (.cons (.tmp rfl rfl) .nil)) (s_l2Has_ok c117 v118 (k123 : Int) _ hx142))) (fun _ => ?_)
       iterate 4 refine au ?_
       cases hF
       exact ⟨_, _, rfl, eqA, entA⟩
     rw [hg140]
     try rw [hg140] at hF; dsimp only [cond_true, cond_false] at hF
     iterate 6 refine au ?_
     cases hF
     exact ⟨_, _, rfl, eqA, entA⟩
   rintro _ _ ⟨c144, g161, rfl, rfl, hE⟩
   replace hF := hO139
   try dsimp only at hF
   refine K_ent hE ?_
   refine Ci hF (fun hb160 hF => ?_) (fun hb160 hF => ?_)
   · iterate 4 refine au ?_
     refine C_val (V_build ty108.h rfl (vs := [(.int .i64 (k123 : Int)), (.int .i64 r135)]) (.cons (.tmp rfl rfl) (.cons (.tmp rfl rfl) .nil)) (cells := [(.int .i64 (k123 : Int)), (.int .i64 r135)]) rfl) ?_
     refine C_new rfl (N_buildSliceT (g := true) sl104.h ty108.h (.cons (.tmp rfl rfl) .nil) (vs := [(.agg [(.int .i64 (k123 : Int)), (.int .i64 r135)].toArray)]) rfl rfl rfl (by intro v hv; simp at hv; rcases hv with rfl <;> rfl)) (fun k145 => ?_)
     refine Cv1 (.cons .h .nil) (own_lit (Ro := (roE rd108)) (E := 108) (F := ([] ++ [])) (xs := ([({ Atom := (k123 : Int), Method := r135 } : Step)] : List Step)) (MkL_cons (Mk_pure (fun _ => rfl)) MkL_nil apps) rfl rfl) ?_
     refine bnd hF fun z146 hx147 hF => C_x1 (.cons (.t (.t (.t (.t (.t .h))))) (.cons .h .nil)) (X_appendO (Ro := (roE rd108)) sl104.h ni104 ty108.h rfl rfl rfl (.tmp rfl rfl) (.tmp rfl rfl) hx147 src_own) (fun p148 => ?_)
     iterate 5 refine au ?_
     refine C_new rfl (N_buildSliceT (g := true) sl22.h ty3.h (.cons (.tmp rfl rfl) .nil) (vs := [(.int .i64 (k123 : Int))]) rfl rfl rfl (by intro v hv; simp at hv; rcases hv with rfl <;> rfl)) (fun k149 => ?_)
     refine Cv1 (.cons .h .nil) (own_lit (Ro := (roE rdInt)) (E := 3) (F := ([] ++ [])) (xs := ([(k123 : Int)] : List Int)) (MkL_cons (Mk_pure (fun _ => rfl)) MkL_nil apps) rfl rfl) ?_
     refine bnd hF fun z150 hx151 hF => C_x1 (.cons (.t (.t (.t (.t (.t (.t (.t .h))))))) (.cons .h .nil)) (X_appendO (Ro := (roE rdInt)) sl22.h ni22 ty3.h rfl rfl rfl (.tmp rfl rfl) (.tmp rfl rfl) hx151 src_own) (fun p152 => ?_)
     iterate 7 refine au ?_
     refine Ai hx128 (fun k153 j154 => ?_)
     refine AlA1 (ul84_0_84 x125) la84_0_84 (fun p155 => ?_)
     refine bnd hF fun r156 hx157 hF => Cx1 (s_l6Bind_ok _ _ _ _ _ hx157) (fun p158 => ?_)
     iterate 3 refine au ?_
     refine CIn_ne rfl ?_
     iterate 3 refine au ?_
     cases hF
     exact ⟨_, _, _, p148.1, p148.2, p158, p152.1, p152.2, _, rfl, eqA, entA⟩
   iterate 6 refine au ?_
   rw [wk k123]
   exact ⟨_, Nat.lt_succ_self _, _, k123 + 1, rest124, _, _, _, v113, F114, v116, v118, F119, rfl, eqA, hd129, entA, hF⟩
 rintro _ _ ⟨c162, c165, c167, v163, F164, v166, v168, F169, g171, rfl, rfl, hE⟩
 replace hF := hO111
 try dsimp only at hF
 refine K_ent hE ?_
 iterate 5 refine au ?_
 rw [wk k101]
 exact ⟨_, Nat.lt_succ_self _, _, k101 + 1, rest102, _, _, _, v163, F164, v166, v168, F169, rfl, eqA, hd107, entA, hF⟩
def s_l3Atom (a_rel : Int) (a_terms : List Int) : Option (Atom) :=
 (app ([] : List Int) a_terms).bind fun z3 =>
 some ({ Rel := a_rel, Terms := z3 } : Atom)
theorem s_l3Atom_ok (a_rel : Int) (a_terms : List Int) (v1_0 : Sv) (R : Atom) (hF : s_l3Atom a_rel a_terms = some R) :
   Fw.Spec Tryz.prog 76 [(.int .i64 a_rel), v1_0.v] [crd (RdS 3 rdInt) v1_0.v a_terms] (fun p : Sv × List Nat => (.agg [(.int .i64 R.Rel), p.1.v].toArray)) (fun p => [cown (OwnS 3 (roE rdInt)) p.2 p.1.v R.Terms]) := by
 refine Se 10 Tryz.func76 [.cell 4 84] ?_
 intro H0 F0
 unfold s_l3Atom at hF
 refine au ?_
 refine AnW (fun k1 => ?_)
 iterate 3 refine au ?_
 refine C_new rfl (N_buildSliceT (g := true) sl22.h ty3.h .nil (vs := []) rfl rfl rfl (by simp)) (fun k2 => ?_)
 refine Cv1 (.cons .h .nil) (own_lit (Ro := (roE rdInt)) (E := 3) (F := []) (xs := ([] : List Int)) MkL_nil rfl rfl) ?_
 refine au ?_
 refine bnd hF fun z3 hx4 hF => C_x1 (.cons .h (.rd (.t .h) rfl .nil)) (X_appendO (Ro := (roE rdInt)) sl22.h ni22 ty3.h rfl rfl rfl (.tmp rfl rfl) (.tmp rfl rfl) hx4 src_rd) (fun p5 => ?_)
 refine C_val (V_build ty84.h rfl (vs := [(.int .i64 a_rel), p5.1.v]) (.cons (.tmp rfl rfl) (.cons (.tmp rfl rfl) .nil)) (cells := [(.int .i64 a_rel), p5.1.v]) rfl) ?_
 refine As (.agg [(.int .i64 a_rel), p5.1.v].toArray) ?_
 iterate 2 refine au ?_
 cases hF
 exact Er (p5.1, p5.2)
def s_AnswerablePart_L3 (r9 : (List Step)) (k117 : Nat) (x119 : Atom) : Nat → (List Atom) → Int → Option ((List Atom))
 | 0, _, _ => none
 | m170 + 1, c166, c169 => if (decide ((c169 : Int) < (r9.length : Int))) then (
     ((ix r9 c169).bind fun x183 =>
       if ((x183.Atom : Int) == (k117 : Int)) then (
         (s_l3Atom x119.Rel x119.Terms).bind fun r192 =>
         (app c166 ([r192] : List Atom)).bind fun z196 =>
         some z196)
       else (
         some c166)).bind fun o178 =>
     match o178 with
     | c200 => s_AnswerablePart_L3 r9 k117 x119 m170 c200 (IntKind.i64.wrap (c169 + 1)))
   else (
     some c166)
def s_AnswerablePart_L1 (a_s : List Int) (r9 : (List Step)) (z13 : List Int) : List Atom → Nat → (List Atom) → Option (Query × Bool)
 | [], k117, c111 => (s_IsQuery a_s ({ Head := z13, Atoms := c111 } : Query)).bind fun r126 =>
   if (!r126) then (
     some (({ Head := [], Atoms := [] } : Query), false))
   else (
     some (({ Head := z13, Atoms := c111 } : Query), true))
 | x119 :: rest118, k117, c111 => (s_AnswerablePart_L3 r9 k117 x119 (((r9.length : Int) - 0).toNat + 2) c111 0).bind fun o130 =>
   match o130 with
   | c205 => s_AnswerablePart_L1 a_s r9 z13 rest118 (k117 + 1) c205
def s_AnswerablePart (a_s : List Int) (a_l : List Method) (a_q : Query) : Option (Query × Bool) :=
 (s_l6Fine a_s a_l a_q).bind fun r3 =>
 if (!r3) then (
   some (({ Head := [], Atoms := [] } : Query), false))
 else (
   (s_l10Exact a_l).bind fun r6 =>
   (s_l6Greedy r6 a_q).bind fun r9 =>
   (app ([] : List Int) a_q.Head).bind fun z13 =>
   s_AnswerablePart_L1 a_s r9 z13 a_q.Atoms 0 ([] : List Atom))
theorem s_AnswerablePart_ok (a_s : List Int) (v0_0 : Sv) (a_l : List Method) (v1_0 : Sv) (a_q : Query) (v2_0 : Sv) (v2_1 : Sv) (R : Query × Bool) (hF : s_AnswerablePart a_s a_l a_q = some R) :
   Fw.Spec Tryz.prog 47 [v0_0.v, v1_0.v, (.agg [v2_0.v, v2_1.v].toArray)] [crd (RdS 3 rdInt) v0_0.v a_s, crd (RdS 65 rd65) v1_0.v a_l, crd (RdS 3 rdInt) v2_0.v a_q.Head, crd (RdS 84 rd84) v2_1.v a_q.Atoms] (fun p : Sv × List Nat × Sv × List Nat => (.tuple [(.agg [p.1.v, p.2.2.1.v].toArray), (.bool R.2)].toArray)) (fun p => [cown (OwnS 3 (roE rdInt)) p.2.1 p.1.v R.1.Head, cown (OwnS 84 ow84) p.2.2.2 p.2.2.1.v R.1.Atoms]) := by
 refine Se 71 Tryz.func47 [.cell 6 39, .tmp 7] ?_
 intro H0 F0
 unfold s_AnswerablePart at hF
 refine au ?_
 refine AbR (fun k1 => ?_)
 refine AnW (fun k2 => ?_)
 iterate 7 refine au ?_
 refine bnd hF fun r3 hx4 hF => Cx0 (s_l6Fine_ok _ _ _ _ _ _ _ _ hx4) (fun _ => ?_)
 iterate 2 refine au ?_
 refine Ci hF (fun hb210 hF => ?_) (fun hb210 hF => ?_)
 · refine au ?_
   refine C_val (V_build ty39.h rfl (vs := []) .nil (cells := [(.slice none 0 0), (.slice none 0 0)]) rfl) ?_
   refine As (.agg [(.slice none 0 0), (.slice none 0 0)].toArray) ?_
   iterate 3 refine au ?_
   cases hF
   exact End_ret (⟨none, 0, 0⟩, [], ⟨none, 0, 0⟩, []) (.cellA rfl rfl .h rfl ag39.h ty39.h.sz rfl rfl (.tmp rfl rfl .nil)) rfl (.conv .nil (own_nil (Ro := (roE rdInt)) (E := 3)) (.cons .nil) (.conv .nil (own_nil (Ro := ow84) (E := 84)) (.cons .nil) (.sel (.cons (.t .h) (.cons .h .nil)))))
 refine au ?_
 refine K_draw [0, 2, 1, 3, 4] [0, 1, 0, 7, 15] [1, 3] mixed (by decide +kernel) ?_
 iterate 2 refine du ?_
 refine bnd hF fun r6 hx7 hF => Dx1 (s_l10Exact_ok _ _ _ hx7) (fun p8 => ?_)
 refine bnd hF fun r9 hx10 hF => D_act2 rfl rfl .no (.cons .h (.rd (.t (.t (.t (.t .h)))) rfl (.rd (.t (.t (.t (.t (.t .h))))) rfl .nil))) .nil (fun ha => XC_bor frz_own (fun _ => (.cons .nil)) (X_callS cf74.h (.cons (EN ha (.tmp rfl rfl) rfl) (.cons (EN ha (.tmp rfl rfl) rfl) .nil)) (s_l6Greedy_ok r6 p8.1 a_q v2_0 v2_1 _ hx10))) (fun p11 => ?_)
 iterate 2 refine du ?_
 refine au ?_
 refine C_new rfl (N_buildSliceT (g := true) sl22.h ty3.h .nil (vs := []) rfl rfl rfl (by simp)) (fun k12 => ?_)
 refine Cv1 (.cons .h .nil) (own_lit (Ro := (roE rdInt)) (E := 3) (F := []) (xs := ([] : List Int)) MkL_nil rfl rfl) ?_
 iterate 2 refine au ?_
 refine bnd hF fun z13 hx14 hF => C_x1 (.cons .h (.rd (.t (.t (.t (.t (.t (.t .h)))))) rfl .nil)) (X_appendO (Ro := (roE rdInt)) sl22.h ni22 ty3.h rfl rfl rfl (.tmp rfl rfl) (.tmp rfl rfl) hx14 src_rd) (fun p15 => ?_)
 refine C_val (V_build ty39.h rfl (vs := [p15.1.v]) (.cons (.tmp rfl rfl) .nil) (cells := [p15.1.v, (.slice none 0 0)]) rfl) ?_
 refine AnW (fun k16 => ?_)
 refine As (.agg [p15.1.v, (.slice none 0 0)].toArray) ?_
 iterate 5 refine au ?_
 refine CW_block (CW_loop (m := a_q.Atoms.length) (fun m115 f' cs' => ∃ (g : Fr) (k117 : Nat) (rest118 : List Atom) (c111 : List Atom) (v112 : Sv) (F113 : List Nat), m115 = rest118.length ∧ f' = updL g [(0, v0_0.v), (5, (pz k1)), (6, (pz k2)), (8, p11.1.v), (9, (pz k16)), (10, (.int .i64 (k117 : Int)))] ∧ List.drop k117 a_q.Atoms = rest118 ∧ Ent cs' [crd (RdS 3 rdInt) v0_0.v a_s, cboR k1 39 (.agg [v2_0.v, v2_1.v].toArray), crd (RdS 3 rdInt) v2_0.v a_q.Head, crd (RdS 84 rd84) v2_1.v a_q.Atoms, cbox k2 39 (.agg [(.slice none 0 0), (.slice none 0 0)].toArray), cown (OwnS 108 (roE rd108)) p11.2 p11.1.v r9, cbox k16 39 (.agg [p15.1.v, v112.v].toArray), cown (OwnS 3 (roE rdInt)) p15.2 p15.1.v z13, cown (OwnS 84 ow84) F113 v112.v c111] ∧ s_AnswerablePart_L1 a_s r9 z13 rest118 k117 c111 = some R) ⟨_, 0, _, _, ⟨none, 0, 0⟩, [], rfl, eqA, rfl, (.conv .nil (own_nil (Ro := ow84) (E := 84)) (.cons .nil) entA), hF⟩ ?_)
 rintro m115 _ _ ⟨g116, k117, rest118, c111, v112, F113, rfl, rfl, hd120, hE, hF⟩
 refine Kb hE a_q.Atoms (fun hbd125 => ?_)
 rcases rest118 with _ | ⟨x119, rest118⟩
 · have hk121 := dn hd120
   rw [s_AnswerablePart_L1] at hF
   iterate 8 refine au ?_
   refine CdF ?_
   iterate 8 refine au ?_
   refine bnd hF fun r126 hx127 hF => C_x2 (.cons (.t (.t (.t (.t (.t (.t (.t (.t .h)))))))) (.cons (.t (.t (.t (.t (.t (.t (.t .h))))))) (.rd .h rfl .nil))) (XC_borL (pre := _) (.cons frz_own (.cons frz_own .nil)) (fun _ => .nil) (XC_pre (.rd (.t (.t .h)) rfl (.rd .h rfl (.rd (.t .h) rfl .nil))) (X_callS cf46.h (.cons (.tmp rfl rfl) (.cons (.tmp rfl rfl) .nil)) (s_IsQuery_ok a_s v0_0 ({ Head := z13, Atoms := c111 } : Query) p15.1 v112 _ hx127)))) (fun _ => ?_)
   iterate 2 refine au ?_
   refine Ci hF (fun hb129 hF => ?_) (fun hb129 hF => ?_)
   · refine au ?_
     refine C_val (V_build ty39.h rfl (vs := []) .nil (cells := [(.slice none 0 0), (.slice none 0 0)]) rfl) ?_
     refine As (.agg [(.slice none 0 0), (.slice none 0 0)].toArray) ?_
     iterate 3 refine au ?_
     cases hF
     exact End_ret (⟨none, 0, 0⟩, [], ⟨none, 0, 0⟩, []) (.cellA rfl rfl .h rfl ag39.h ty39.h.sz rfl rfl (.tmp rfl rfl .nil)) rfl (.conv .nil (own_nil (Ro := (roE rdInt)) (E := 3)) (.cons .nil) (.conv .nil (own_nil (Ro := ow84) (E := 84)) (.cons .nil) (.sel (.cons (.t .h) (.cons .h .nil)))))
   iterate 3 refine au ?_
   refine As (.agg [p15.1.v, v112.v].toArray) ?_
   iterate 3 refine au ?_
   cases hF
   exact End_ret (p15.1, p15.2, v112, F113) (.cellA rfl rfl .h rfl ag39.h ty39.h.sz rfl rfl (.tmp rfl rfl .nil)) rfl (.sel (.cons (.t (.t .h)) (.cons (.t .h) .nil)))
 obtain ⟨hk121, hx122, hd123⟩ := drop_cons hd120
 rw [s_AnswerablePart_L1] at hF
 iterate 8 refine au ?_
 refine CdT ?_
 refine au ?_
 obtain ⟨o130, hio130, hO131⟩ := bind_some hF
 refine K_cut (fun f' cs' => ∃ (c205 : List Atom) (v206 : Sv) (F207 : List Nat) (g : Fr), c205 = o130 ∧ f' = updL g [(0, v0_0.v), (5, (pz k1)), (6, (pz k2)), (8, p11.1.v), (9, (pz k16)), (10, (.int .i64 (k117 : Int)))] ∧ Ent cs' [crd (RdS 3 rdInt) v0_0.v a_s, cboR k1 39 (.agg [v2_0.v, v2_1.v].toArray), crd (RdS 3 rdInt) v2_0.v a_q.Head, crd (RdS 84 rd84) v2_1.v a_q.Atoms, cbox k2 39 (.agg [(.slice none 0 0), (.slice none 0 0)].toArray), cown (OwnS 108 (roE rd108)) p11.2 p11.1.v r9, cbox k16 39 (.agg [p15.1.v, v206.v].toArray), cown (OwnS 3 (roE rdInt)) p15.2 p15.1.v z13, cown (OwnS 84 ow84) F207 v206.v c205]) ?_ ?_
 · replace hF := hio130
   refine CW_block (K_region (C_val (V_assign (v := (.int .i64 0)) (.int _ _)) ?_))
   refine au ?_
   refine CW_block (CW_loop (m := (((r9.length : Int) - 0).toNat + 2)) (fun m170 f' cs' => ∃ (g : Fr) (c166 : List Atom) (c169 : Int) (v167 : Sv) (F168 : List Nat), f' = updL g [(0, v0_0.v), (5, (pz k1)), (6, (pz k2)), (8, p11.1.v), (9, (pz k16)), (10, (.int .i64 (k117 : Int))), (11, (.int .i64 c169))] ∧ Ent cs' [crd (RdS 3 rdInt) v0_0.v a_s, cboR k1 39 (.agg [v2_0.v, v2_1.v].toArray), crd (RdS 3 rdInt) v2_0.v a_q.Head, crd (RdS 84 rd84) v2_1.v a_q.Atoms, cbox k2 39 (.agg [(.slice none 0 0), (.slice none 0 0)].toArray), cown (OwnS 108 (roE rd108)) p11.2 p11.1.v r9, cbox k16 39 (.agg [p15.1.v, v167.v].toArray), cown (OwnS 3 (roE rdInt)) p15.2 p15.1.v z13, cown (OwnS 84 ow84) F168 v167.v c166] ∧ s_AnswerablePart_L3 r9 k117 x119 m170 c166 c169 = some o130) ⟨_, _, _, v112, F113, eqA, entA, hF⟩ ?_)
   rintro m170 _ _ ⟨g171, c166, c169, v167, F168, rfl, hE, hF⟩
   refine K_ent hE ?_
   rcases m170 with _ | m170
   · rw [s_AnswerablePart_L3] at hF
     exact absurd hF (by simp)
   rw [s_AnswerablePart_L3] at hF
   iterate 7 refine au ?_
   refine Ci hF (fun hb204 hF => ?_) (fun hb204 hF => ?_)
   · refine au ?_
     obtain ⟨o178, hio178, hO179⟩ := bind_some hF
     refine K_cut (fun f' cs' => ∃ (c200 : List Atom) (v201 : Sv) (F202 : List Nat) (g : Fr), c200 = o178 ∧ f' = updL g [(0, v0_0.v), (5, (pz k1)), (6, (pz k2)), (8, p11.1.v), (9, (pz k16)), (10, (.int .i64 (k117 : Int))), (11, (.int .i64 c169))] ∧ Ent cs' [crd (RdS 3 rdInt) v0_0.v a_s, cboR k1 39 (.agg [v2_0.v, v2_1.v].toArray), crd (RdS 3 rdInt) v2_0.v a_q.Head, crd (RdS 84 rd84) v2_1.v a_q.Atoms, cbox k2 39 (.agg [(.slice none 0 0), (.slice none 0 0)].toArray), cown (OwnS 108 (roE rd108)) p11.2 p11.1.v r9, cbox k16 39 (.agg [p15.1.v, v201.v].toArray), cown (OwnS 3 (roE rdInt)) p15.2 p15.1.v z13, cown (OwnS 84 ow84) F202 v201.v c200]) ?_ ?_
     · replace hF := hio178
       refine CW_block (K_region (Cm p11.1.v rfl rfl ?_))
       refine au ?_
       refine bnd hF fun x183 hx184 hF => ?_
       have hi182 := ix_chk hx184
       obtain ⟨hp185, hx186⟩ := ix_some hx184
       refine C_idxO sl104.h ty108.h.sz (.tmp rfl rfl) (.tmp rfl rfl) (.t (.t (.t (.t (.t .h))))) hi182 (fun k180 hk181 => ?_)
       refine au ?_
       refine C_ldO (w := (.int .i64 x183.Atom)) ag3.h (.tmp rfl rfl) (.t (.t (.t (.t (.t .h))))) hk181 hx186 lo108_0 ?_
       iterate 3 refine au ?_
       refine Ci hF (fun hb199 hF => ?_) (fun hb199 hF => ?_)
       · refine CW_draw [0, 1, 2, 3, 4, 5, 6, 7, 8, 9, 10, 11, 12, 13, 14, 15, 16, 17, 18] [0, 1, 0, 4, 0, 28, 60, 124, 0, 256, 0, 1792, 3840, 7936, 16380, 32764, 65535, 131071, 262143] [14, 16, 18] mixed (by decide +kernel) ?_
         refine du ?_
         refine D_atO rfl .no (.t (.t (.t (.t (.t (.t .h)))))) (fun ha hp => V_load (v := v167.v) ag37.h (EN ha (.tmp rfl rfl) rfl) hp.2 rfl rfl) ?_
         iterate 3 refine du ?_
         refine Di hx122 (fun k187 j188 => ?_)
         refine du ?_
         refine Dl ls84_0 ?_
         iterate 3 refine du ?_
         refine Di hx122 (fun k189 j190 => ?_)
         refine du ?_
         refine D_ldV (R' := (RdS 3 rdInt)) ag22.h rfl .no (.tmp rfl rfl) rfl .h lv84_1 (fun w191 => ?_)
         refine bnd hF fun r192 hx193 hF => D_act1 rfl rfl .no (.rd .h rfl .nil) (.own (.t (.t (.t (.t (.t (.t (.t (.t (.t .h))))))))) (fun _ h => h) .nil) (fun ha => X_callS cf76.h (.cons (EN ha (.tmp rfl rfl) rfl) (.cons (EN ha (.tmp rfl rfl) rfl) .nil)) (s_l3Atom_ok x119.Rel x119.Terms w191 _ hx193)) (fun p194 => ?_)
         refine D_new rfl .no rfl (fun ha => N_buildSliceT (g := true) (len := 1) (parts := [(0, .tmp 61)]) sl37.h ty84.h (.cons (EN ha (.tmp rfl rfl) rfl) .nil) (vs := [(.agg [(.int .i64 r192.Rel), p194.1.v].toArray)]) rfl rfl rfl (by intro v hv; simp at hv; rcases hv with rfl <;> rfl)) (fun k195 => ?_)
         refine Dv1 (.cons .h (.cons .h .nil)) (own_lit (Ro := ow84) (E := 84) (F := (p194.2 ++ [])) (xs := ([r192] : List Atom)) (MkL_cons mk84 MkL_nil apps) rfl rfl) ?_
         refine bnd hF fun z196 hx197 hF => D_act1 rfl rfl .no (.cons (.t (.t (.t (.t (.t (.t (.t (.t (.t (.t (.t (.t .h)))))))))))) (.cons .h .nil)) (.dep rfl (.dep rfl .nil)) (fun ha => X_appendO (Ro := ow84) sl37.h ni37 ty84.h rfl rfl rfl (EN ha (.tmp rfl rfl) rfl) (EN ha (.tmp rfl rfl) rfl) hx197 src_own) (fun p198 => ?_)
         refine du ?_
         refine D_act1 rfl rfl .no (.cons (.t (.t (.t (.t (.t (.t (.t (.t (.t (.t .h)))))))))) .nil) (.dep rfl (.dep rfl .nil)) (fun ha => X_storeB (e' := (.agg [p15.1.v, p198.1.v].toArray)) ty37.h.sz (EN ha (.tmp rfl rfl) rfl) (EN ha (.tmp rfl rfl) rfl) rfl rfl rfl rfl rfl) (fun _ => ?_)
         refine du ?_
         cases hF
         exact ⟨_, p198.1, p198.2, _, rfl, eqA, entA⟩
       refine au ?_
       cases hF
       exact ⟨_, v167, F168, _, rfl, eqA, entA⟩
     rintro _ _ ⟨c200, v201, F202, g203, rfl, rfl, hE⟩
     replace hF := hO179
     try dsimp only at hF
     refine K_ent hE ?_
     iterate 5 refine au ?_
     exact ⟨m170, Nat.lt_succ_self _, _, _, _, v201, F202, eqA, entA, hF⟩
   iterate 4 refine au ?_
   cases hF
   exact ⟨_, v167, F168, _, rfl, eqA, entA⟩
 rintro _ _ ⟨c205, v206, F207, g209, rfl, rfl, hE⟩
 replace hF := hO131
 try dsimp only at hF
 refine K_ent hE ?_
 iterate 5 refine au ?_
 rw [wk k117]
 exact ⟨_, Nat.lt_succ_self _, _, k117 + 1, rest118, _, v206, F207, rfl, eqA, hd123, entA, hF⟩
def s_l3Copy_L1 (z4 : List Int) : List Atom → Nat → (List Atom) → Option (Query)
 | [], k38, c32 => some ({ Head := z4, Atoms := c32 } : Query)
 | x40 :: rest39, k38, c32 => (s_l3Atom x40.Rel x40.Terms).bind fun r52 =>
   (app c32 ([r52] : List Atom)).bind fun z56 =>
   s_l3Copy_L1 z4 rest39 (k38 + 1) z56
def s_l3Copy (a_q : Query) : Option (Query) :=
 (app ([] : List Int) a_q.Head).bind fun z4 =>
 s_l3Copy_L1 z4 a_q.Atoms 0 ([] : List Atom)
theorem s_l3Copy_ok (a_q : Query) (v0_0 : Sv) (v0_1 : Sv) (R : Query) (hF : s_l3Copy a_q = some R) :
   Fw.Spec Tryz.prog 114 [(.agg [v0_0.v, v0_1.v].toArray)] [crd (RdS 3 rdInt) v0_0.v a_q.Head, crd (RdS 84 rd84) v0_1.v a_q.Atoms] (fun p : Sv × List Nat × Sv × List Nat => (.agg [p.1.v, p.2.2.1.v].toArray)) (fun p => [cown (OwnS 3 (roE rdInt)) p.2.1 p.1.v R.Head, cown (OwnS 84 ow84) p.2.2.2 p.2.2.1.v R.Atoms]) := by
 refine Se 36 Tryz.func114 [.cell 2 39] ?_
 intro H0 F0
 unfold s_l3Copy at hF
 refine au ?_
 refine AbR (fun k1 => ?_)
 refine AnW (fun k2 => ?_)
 iterate 2 refine au ?_
 refine C_new rfl (N_buildSliceT (g := true) sl22.h ty3.h .nil (vs := []) rfl rfl rfl (by simp)) (fun k3 => ?_)
 refine Cv1 (.cons .h .nil) (own_lit (Ro := (roE rdInt)) (E := 3) (F := []) (xs := ([] : List Int)) MkL_nil rfl rfl) ?_
 iterate 2 refine au ?_
 refine bnd hF fun z4 hx5 hF => C_x1 (.cons .h (.rd (.t (.t .h)) rfl .nil)) (X_appendO (Ro := (roE rdInt)) sl22.h ni22 ty3.h rfl rfl rfl (.tmp rfl rfl) (.tmp rfl rfl) hx5 src_rd) (fun p6 => ?_)
 refine C_val (V_build ty39.h rfl (vs := [p6.1.v]) (.cons (.tmp rfl rfl) .nil) (cells := [p6.1.v, (.slice none 0 0)]) rfl) ?_
 refine AnW (fun k7 => ?_)
 refine As (.agg [p6.1.v, (.slice none 0 0)].toArray) ?_
 iterate 5 refine au ?_
 refine CW_block (CW_loop (m := a_q.Atoms.length) (fun m36 f' cs' => ∃ (g : Fr) (k38 : Nat) (rest39 : List Atom) (c32 : List Atom) (v33 : Sv) (F34 : List Nat), m36 = rest39.length ∧ f' = updL g [(1, (pz k1)), (2, (pz k2)), (3, (pz k7)), (4, (.int .i64 (k38 : Int)))] ∧ List.drop k38 a_q.Atoms = rest39 ∧ Ent cs' [cboR k1 39 (.agg [v0_0.v, v0_1.v].toArray), crd (RdS 3 rdInt) v0_0.v a_q.Head, crd (RdS 84 rd84) v0_1.v a_q.Atoms, cbox k2 39 (.agg [(.slice none 0 0), (.slice none 0 0)].toArray), cbox k7 39 (.agg [p6.1.v, v33.v].toArray), cown (OwnS 3 (roE rdInt)) p6.2 p6.1.v z4, cown (OwnS 84 ow84) F34 v33.v c32] ∧ s_l3Copy_L1 z4 rest39 k38 c32 = some R) ⟨_, 0, _, _, ⟨none, 0, 0⟩, [], rfl, eqA, rfl, (.conv .nil (own_nil (Ro := ow84) (E := 84)) (.cons .nil) entA), hF⟩ ?_)
 rintro m36 _ _ ⟨g37, k38, rest39, c32, v33, F34, rfl, rfl, hd41, hE, hF⟩
 refine Kb hE a_q.Atoms (fun hbd46 => ?_)
 rcases rest39 with _ | ⟨x40, rest39⟩
 · have hk42 := dn hd41
   rw [s_l3Copy_L1] at hF
   iterate 8 refine au ?_
   refine CdF ?_
   iterate 6 refine au ?_
   refine As (.agg [p6.1.v, v33.v].toArray) ?_
   iterate 2 refine au ?_
   cases hF
   exact Er (p6.1, p6.2, v33, F34)
 obtain ⟨hk42, hx43, hd44⟩ := drop_cons hd41
 rw [s_l3Copy_L1] at hF
 iterate 8 refine au ?_
 refine CdT ?_
 iterate 2 refine au ?_
 refine CW_draw [0, 1, 2, 3, 4, 5, 6, 7, 8, 9, 10, 11, 12, 13, 14, 15, 16, 17, 18] [0, 1, 0, 4, 0, 28, 60, 124, 0, 256, 0, 1792, 3840, 7936, 16380, 32764, 65535, 131071, 262143] [14, 16, 18] mixed (by decide +kernel) ?_
 refine du ?_
 refine D_atO rfl .no (.t (.t (.t (.t .h)))) (fun ha hp => V_load (v := v33.v) ag37.h (EN ha (.tmp rfl rfl) rfl) hp.2 rfl rfl) ?_
 iterate 3 refine du ?_
 refine Di hx43 (fun k47 j48 => ?_)
 refine du ?_
 refine Dl ls84_0 ?_
 iterate 3 refine du ?_
 refine Di hx43 (fun k49 j50 => ?_)
 refine du ?_
 refine D_ldV (R' := (RdS 3 rdInt)) ag22.h rfl .no (.tmp rfl rfl) rfl .h lv84_1 (fun w51 => ?_)
 refine bnd hF fun r52 hx53 hF => D_act1 rfl rfl .no (.rd .h rfl .nil) (.own (.t (.t (.t (.t (.t (.t (.t .h))))))) (fun _ h => h) .nil) (fun ha => X_callS cf76.h (.cons (EN ha (.tmp rfl rfl) rfl) (.cons (EN ha (.tmp rfl rfl) rfl) .nil)) (s_l3Atom_ok x40.Rel x40.Terms w51 _ hx53)) (fun p54 => ?_)
 refine D_new rfl .no rfl (fun ha => N_buildSliceT (g := true) (len := 1) (parts := [(0, .tmp 31)]) sl37.h ty84.h (.cons (EN ha (.tmp rfl rfl) rfl) .nil) (vs := [(.agg [(.int .i64 r52.Rel), p54.1.v].toArray)]) rfl rfl rfl (by intro v hv; simp at hv; rcases hv with rfl <;> rfl)) (fun k55 => ?_)
 refine Dv1 (.cons .h (.cons .h .nil)) (own_lit (Ro := ow84) (E := 84) (F := (p54.2 ++ [])) (xs := ([r52] : List Atom)) (MkL_cons mk84 MkL_nil apps) rfl rfl) ?_
 refine bnd hF fun z56 hx57 hF => D_act1 rfl rfl .no (.cons (.t (.t (.t (.t (.t (.t (.t (.t (.t (.t .h)))))))))) (.cons .h .nil)) (.dep rfl (.dep rfl .nil)) (fun ha => X_appendO (Ro := ow84) sl37.h ni37 ty84.h rfl rfl rfl (EN ha (.tmp rfl rfl) rfl) (EN ha (.tmp rfl rfl) rfl) hx57 src_own) (fun p58 => ?_)
 refine du ?_
 refine D_act1 rfl rfl .no (.cons (.t (.t (.t (.t (.t (.t (.t (.t .h)))))))) .nil) (.dep rfl (.dep rfl .nil)) (fun ha => X_storeB (e' := (.agg [p6.1.v, p58.1.v].toArray)) ty37.h.sz (EN ha (.tmp rfl rfl) rfl) (EN ha (.tmp rfl rfl) rfl) rfl rfl rfl rfl rfl) (fun _ => ?_)
 refine du ?_
 iterate 5 refine au ?_
 rw [wk k38]
 exact ⟨_, Nat.lt_succ_self _, _, k38 + 1, rest39, _, p58.1, p58.2, rfl, eqA, hd44, entA, hF⟩
def s_ConstantsOf_L3 (x127 : Atom) : Nat → (List Int) → Int → Option ((List Int))
 | 0, _, _ => none
 | m139 + 1, c136, c138 => if (decide ((c138 : Int) < (x127.Terms.length : Int))) then (
     ((ix x127.Terms c138).bind fun x155 =>
       (s_l1In x155 0 9).bind fun r161 =>
       if r161 then (
         (ix x127.Terms c138).bind fun x167 =>
         (s_l3Put c136 x167).bind fun r173 =>
         some r173)
       else (
         some c136)).bind fun o150 =>
     match o150 with
     | c177 => s_ConstantsOf_L3 x127 m139 c177 (IntKind.i64.wrap (c138 + 1)))
   else (
     some c136)
def s_ConstantsOf_L1 : List Atom → Nat → (List Int) → Option ((List Int))
 | [], k125, c120 => some c120
 | x127 :: rest126, k125, c120 => (s_ConstantsOf_L3 x127 (((x127.Terms.length : Int) - 0).toNat + 2) c120 0).bind fun o134 =>
   match o134 with
   | c181 => s_ConstantsOf_L1 rest126 (k125 + 1) c181
def s_ConstantsOf (a_q : Query) : Option ((List Int)) :=
 s_ConstantsOf_L1 a_q.Atoms 0 ([] : List Int)
theorem s_ConstantsOf_ok (a_q : Query) (v0_0 : Sv) (v0_1 : Sv) (R : (List Int)) (hF : s_ConstantsOf a_q = some R) :
   Fw.Spec Tryz.prog 27 [(.agg [v0_0.v, v0_1.v].toArray)] [crd (RdS 3 rdInt) v0_0.v a_q.Head, crd (RdS 84 rd84) v0_1.v a_q.Atoms] (fun p : Sv => p.v) (fun p => [crd (RdS 3 rdInt) p.v R]) := by
 refine Se 47 Tryz.func27 [.tmp 2] ?_
 intro H0 F0
 unfold s_ConstantsOf at hF
 refine au ?_
 refine AbR (fun k1 => ?_)
 iterate 3 refine au ?_
 refine C_new rfl (N_buildSliceT (g := true) sl22.h ty3.h .nil (vs := []) rfl rfl rfl (by simp)) (fun k2 => ?_)
 refine Cv1 (.cons .h .nil) (own_lit (Ro := (roE rdInt)) (E := 3) (F := []) (xs := ([] : List Int)) MkL_nil rfl rfl) ?_
 iterate 6 refine au ?_
 refine CW_block (CW_loop (m := a_q.Atoms.length) (fun m123 f' cs' => ∃ (g : Fr) (k125 : Nat) (rest126 : List Atom) (c120 : List Int) (v121 : Sv), m123 = rest126.length ∧ f' = updL g [(1, (pz k1)), (3, v121.v), (4, (.int .i64 (k125 : Int)))] ∧ List.drop k125 a_q.Atoms = rest126 ∧ Ent cs' [cboR k1 39 (.agg [v0_0.v, v0_1.v].toArray), crd (RdS 3 rdInt) v0_0.v a_q.Head, crd (RdS 84 rd84) v0_1.v a_q.Atoms, crd (RdS 3 rdInt) v121.v c120] ∧ s_ConstantsOf_L1 rest126 k125 c120 = some R) ⟨_, 0, _, _, ⟨(some ⟨k2, 0, none⟩), 0, 1⟩, rfl, eqA, rfl, (.frz .h frz_own entA), hF⟩ ?_)
 rintro m123 _ _ ⟨g124, k125, rest126, c120, v121, rfl, rfl, hd128, hE, hF⟩
 refine Kb hE a_q.Atoms (fun hbd133 => ?_)
 rcases rest126 with _ | ⟨x127, rest126⟩
 · have hk129 := dn hd128
   rw [s_ConstantsOf_L1] at hF
   iterate 8 refine au ?_
   refine CdF ?_
   iterate 9 refine au ?_
   cases hF
   exact Er v121
 obtain ⟨hk129, hx130, hd131⟩ := drop_cons hd128
 rw [s_ConstantsOf_L1] at hF
 iterate 8 refine au ?_
 refine CdT ?_
 refine au ?_
 obtain ⟨o134, hio134, hO135⟩ := bind_some hF
 refine K_cut (fun f' cs' => ∃ (c181 : List Int) (v182 : Sv) (g : Fr), c181 = o134 ∧ f' = updL g [(1, (pz k1)), (3, v182.v), (4, (.int .i64 (k125 : Int)))] ∧ Ent cs' [cboR k1 39 (.agg [v0_0.v, v0_1.v].toArray), crd (RdS 3 rdInt) v0_0.v a_q.Head, crd (RdS 84 rd84) v0_1.v a_q.Atoms, crd (RdS 3 rdInt) v182.v c181]) ?_ ?_
 · replace hF := hio134
   refine CW_block (K_region (C_val (V_assign (v := (.int .i64 0)) (.int _ _)) ?_))
   refine au ?_
   refine CW_block (CW_loop (m := (((x127.Terms.length : Int) - 0).toNat + 2)) (fun m139 f' cs' => ∃ (g : Fr) (c136 : List Int) (c138 : Int) (v137 : Sv), f' = updL g [(1, (pz k1)), (3, v137.v), (4, (.int .i64 (k125 : Int))), (5, (.int .i64 c138))] ∧ Ent cs' [cboR k1 39 (.agg [v0_0.v, v0_1.v].toArray), crd (RdS 3 rdInt) v0_0.v a_q.Head, crd (RdS 84 rd84) v0_1.v a_q.Atoms, crd (RdS 3 rdInt) v137.v c136] ∧ s_ConstantsOf_L3 x127 m139 c136 c138 = some o134) ⟨_, _, _, v121, eqA, entA, hF⟩ ?_)
   rintro m139 _ _ ⟨g140, c136, c138, v137, rfl, hE, hF⟩
   refine K_ent hE ?_
   rcases m139 with _ | m139
   · rw [s_ConstantsOf_L3] at hF
     exact absurd hF (by simp)
   rw [s_ConstantsOf_L3] at hF
   iterate 6 refine au ?_
   refine Ai hx130 (fun k147 j148 => ?_)
   refine au ?_
   refine C_ldV (R' := (RdS 3 rdInt)) ag22.h (.tmp rfl rfl) .h lv84_1 (fun w149 => ?_)
   iterate 3 refine au ?_
   refine Ci hF (fun hb180 hF => ?_) (fun hb180 hF => ?_)
   · refine au ?_
     obtain ⟨o150, hio150, hO151⟩ := bind_some hF
     refine K_cut (fun f' cs' => ∃ (c177 : List Int) (v178 : Sv) (g : Fr), c177 = o150 ∧ f' = updL g [(1, (pz k1)), (3, v178.v), (4, (.int .i64 (k125 : Int))), (5, (.int .i64 c138))] ∧ Ent cs' [cboR k1 39 (.agg [v0_0.v, v0_1.v].toArray), crd (RdS 3 rdInt) v0_0.v a_q.Head, crd (RdS 84 rd84) v0_1.v a_q.Atoms, crd (RdS 3 rdInt) v178.v c177]) ?_ ?_
     · replace hF := hio150
       refine CW_block (K_region (C_val (V_fieldAddr (off := 1) fd39_1.h (.tmp rfl rfl)) ?_))
       iterate 2 refine au ?_
       refine Ai hx130 (fun k152 j153 => ?_)
       refine au ?_
       refine C_ldV (R' := (RdS 3 rdInt)) ag22.h (.tmp rfl rfl) .h lv84_1 (fun w154 => ?_)
       refine au ?_
       refine bnd hF fun x155 hx156 hF => ?_
       obtain ⟨hp157, hx158⟩ := ix_some hx156
       refine Ai hx158 (fun k159 j160 => ?_)
       refine Al ls3_0 ?_
       refine bnd hF fun r161 hx162 hF => Cx0 (s_l1In_ok _ _ _ _ hx162) (fun _ => ?_)
       refine au ?_
       refine Ci hF (fun hb176 hF => ?_) (fun hb176 hF => ?_)
       · iterate 5 refine au ?_
         refine Ai hx130 (fun k164 j165 => ?_)
         refine au ?_
         refine C_ldV (R' := (RdS 3 rdInt)) ag22.h (.tmp rfl rfl) .h lv84_1 (fun w166 => ?_)
         refine au ?_
         refine bnd hF fun x167 hx168 hF => ?_
         obtain ⟨hp169, hx170⟩ := ix_some hx168
         refine Ai hx170 (fun k171 j172 => ?_)
         refine Al ls3_0 ?_
         refine bnd hF fun r173 hx174 hF => Cx1 (s_l3Put_ok _ _ _ _ hx174) (fun p175 => ?_)
         iterate 2 refine au ?_
         cases hF
         exact ⟨_, p175, _, rfl, eqA, entA⟩
       refine au ?_
       cases hF
       exact ⟨_, v137, _, rfl, eqA, entA⟩
     rintro _ _ ⟨c177, v178, g179, rfl, rfl, hE⟩
     replace hF := hO151
     try dsimp only at hF
     refine K_ent hE ?_
     iterate 5 refine au ?_
     exact ⟨m139, Nat.lt_succ_self _, _, _, _, v178, eqA, entA, hF⟩
   iterate 4 refine au ?_
   cases hF
   exact ⟨_, v137, _, rfl, eqA, entA⟩
 rintro _ _ ⟨c181, v182, g184, rfl, rfl, hE⟩
 replace hF := hO135
 try dsimp only at hF
 refine K_ent hE ?_
 iterate 5 refine au ?_
 rw [wk k125]
 exact ⟨_, Nat.lt_succ_self _, _, k125 + 1, rest126, _, v182, rfl, eqA, hd131, entA, hF⟩
def s_ValueOf_L1 (a_b : Binding) (a_term : Int) : Nat → Int → Option (Int)
 | 0, _ => none
 | m6 + 1, c5 => if ((decide ((c5 : Int) < (a_b.Vars.length : Int))) && (decide ((c5 : Int) < (a_b.Values.length : Int)))) then (
     (ix a_b.Vars c5).bind fun x16 =>
     if ((x16 : Int) == a_term) then (
       (ix a_b.Values c5).bind fun x22 =>
       some x22)
     else (
       s_ValueOf_L1 a_b a_term m6 (IntKind.i64.wrap (c5 + 1))))
   else (
     some (-1))
def s_ValueOf (a_b : Binding) (a_term : Int) : Option (Int) :=
 (s_IsVar a_term).bind fun r2 =>
 if (!r2) then (
   some a_term)
 else (
   s_ValueOf_L1 a_b a_term (((a_b.Vars.length : Int) - 0).toNat + 2) 0)
theorem s_ValueOf_ok (a_b : Binding) (v0_0 : Sv) (v0_1 : Sv) (a_term : Int) (R : Int) (hF : s_ValueOf a_b a_term = some R) :
   Fw.Spec Tryz.prog 52 [(.agg [v0_0.v, v0_1.v].toArray), (.int .i64 a_term)] [crd (RdS 3 rdInt) v0_0.v a_b.Vars, crd (RdS 3 rdInt) v0_1.v a_b.Values] (fun _ : Unit => (.int .i64 R)) (fun _ => []) := by
 refine Se 36 Tryz.func52 [.tmp 4] ?_
 intro H0 F0
 unfold s_ValueOf at hF
 refine au ?_
 refine AbR (fun k1 => ?_)
 iterate 5 refine au ?_
 refine bnd hF fun r2 hx3 hF => Cx0 (s_IsVar_ok _ _ hx3) (fun _ => ?_)
 iterate 2 refine au ?_
 refine Ci hF (fun hb30 hF => ?_) (fun hb30 hF => ?_)
 · iterate 5 refine au ?_
   cases hF
   exact Er ()
 iterate 5 refine au ?_
 refine CW_block (CW_loop (m := (((a_b.Vars.length : Int) - 0).toNat + 2)) (fun m6 f' cs' => ∃ (g : Fr) (c5 : Int), f' = updL g [(1, (.int .i64 a_term)), (2, (pz k1)), (5, (.int .i64 c5))] ∧ Ent cs' [cboR k1 56 (.agg [v0_0.v, v0_1.v].toArray), crd (RdS 3 rdInt) v0_0.v a_b.Vars, crd (RdS 3 rdInt) v0_1.v a_b.Values] ∧ s_ValueOf_L1 a_b a_term m6 c5 = some R) ⟨_, _, eqA, entA, hF⟩ ?_)
 rintro m6 _ _ ⟨g7, c5, rfl, hE, hF⟩
 refine K_ent hE ?_
 rcases m6 with _ | m6
 · rw [s_ValueOf_L1] at hF
   exact absurd hF (by simp)
 rw [s_ValueOf_L1] at hF
 iterate 2 refine au ?_
 refine C_cut (fun f' cs' => ∃ (g : Fr), f' = updL g [(1, (.int .i64 a_term)), (2, (pz k1)), (5, (.int .i64 c5)), (21, (.bool ((decide ((c5 : Int) < (a_b.Vars.length : Int))) && (decide ((c5 : Int) < (a_b.Values.length : Int))))))] ∧ Ent cs' [cboR k1 56 (.agg [v0_0.v, v0_1.v].toArray), crd (RdS 3 rdInt) v0_0.v a_b.Vars, crd (RdS 3 rdInt) v0_1.v a_b.Values]) ?_ ?_
 · iterate 6 refine au ?_
   rcases Bool.eq_false_or_eq_true (decide ((c5 : Int) < (a_b.Vars.length : Int))) with hg14 | hg14
   · rw [hg14]
     try rw [hg14] at hF; dsimp only [cond_true, cond_false] at hF
     iterate 12 refine au ?_
     exact ⟨_, eqA, entA⟩
   rw [hg14]
   try rw [hg14] at hF; dsimp only [cond_true, cond_false] at hF
   iterate 7 refine au ?_
   exact ⟨_, eqA, entA⟩
 rintro _ _ ⟨g15, rfl, hE⟩
 refine K_ent hE ?_
 refine Ci hF (fun hb29 hF => ?_) (fun hb29 hF => ?_)
 · iterate 6 refine au ?_
   refine bnd hF fun x16 hx17 hF => ?_
   obtain ⟨hp18, hx19⟩ := ix_some hx17
   refine Ai hx19 (fun k20 j21 => ?_)
   refine Al ls3_0 ?_
   iterate 3 refine au ?_
   refine Ci hF (fun hb28 hF => ?_) (fun hb28 hF => ?_)
   · iterate 4 refine au ?_
     refine bnd hF fun x22 hx23 hF => ?_
     obtain ⟨hp24, hx25⟩ := ix_some hx23
     refine Ai hx25 (fun k26 j27 => ?_)
     refine Al ls3_0 ?_
     iterate 3 refine au ?_
     cases hF
     exact Er ()
   iterate 6 refine au ?_
   exact ⟨m6, Nat.lt_succ_self _, _, _, eqA, entA, hF⟩
 iterate 8 refine au ?_
 cases hF
 exact Er ()
def s_CompareFacts_L1 (a_a : Fact) (a_b : Fact) : Nat → Int → Option (Int)
 | 0, _ => none
 | m5 + 1, c4 => if ((decide ((c4 : Int) < (a_a.Values.length : Int))) && (decide ((c4 : Int) < (a_b.Values.length : Int)))) then (
     (ix a_a.Values c4).bind fun x15 =>
     (ix a_b.Values c4).bind fun x21 =>
     if (decide ((x15 : Int) < x21)) then (
       some (-1))
     else (
       (ix a_a.Values c4).bind fun x27 =>
       (ix a_b.Values c4).bind fun x33 =>
       if (decide ((x33 : Int) < x27)) then (
         some 1)
       else (
         s_CompareFacts_L1 a_a a_b m5 (IntKind.i64.wrap (c4 + 1)))))
   else (
     if (decide (((a_a.Values.length : Int) : Int) < (a_b.Values.length : Int))) then (
       some (-1))
     else (
       if (decide (((a_b.Values.length : Int) : Int) < (a_a.Values.length : Int))) then (
         some 1)
       else (
         some 0)))
def s_CompareFacts (a_a : Fact) (a_b : Fact) : Option (Int) :=
 if ((a_a.Rel : Int) != a_b.Rel) then (
   if (decide ((a_a.Rel : Int) < a_b.Rel)) then (
     some (-1))
   else (
     some 1))
 else (
   s_CompareFacts_L1 a_a a_b (((a_a.Values.length : Int) - 0).toNat + 2) 0)
theorem s_CompareFacts_ok (a_a : Fact) (v0_1 : Sv) (a_b : Fact) (v1_1 : Sv) (R : Int) (hF : s_CompareFacts a_a a_b = some R) :
   Fw.Spec Tryz.prog 81 [(.agg [(.int .i64 a_a.Rel), v0_1.v].toArray), (.agg [(.int .i64 a_b.Rel), v1_1.v].toArray)] [crd (RdS 3 rdInt) v0_1.v a_a.Values, crd (RdS 3 rdInt) v1_1.v a_b.Values] (fun _ : Unit => (.int .i64 R)) (fun _ => []) := by
 refine Se 66 Tryz.func81 [.tmp 4] ?_
 intro H0 F0
 unfold s_CompareFacts at hF
 refine au ?_
 refine AbR (fun k1 => ?_)
 refine AbR (fun k2 => ?_)
 iterate 10 refine au ?_
 refine Ci hF (fun hb44 hF => ?_) (fun hb44 hF => ?_)
 · iterate 8 refine au ?_
   refine Ci hF (fun hb3 hF => ?_) (fun hb3 hF => ?_)
   · iterate 4 refine au ?_
     cases hF
     exact Er ()
   iterate 5 refine au ?_
   cases hF
   exact Er ()
 iterate 5 refine au ?_
 refine CW_block (CW_loop (m := (((a_a.Values.length : Int) - 0).toNat + 2)) (fun m5 f' cs' => ∃ (g : Fr) (c4 : Int), f' = updL g [(2, (pz k1)), (3, (pz k2)), (5, (.int .i64 c4))] ∧ Ent cs' [cboR k1 86 (.agg [(.int .i64 a_a.Rel), v0_1.v].toArray), crd (RdS 3 rdInt) v0_1.v a_a.Values, cboR k2 86 (.agg [(.int .i64 a_b.Rel), v1_1.v].toArray), crd (RdS 3 rdInt) v1_1.v a_b.Values] ∧ s_CompareFacts_L1 a_a a_b m5 c4 = some R) ⟨_, _, eqA, entA, hF⟩ ?_)
 rintro m5 _ _ ⟨g6, c4, rfl, hE, hF⟩
 refine K_ent hE ?_
 rcases m5 with _ | m5
 · rw [s_CompareFacts_L1] at hF
   exact absurd hF (by simp)
 rw [s_CompareFacts_L1] at hF
 iterate 2 refine au ?_
 refine C_cut (fun f' cs' => ∃ (g : Fr), f' = updL g [(2, (pz k1)), (3, (pz k2)), (5, (.int .i64 c4)), (27, (.bool ((decide ((c4 : Int) < (a_a.Values.length : Int))) && (decide ((c4 : Int) < (a_b.Values.length : Int))))))] ∧ Ent cs' [cboR k1 86 (.agg [(.int .i64 a_a.Rel), v0_1.v].toArray), crd (RdS 3 rdInt) v0_1.v a_a.Values, cboR k2 86 (.agg [(.int .i64 a_b.Rel), v1_1.v].toArray), crd (RdS 3 rdInt) v1_1.v a_b.Values]) ?_ ?_
 · iterate 6 refine au ?_
   rcases Bool.eq_false_or_eq_true (decide ((c4 : Int) < (a_a.Values.length : Int))) with hg13 | hg13
   · rw [hg13]
     try rw [hg13] at hF; dsimp only [cond_true, cond_false] at hF
     iterate 12 refine au ?_
     exact ⟨_, eqA, entA⟩
   rw [hg13]
   try rw [hg13] at hF; dsimp only [cond_true, cond_false] at hF
   iterate 7 refine au ?_
   exact ⟨_, eqA, entA⟩
 rintro _ _ ⟨g14, rfl, hE⟩
 refine K_ent hE ?_
 refine Ci hF (fun hb43 hF => ?_) (fun hb43 hF => ?_)
 · iterate 3 refine au ?_
   refine K_draw [0, 1, 2, 3, 4, 5, 6, 7, 8, 9, 10] [0, 1, 0, 7, 15, 0, 32, 0, 224, 480, 1023] [] mixed (by decide +kernel) ?_
   iterate 3 refine du ?_
   refine bnd hF fun x15 hx16 hF => ?_
   obtain ⟨hp17, hx18⟩ := ix_some hx16
   refine Di hx18 (fun k19 j20 => ?_)
   refine Dl ls3_0 ?_
   iterate 3 refine du ?_
   refine bnd hF fun x21 hx22 hF => ?_
   obtain ⟨hp23, hx24⟩ := ix_some hx22
   refine Di hx24 (fun k25 j26 => ?_)
   refine Dl ls3_0 ?_
   iterate 2 refine du ?_
   refine Ci hF (fun hb40 hF => ?_) (fun hb40 hF => ?_)
   · iterate 4 refine au ?_
     cases hF
     exact Er ()
   refine au ?_
   refine K_draw [0, 1, 2, 3, 4, 5, 6, 7, 8, 9, 10] [0, 1, 0, 7, 15, 0, 32, 0, 224, 480, 1023] [] mixed (by decide +kernel) ?_
   iterate 3 refine du ?_
   refine bnd hF fun x27 hx28 hF => ?_
   obtain ⟨hp29, hx30⟩ := ix_some hx28
   refine Di hx30 (fun k31 j32 => ?_)
   refine Dl ls3_0 ?_
   iterate 3 refine du ?_
   refine bnd hF fun x33 hx34 hF => ?_
   obtain ⟨hp35, hx36⟩ := ix_some hx34
   refine Di hx36 (fun k37 j38 => ?_)
   refine Dl ls3_0 ?_
   iterate 2 refine du ?_
   refine Ci hF (fun hb39 hF => ?_) (fun hb39 hF => ?_)
   · iterate 4 refine au ?_
     cases hF
     exact Er ()
   iterate 6 refine au ?_
   exact ⟨m5, Nat.lt_succ_self _, _, _, eqA, entA, hF⟩
 iterate 14 refine au ?_
 refine Ci hF (fun hb42 hF => ?_) (fun hb42 hF => ?_)
 · iterate 4 refine au ?_
   cases hF
   exact Er ()
 iterate 11 refine au ?_
 refine Ci hF (fun hb41 hF => ?_) (fun hb41 hF => ?_)
 · iterate 4 refine au ?_
   cases hF
   exact Er ()
 iterate 5 refine au ?_
 cases hF
 exact Er ()
def s_HasFact_L1 (a_f : Fact) : List Fact → Nat → Option (Bool)
 | [], k5 => some false
 | x7 :: rest6, k5 => (s_CompareFacts x7 a_f).bind fun r17 =>
   if ((r17 : Int) == 0) then (
     some true)
   else (
     s_HasFact_L1 a_f rest6 (k5 + 1))
def s_HasFact (a_l : List Fact) (a_f : Fact) : Option (Bool) :=
 s_HasFact_L1 a_f a_l 0
theorem s_HasFact_ok (a_l : List Fact) (v0_0 : Sv) (a_f : Fact) (v1_1 : Sv) (R : Bool) (hF : s_HasFact a_l a_f = some R) :
   Fw.Spec Tryz.prog 80 [v0_0.v, (.agg [(.int .i64 a_f.Rel), v1_1.v].toArray)] [crd (RdS 86 rd86) v0_0.v a_l, crd (RdS 3 rdInt) v1_1.v a_f.Values] (fun _ : Unit => (.bool R)) (fun _ => []) := by
 refine Se 19 Tryz.func80 [.tmp 4] ?_
 intro H0 F0
 unfold s_HasFact at hF
 refine au ?_
 refine AbR (fun k1 => ?_)
 iterate 6 refine au ?_
 refine CW_block (CW_loop (m := a_l.length) (fun m3 f' cs' => ∃ (g : Fr) (k5 : Nat) (rest6 : List Fact), m3 = rest6.length ∧ f' = updL g [(0, v0_0.v), (3, (pz k1)), (5, (.int .i64 (k5 : Int)))] ∧ List.drop k5 a_l = rest6 ∧ Ent cs' [crd (RdS 86 rd86) v0_0.v a_l, cboR k1 86 (.agg [(.int .i64 a_f.Rel), v1_1.v].toArray), crd (RdS 3 rdInt) v1_1.v a_f.Values] ∧ s_HasFact_L1 a_f rest6 k5 = some R) ⟨_, 0, _, rfl, eqA, rfl, entA, hF⟩ ?_)
 rintro m3 _ _ ⟨g4, k5, rest6, rfl, rfl, hd8, hE, hF⟩
 refine Kb hE a_l (fun hbd13 => ?_)
 rcases rest6 with _ | ⟨x7, rest6⟩
 · have hk9 := dn hd8
   rw [s_HasFact_L1] at hF
   iterate 7 refine au ?_
   refine CdF ?_
   iterate 8 refine au ?_
   cases hF
   exact Er ()
 obtain ⟨hk9, hx10, hd11⟩ := drop_cons hd8
 rw [s_HasFact_L1] at hF
 iterate 7 refine au ?_
 refine CdT ?_
 iterate 2 refine au ?_
 refine K_draw [0, 1, 2, 3, 4, 5, 6] [0, 0, 3, 7, 0, 31, 63] [5] mixed (by decide +kernel) ?_
 iterate 2 refine du ?_
 refine Di hx10 (fun k14 j15 => ?_)
 refine DlA1 (ul86_0_86 x7) la86_0_86 (fun p16 => ?_)
 refine du ?_
 refine bnd hF fun r17 hx18 hF => Dx0 (s_CompareFacts_ok _ _ _ _ _ hx18) (fun _ => ?_)
 iterate 2 refine du ?_
 refine Ci hF (fun hb21 hF => ?_) (fun hb21 hF => ?_)
 · iterate 4 refine au ?_
   cases hF
   exact Er ()
 iterate 6 refine au ?_
 rw [wk k5]
 exact ⟨_, Nat.lt_succ_self _, _, k5 + 1, rest6, rfl, eqA, hd11, entA, hF⟩
def s_l2One (a_rel : Int) (a_values : List Int) : Option (Fact) :=
 (app ([] : List Int) a_values).bind fun z3 =>
 some ({ Rel := a_rel, Values := z3 } : Fact)
theorem s_l2One_ok (a_rel : Int) (a_values : List Int) (v1_0 : Sv) (R : Fact) (hF : s_l2One a_rel a_values = some R) :
   Fw.Spec Tryz.prog 82 [(.int .i64 a_rel), v1_0.v] [crd (RdS 3 rdInt) v1_0.v a_values] (fun p : Sv × List Nat => (.agg [(.int .i64 R.Rel), p.1.v].toArray)) (fun p => [cown (OwnS 3 (roE rdInt)) p.2 p.1.v R.Values]) := by
 refine Se 10 Tryz.func82 [.cell 4 86] ?_
 intro H0 F0
 unfold s_l2One at hF
 refine au ?_
 refine AnW (fun k1 => ?_)
 iterate 3 refine au ?_
 refine C_new rfl (N_buildSliceT (g := true) sl22.h ty3.h .nil (vs := []) rfl rfl rfl (by simp)) (fun k2 => ?_)
 refine Cv1 (.cons .h .nil) (own_lit (Ro := (roE rdInt)) (E := 3) (F := []) (xs := ([] : List Int)) MkL_nil rfl rfl) ?_
 refine au ?_
 refine bnd hF fun z3 hx4 hF => C_x1 (.cons .h (.rd (.t .h) rfl .nil)) (X_appendO (Ro := (roE rdInt)) sl22.h ni22 ty3.h rfl rfl rfl (.tmp rfl rfl) (.tmp rfl rfl) hx4 src_rd) (fun p5 => ?_)
 refine C_val (V_build ty86.h rfl (vs := [(.int .i64 a_rel), p5.1.v]) (.cons (.tmp rfl rfl) (.cons (.tmp rfl rfl) .nil)) (cells := [(.int .i64 a_rel), p5.1.v]) rfl) ?_
 refine As (.agg [(.int .i64 a_rel), p5.1.v].toArray) ?_
 iterate 2 refine au ?_
 cases hF
 exact Er (p5.1, p5.2)
def s_AddFact_L1 (a_f : Fact) : List Fact → Nat → (List Fact) → Bool → Option ((List Fact))
 | [], k13, c6, c9 => if (!c9) then (
     (s_l2One a_f.Rel a_f.Values).bind fun r22 =>
     (app c6 ([r22] : List Fact)).bind fun z26 =>
     some z26)
   else (
     some c6)
 | x15 :: rest14, k13, c6, c9 => ((bif (!c9) then ((s_CompareFacts a_f x15).bind fun r38 =>
         some (decide ((r38 : Int) < 0)))
       else (some false)).bind fun o32 =>
     match o32 with
     | c41 => if c41 then (
         (s_l2One a_f.Rel a_f.Values).bind fun r42 =>
         (app c6 ([r42] : List Fact)).bind fun z46 =>
         (s_l2One x15.Rel x15.Values).bind fun r54 =>
         (app z46 ([r54] : List Fact)).bind fun z58 =>
         some (z58, true))
       else (
         (s_l2One x15.Rel x15.Values).bind fun r66 =>
         (app c6 ([r66] : List Fact)).bind fun z70 =>
         some (z70, c9))).bind fun o30 =>
   match o30 with
   | (c75, c78) => s_AddFact_L1 a_f rest14 (k13 + 1) c75 c78
def s_AddFact (a_l : List Fact) (a_f : Fact) : Option ((List Fact)) :=
 (s_HasFact a_l a_f).bind fun r3 =>
 s_AddFact_L1 a_f a_l 0 ([] : List Fact) r3
theorem s_AddFact_ok (a_l : List Fact) (v0_0 : Sv) (a_f : Fact) (v1_1 : Sv) (R : (List Fact)) (hF : s_AddFact a_l a_f = some R) :
   Fw.Spec Tryz.prog 53 [v0_0.v, (.agg [(.int .i64 a_f.Rel), v1_1.v].toArray)] [crd (RdS 86 rd86) v0_0.v a_l, crd (RdS 3 rdInt) v1_1.v a_f.Values] (fun p : Sv × List Nat => p.1.v) (fun p => [cown (OwnS 86 ow86) p.2 p.1.v R]) := by
 refine Se 62 Tryz.func53 [.tmp 4] ?_
 intro H0 F0
 unfold s_AddFact at hF
 refine au ?_
 refine AbR (fun k1 => ?_)
 iterate 3 refine au ?_
 refine C_new rfl (N_buildSliceT (g := true) sl29.h ty86.h .nil (vs := []) rfl rfl rfl (by simp)) (fun k2 => ?_)
 refine Cv1 (.cons .h .nil) (own_lit (Ro := ow86) (E := 86) (F := []) (xs := ([] : List Fact)) MkL_nil rfl rfl) ?_
 iterate 5 refine au ?_
 refine bnd hF fun r3 hx4 hF => Cx0 (s_HasFact_ok _ _ _ _ _ hx4) (fun _ => ?_)
 iterate 6 refine au ?_
 refine CW_block (CW_loop (m := a_l.length) (fun m11 f' cs' => ∃ (g : Fr) (k13 : Nat) (rest14 : List Fact) (c6 : List Fact) (c9 : Bool) (v7 : Sv) (F8 : List Nat), m11 = rest14.length ∧ f' = updL g [(0, v0_0.v), (3, (pz k1)), (5, v7.v), (6, (.bool c9)), (7, (.int .i64 (k13 : Int)))] ∧ List.drop k13 a_l = rest14 ∧ Ent cs' [crd (RdS 86 rd86) v0_0.v a_l, cboR k1 86 (.agg [(.int .i64 a_f.Rel), v1_1.v].toArray), crd (RdS 3 rdInt) v1_1.v a_f.Values, cown (OwnS 86 ow86) F8 v7.v c6] ∧ s_AddFact_L1 a_f rest14 k13 c6 c9 = some R) ⟨_, 0, _, _, _, ⟨(some ⟨k2, 0, none⟩), 0, 1⟩, (k2 :: []), rfl, eqA, rfl, entA, hF⟩ ?_)
 rintro m11 _ _ ⟨g12, k13, rest14, c6, c9, v7, F8, rfl, rfl, hd16, hE, hF⟩
 refine Kb hE a_l (fun hbd21 => ?_)
 rcases rest14 with _ | ⟨x15, rest14⟩
 · have hk17 := dn hd16
   rw [s_AddFact_L1] at hF
   iterate 7 refine au ?_
   refine CdF ?_
   iterate 9 refine au ?_
   refine Ci hF (fun hb29 hF => ?_) (fun hb29 hF => ?_)
   · iterate 6 refine au ?_
     refine bnd hF fun r22 hx23 hF => Cx1 (s_l2One_ok _ _ _ _ hx23) (fun p24 => ?_)
     refine C_new rfl (N_buildSliceT (g := true) sl29.h ty86.h (.cons (.tmp rfl rfl) .nil) (vs := [(.agg [(.int .i64 r22.Rel), p24.1.v].toArray)]) rfl rfl rfl (by intro v hv; simp at hv; rcases hv with rfl <;> rfl)) (fun k25 => ?_)
     refine Cv1 (.cons .h (.cons .h .nil)) (own_lit (Ro := ow86) (E := 86) (F := (p24.2 ++ [])) (xs := ([r22] : List Fact)) (MkL_cons mk86 MkL_nil apps) rfl rfl) ?_
     refine bnd hF fun z26 hx27 hF => C_x1 (.cons (.t (.t (.t (.t .h)))) (.cons .h .nil)) (X_appendO (Ro := ow86) sl29.h ni29 ty86.h rfl rfl rfl (.tmp rfl rfl) (.tmp rfl rfl) hx27 src_own) (fun p28 => ?_)
     iterate 7 refine au ?_
     cases hF
     exact Er (p28.1, p28.2)
   iterate 6 refine au ?_
   cases hF
   exact Er (v7, F8)
 obtain ⟨hk17, hx18, hd19⟩ := drop_cons hd16
 rw [s_AddFact_L1] at hF
 iterate 7 refine au ?_
 refine CdT ?_
 refine au ?_
 obtain ⟨o30, hio30, hO31⟩ := bind_some hF
 refine K_cut (fun f' cs' => ∃ (c75 : List Fact) (c78 : Bool) (v76 : Sv) (F77 : List Nat) (g : Fr), o30 = (c75, c78) ∧ f' = updL g [(0, v0_0.v), (3, (pz k1)), (5, v76.v), (6, (.bool c78)), (7, (.int .i64 (k13 : Int)))] ∧ Ent cs' [crd (RdS 86 rd86) v0_0.v a_l, cboR k1 86 (.agg [(.int .i64 a_f.Rel), v1_1.v].toArray), crd (RdS 3 rdInt) v1_1.v a_f.Values, cown (OwnS 86 ow86) F77 v76.v c75]) ?_ ?_
 · replace hF := hio30
   refine CW_block (K_in ?_)
   obtain ⟨o32, hio32, hO33⟩ := bind_some hF
   refine K_draw [0, 1, 2, 3, 4, 5, 6, 7, 8, 9, 10] [0, 1, 3, 7, 7, 7, 55, 119, 255, 511, 1023] [8] mixed (by decide +kernel) ?_
   refine D_cut (fun f' cs' => ∃ (c41 : Bool) (g : Fr), c41 = o32 ∧ f' = updL g [(0, v0_0.v), (3, (pz k1)), (5, v7.v), (6, (.bool c9)), (7, (.int .i64 (k13 : Int))), (28, (.bool c41))] ∧ Ent cs' [crd (RdS 86 rd86) v0_0.v a_l, cboR k1 86 (.agg [(.int .i64 a_f.Rel), v1_1.v].toArray), crd (RdS 3 rdInt) v1_1.v a_f.Values, cown (OwnS 86 ow86) F8 v7.v c6]) ?_ ?_
   · replace hF := hio32
     iterate 3 refine du ?_
     rcases Bool.eq_false_or_eq_true (!c9) with hg34 | hg34
     · rw [hg34]
       try rw [hg34] at hF; dsimp only [cond_true, cond_false] at hF
       iterate 3 refine du ?_
       refine Di hx18 (fun k35 j36 => ?_)
       refine DlA1 (ul86_0_86 x15) la86_0_86 (fun p37 => ?_)
       refine bnd hF fun r38 hx39 hF => Dx0 (s_CompareFacts_ok _ _ _ _ _ hx39) (fun _ => ?_)
       iterate 3 refine du ?_
       cases hF
       exact ⟨_, _, rfl, eqA, entA⟩
     rw [hg34]
     try rw [hg34] at hF; dsimp only [cond_true, cond_false] at hF
     iterate 9 refine du ?_
     cases hF
     exact ⟨_, _, rfl, eqA, entA⟩
   rintro _ _ ⟨c41, g74, rfl, rfl, hE⟩
   replace hF := hO33
   try dsimp only at hF
   refine K_ent hE ?_
   refine Ci hF (fun hb73 hF => ?_) (fun hb73 hF => ?_)
   · iterate 6 refine au ?_
     refine bnd hF fun r42 hx43 hF => Cx1 (s_l2One_ok _ _ _ _ hx43) (fun p44 => ?_)
     refine C_new rfl (N_buildSliceT (g := true) sl29.h ty86.h (.cons (.tmp rfl rfl) .nil) (vs := [(.agg [(.int .i64 r42.Rel), p44.1.v].toArray)]) rfl rfl rfl (by intro v hv; simp at hv; rcases hv with rfl <;> rfl)) (fun k45 => ?_)
     refine Cv1 (.cons .h (.cons .h .nil)) (own_lit (Ro := ow86) (E := 86) (F := (p44.2 ++ [])) (xs := ([r42] : List Fact)) (MkL_cons mk86 MkL_nil apps) rfl rfl) ?_
     refine bnd hF fun z46 hx47 hF => C_x1 (.cons (.t (.t (.t (.t .h)))) (.cons .h .nil)) (X_appendO (Ro := ow86) sl29.h ni29 ty86.h rfl rfl rfl (.tmp rfl rfl) (.tmp rfl rfl) hx47 src_own) (fun p48 => ?_)
     iterate 5 refine au ?_
     refine CW_draw [0, 1, 2, 3, 4, 5, 6, 7, 8, 9, 10, 11, 12, 13, 14] [0, 0, 0, 6, 14, 30, 0, 0, 192, 448, 960, 2046, 4094, 8191, 16383] [11, 13] mixed (by decide +kernel) ?_
     iterate 3 refine du ?_
     refine Di hx18 (fun k49 j50 => ?_)
     refine du ?_
     refine Dl ls86_0 ?_
     iterate 2 refine du ?_
     refine Di hx18 (fun k51 j52 => ?_)
     refine du ?_
     refine D_ldV (R' := (RdS 3 rdInt)) ag22.h rfl .no (.tmp rfl rfl) rfl .h lv86_1 (fun w53 => ?_)
     refine bnd hF fun r54 hx55 hF => Dx1 (s_l2One_ok _ _ _ _ hx55) (fun p56 => ?_)
     refine D_new rfl .no rfl (fun ha => N_buildSliceT (g := true) (len := 1) (parts := [(0, .tmp 48)]) sl29.h ty86.h (.cons (EN ha (.tmp rfl rfl) rfl) .nil) (vs := [(.agg [(.int .i64 r54.Rel), p56.1.v].toArray)]) rfl rfl rfl (by intro v hv; simp at hv; rcases hv with rfl <;> rfl)) (fun k57 => ?_)
     refine Dv1 (.cons .h (.cons .h .nil)) (own_lit (Ro := ow86) (E := 86) (F := (p56.2 ++ [])) (xs := ([r54] : List Fact)) (MkL_cons mk86 MkL_nil apps) rfl rfl) ?_
     refine bnd hF fun z58 hx59 hF => D_act1 rfl rfl .no (.cons (.t (.t (.t (.t .h)))) (.cons .h .nil)) (.dep rfl .nil) (fun ha => X_appendO (Ro := ow86) sl29.h ni29 ty86.h rfl rfl rfl (EN ha (.tmp rfl rfl) rfl) (EN ha (.tmp rfl rfl) rfl) hx59 src_own) (fun p60 => ?_)
     iterate 2 refine du ?_
     cases hF
     exact ⟨_, _, p60.1, p60.2, _, rfl, eqA, entA⟩
   refine au ?_
   refine CW_draw [0, 1, 2, 3, 4, 5, 6, 7, 8, 9, 10, 11, 12, 13, 14] [0, 0, 0, 6, 14, 30, 0, 0, 192, 448, 960, 2046, 4094, 8191, 16383] [11, 13] mixed (by decide +kernel) ?_
   iterate 3 refine du ?_
   refine Di hx18 (fun k61 j62 => ?_)
   refine du ?_
   refine Dl ls86_0 ?_
   iterate 2 refine du ?_
   refine Di hx18 (fun k63 j64 => ?_)
   refine du ?_
   refine D_ldV (R' := (RdS 3 rdInt)) ag22.h rfl .no (.tmp rfl rfl) rfl .h lv86_1 (fun w65 => ?_)
   refine bnd hF fun r66 hx67 hF => Dx1 (s_l2One_ok _ _ _ _ hx67) (fun p68 => ?_)
   refine D_new rfl .no rfl (fun ha => N_buildSliceT (g := true) (len := 1) (parts := [(0, .tmp 48)]) sl29.h ty86.h (.cons (EN ha (.tmp rfl rfl) rfl) .nil) (vs := [(.agg [(.int .i64 r66.Rel), p68.1.v].toArray)]) rfl rfl rfl (by intro v hv; simp at hv; rcases hv with rfl <;> rfl)) (fun k69 => ?_)
   refine Dv1 (.cons .h (.cons .h .nil)) (own_lit (Ro := ow86) (E := 86) (F := (p68.2 ++ [])) (xs := ([r66] : List Fact)) (MkL_cons mk86 MkL_nil apps) rfl rfl) ?_
   refine bnd hF fun z70 hx71 hF => D_act1 rfl rfl .no (.cons (.t (.t (.t (.t (.t (.t (.t .h))))))) (.cons .h .nil)) (.dep rfl .nil) (fun ha => X_appendO (Ro := ow86) sl29.h ni29 ty86.h rfl rfl rfl (EN ha (.tmp rfl rfl) rfl) (EN ha (.tmp rfl rfl) rfl) hx71 src_own) (fun p72 => ?_)
   iterate 2 refine du ?_
   cases hF
   exact ⟨_, _, p72.1, p72.2, _, rfl, eqA, entA⟩
 rintro _ _ ⟨c75, c78, v76, F77, g80, rfl, rfl, hE⟩
 replace hF := hO31
 try dsimp only at hF
 refine K_ent hE ?_
 iterate 5 refine au ?_
 rw [wk k13]
 exact ⟨_, Nat.lt_succ_self _, _, k13 + 1, rest14, _, _, v76, F77, rfl, eqA, hd19, entA, hF⟩
def s_l4Bind (a_b : Binding) (a_v : Int) (a_x : Int) : Option (Binding) :=
 (app ([] : List Int) a_b.Vars).bind fun z7 =>
 (app z7 ([a_v] : List Int)).bind fun z10 =>
 (app ([] : List Int) a_b.Values).bind fun z13 =>
 (app z13 ([a_x] : List Int)).bind fun z16 =>
 some ({ Vars := z10, Values := z16 } : Binding)
theorem s_l4Bind_ok (a_b : Binding) (v0_0 : Sv) (v0_1 : Sv) (a_v : Int) (a_x : Int) (R : Binding) (hF : s_l4Bind a_b a_v a_x = some R) :
   Fw.Spec Tryz.prog 51 [(.agg [v0_0.v, v0_1.v].toArray), (.int .i64 a_v), (.int .i64 a_x)] [crd (RdS 3 rdInt) v0_0.v a_b.Vars, crd (RdS 3 rdInt) v0_1.v a_b.Values] (fun p : Sv × List Nat × Sv × List Nat => (.agg [p.1.v, p.2.2.1.v].toArray)) (fun p => [cown (OwnS 3 (roE rdInt)) p.2.1 p.1.v R.Vars, cown (OwnS 3 (roE rdInt)) p.2.2.2 p.2.2.1.v R.Values]) := by
 refine Se 22 Tryz.func51 [.cell 6 56] ?_
 intro H0 F0
 unfold s_l4Bind at hF
 refine au ?_
 refine AbR (fun k1 => ?_)
 refine AnW (fun k2 => ?_)
 refine au ?_
 refine K_draw [0, 1, 2, 4, 5, 7, 8, 9, 11, 12, 3, 6, 10, 13, 14, 15] [0, 0, 2, 7, 0, 16, 63, 0, 0, 256, 1023, 0, 2048, 8191, 16383, 32767] [3, 6, 10, 13, 15] mixed (by decide +kernel) ?_
 refine D_new rfl .no rfl (fun ha => N_buildSliceT (g := true) (len := 0) (parts := []) sl22.h ty3.h .nil (vs := []) rfl rfl rfl (by simp)) (fun k3 => ?_)
 refine Dv1 (.cons .h .nil) (own_lit (Ro := (roE rdInt)) (E := 3) (F := []) (xs := ([] : List Int)) MkL_nil rfl rfl) ?_
 iterate 3 refine du ?_
 refine D_new rfl .no rfl (fun ha => N_buildSliceT (g := true) (len := 1) (parts := [(0, .tmp 11)]) sl22.h ty3.h (.cons (EN ha (.tmp rfl rfl) rfl) .nil) (vs := [(.int .i64 a_v)]) rfl rfl rfl (by intro v hv; simp at hv; rcases hv with rfl <;> rfl)) (fun k4 => ?_)
 refine Dv1 (.cons .h .nil) (own_lit (Ro := (roE rdInt)) (E := 3) (F := ([] ++ [])) (xs := ([a_v] : List Int)) (MkL_cons (Mk_pure (fun _ => rfl)) MkL_nil apps) rfl rfl) ?_
 refine D_new rfl .no rfl (fun ha => N_buildSliceT (g := true) (len := 0) (parts := []) sl22.h ty3.h .nil (vs := []) rfl rfl rfl (by simp)) (fun k5 => ?_)
 refine Dv1 (.cons .h .nil) (own_lit (Ro := (roE rdInt)) (E := 3) (F := []) (xs := ([] : List Int)) MkL_nil rfl rfl) ?_
 iterate 3 refine du ?_
 refine D_new rfl .no rfl (fun ha => N_buildSliceT (g := true) (len := 1) (parts := [(0, .tmp 18)]) sl22.h ty3.h (.cons (EN ha (.tmp rfl rfl) rfl) .nil) (vs := [(.int .i64 a_x)]) rfl rfl rfl (by intro v hv; simp at hv; rcases hv with rfl <;> rfl)) (fun k6 => ?_)
 refine Dv1 (.cons .h .nil) (own_lit (Ro := (roE rdInt)) (E := 3) (F := ([] ++ [])) (xs := ([a_x] : List Int)) (MkL_cons (Mk_pure (fun _ => rfl)) MkL_nil apps) rfl rfl) ?_
 refine bnd hF fun z7 hx8 hF => D_act1 rfl rfl .no (.cons (.t (.t (.t .h))) (.rd (.t (.t (.t (.t (.t .h))))) rfl .nil)) (.own .h (by simp [cown]) (.own (.t .h) (by simp [cown]) (.own (.t (.t .h)) (by simp [cown]) (.dep rfl .nil)))) (fun ha => X_appendO (Ro := (roE rdInt)) sl22.h ni22 ty3.h rfl rfl rfl (EN ha (.tmp rfl rfl) rfl) (EN ha (.tmp rfl rfl) rfl) hx8 src_rd) (fun p9 => ?_)
 refine bnd hF fun z10 hx11 hF => D_act1 rfl rfl .no (.cons .h (.cons (.t (.t .h)) .nil)) (.own .h (by simp [cown]) (.own (.t .h) (by simp [cown]) (.dep rfl (.dep rfl .nil)))) (fun ha => X_appendO (Ro := (roE rdInt)) sl22.h ni22 ty3.h rfl rfl rfl (EN ha (.tmp rfl rfl) rfl) (EN ha (.tmp rfl rfl) rfl) hx11 src_own) (fun p12 => ?_)
 refine bnd hF fun z13 hx14 hF => D_act1 rfl rfl .no (.cons (.t (.t .h)) (.rd (.t (.t (.t (.t (.t .h))))) rfl .nil)) (.own (.t .h) (by simp [cown]) (.dep rfl (.dep rfl (.dep rfl .nil)))) (fun ha => X_appendO (Ro := (roE rdInt)) sl22.h ni22 ty3.h rfl rfl rfl (EN ha (.tmp rfl rfl) rfl) (EN ha (.tmp rfl rfl) rfl) hx14 src_rd) (fun p15 => ?_)
 refine bnd hF fun z16 hx17 hF => D_act1 rfl rfl .no (.cons .h (.cons (.t .h) .nil)) (.dep rfl (.dep rfl (.dep rfl (.dep rfl .nil)))) (fun ha => X_appendO (Ro := (roE rdInt)) sl22.h ni22 ty3.h rfl rfl rfl (EN ha (.tmp rfl rfl) rfl) (EN ha (.tmp rfl rfl) rfl) hx17 src_own) (fun p18 => ?_)
 refine D_val rfl .no (fun ha => V_build ty56.h rfl (vs := [p12.1.v, p18.1.v]) (.cons (EN ha (.tmp rfl rfl) rfl) (.cons (EN ha (.tmp rfl rfl) rfl) .nil)) (cells := [p12.1.v, p18.1.v]) rfl) ?_
 refine D_act1 rfl rfl .no (.cons (.t (.t .h)) .nil) (.dep rfl (.dep rfl (.dep rfl (.dep rfl .nil)))) (fun ha => X_storeB (e' := (.agg [p12.1.v, p18.1.v].toArray)) (v := (.agg [p12.1.v, p18.1.v].toArray)) ty56.h.sz (EN ha (.tmp rfl rfl) rfl) (EN ha (.tmp rfl rfl) rfl) rfl rfl rfl rfl rfl) (fun _ => ?_)
 refine du ?_
 refine au ?_
 cases hF
 exact Er (p12.1, p12.2, p18.1, p18.2)
def s_FreezeQuery_L6 (c145 : List Int) (c148 : List Int) (c165 : List Fact) (x173 : Atom) : Nat → (List Int) → Int → Option ((List Fact))
 | 0, _, _ => none
 | m217 + 1, c213, c216 => if (decide ((c216 : Int) < (x173.Terms.length : Int))) then (
     (ix x173.Terms c216).bind fun x231 =>
     (s_ValueOf ({ Vars := c145, Values := c148 } : Binding) x231).bind fun r237 =>
     (app c213 ([r237] : List Int)).bind fun z241 =>
     s_FreezeQuery_L6 c145 c148 c165 x173 m217 z241 (IntKind.i64.wrap (c216 + 1)))
   else (
     (s_AddFact c165 ({ Rel := x173.Rel, Values := c213 } : Fact)).bind fun r244 =>
     some r244)
def s_FreezeQuery_L5 (c145 : List Int) (c148 : List Int) : List Atom → Nat → (List Fact) → Option ((List Fact) × Binding × Bool)
 | [], k171, c165 => some (c165, ({ Vars := c145, Values := c148 } : Binding), true)
 | x173 :: rest172, k171, c165 => (s_FreezeQuery_L6 c145 c148 c165 x173 (((x173.Terms.length : Int) - 0).toNat + 2) ([] : List Int) 0).bind fun o180 =>
   match o180 with
   | c248 => s_FreezeQuery_L5 c145 c148 rest172 (k171 + 1) c248
def s_FreezeQuery_L7 (r3 : (List Int)) : Nat → Int → Option (Int)
 | 0, _ => none
 | m258 + 1, c257 => (s_l2Has r3 c257).bind fun r266 =>
   if r266 then (
     s_FreezeQuery_L7 r3 m258 (IntKind.i64.wrap (c257 + 1)))
   else (
     some c257)
def s_FreezeQuery_L1 (a_q : Query) (r3 : (List Int)) (fuel : Nat) : List Int → Nat → (List Int) → (List Int) → Int → Option ((List Fact) × Binding × Bool)
 | [], k155, c145, c148, c151 => s_FreezeQuery_L5 c145 c148 a_q.Atoms 0 ([] : List Fact)
 | x157 :: rest156, k155, c145, c148, c151 => (((s_FreezeQuery_L7 r3 fuel c151).bind fun o255 =>
     match o255 with
     | c270 => if (decide ((9 : Int) < c270)) then (
         some (.inl (([] : List Fact), ({ Vars := [], Values := [] } : Binding), false)))
       else (
         (s_l4Bind ({ Vars := c145, Values := c148 } : Binding) x157 c270).bind fun r274 =>
         some (.inr (r274.Vars, r274.Values, (IntKind.i64.wrap (c270 + 1)))))) : Option (Sum ((List Fact) × Binding × Bool) ((List Int) × (List Int) × Int))).bind fun o253 =>
   match o253 with
   | .inl r => some r
   | .inr (c279, c282, c285) => s_FreezeQuery_L1 a_q r3 fuel rest156 (k155 + 1) c279 c282 c285
def s_FreezeQuery (fuel : Nat) (a_q : Query) : Option ((List Fact) × Binding × Bool) :=
 (s_ConstantsOf a_q).bind fun r3 =>
 (s_VarsOf a_q).bind fun r6 =>
 s_FreezeQuery_L1 a_q r3 fuel r6 0 ([] : List Int) ([] : List Int) 0
theorem s_FreezeQuery_ok (fuel : Nat) (a_q : Query) (v0_0 : Sv) (v0_1 : Sv) (R : (List Fact) × Binding × Bool) (hF : s_FreezeQuery fuel a_q = some R) :
   Fw.Spec Tryz.prog 25 [(.agg [v0_0.v, v0_1.v].toArray)] [crd (RdS 3 rdInt) v0_0.v a_q.Head, crd (RdS 84 rd84) v0_1.v a_q.Atoms] (fun p : Sv × List Nat × Sv × List Nat × Sv × List Nat => (.tuple [p.1.v, (.agg [p.2.2.1.v, p.2.2.2.2.1.v].toArray), (.bool R.2.2)].toArray)) (fun p => [cown (OwnS 86 ow86) p.2.1 p.1.v R.1, cown (OwnS 3 (roE rdInt)) p.2.2.2.1 p.2.2.1.v R.2.1.Vars, cown (OwnS 3 (roE rdInt)) p.2.2.2.2.2 p.2.2.2.2.1.v R.2.1.Values]) := by
 refine Se 90 Tryz.func25 [.tmp 2, .cell 3 56, .tmp 4] ?_
 intro H0 F0
 unfold s_FreezeQuery at hF
 refine au ?_
 refine AbR (fun k1 => ?_)
 refine au ?_
 refine AnW (fun k2 => ?_)
 iterate 4 refine au ?_
 refine bnd hF fun r3 hx4 hF => Cx1 (s_ConstantsOf_ok _ _ _ _ hx4) (fun p5 => ?_)
 iterate 4 refine au ?_
 refine bnd hF fun r6 hx7 hF => Cx1 (s_VarsOf_ok _ _ _ _ hx7) (fun p8 => ?_)
 iterate 3 refine au ?_
 refine C_val (V_build ty56.h rfl (vs := []) .nil (cells := [(.slice none 0 0), (.slice none 0 0)]) rfl) ?_
 refine AnW (fun k9 => ?_)
 refine As (.agg [(.slice none 0 0), (.slice none 0 0)].toArray) ?_
 iterate 8 refine au ?_
 refine CW_block (CW_loop (m := r6.length) (fun m153 f' cs' => ∃ (g : Fr) (k155 : Nat) (rest156 : List Int) (c145 : List Int) (c148 : List Int) (c151 : Int) (v146 : Sv) (F147 : List Nat) (v149 : Sv) (F150 : List Nat), m153 = rest156.length ∧ f' = updL g [(1, (pz k1)), (3, (pz k2)), (5, p5.v), (6, p8.v), (7, (pz k9)), (8, (.int .i64 c151)), (9, (.int .i64 (k155 : Int)))] ∧ List.drop k155 r6 = rest156 ∧ Ent cs' [cboR k1 39 (.agg [v0_0.v, v0_1.v].toArray), crd (RdS 3 rdInt) v0_0.v a_q.Head, crd (RdS 84 rd84) v0_1.v a_q.Atoms, cbox k2 56 (.agg [(.slice none 0 0), (.slice none 0 0)].toArray), crd (RdS 3 rdInt) p5.v r3, crd (RdS 3 rdInt) p8.v r6, cbox k9 56 (.agg [v146.v, v149.v].toArray), cown (OwnS 3 (roE rdInt)) F147 v146.v c145, cown (OwnS 3 (roE rdInt)) F150 v149.v c148] ∧ s_FreezeQuery_L1 a_q r3 fuel rest156 k155 c145 c148 c151 = some R) ⟨_, 0, _, _, _, _, ⟨none, 0, 0⟩, [], ⟨none, 0, 0⟩, [], rfl, eqA, rfl, (.conv .nil (own_nil (Ro := (roE rdInt)) (E := 3)) (.cons .nil) (.conv .nil (own_nil (Ro := (roE rdInt)) (E := 3)) (.cons .nil) entA)), hF⟩ ?_)
 rintro m153 _ _ ⟨g154, k155, rest156, c145, c148, c151, v146, F147, v149, F150, rfl, rfl, hd158, hE, hF⟩
 refine Kb hE r6 (fun hbd163 => ?_)
 rcases rest156 with _ | ⟨x157, rest156⟩
 · have hk159 := dn hd158
   rw [s_FreezeQuery_L1] at hF
   iterate 7 refine au ?_
   refine CdF ?_
   iterate 5 refine au ?_
   refine C_new rfl (N_buildSliceT (g := true) sl29.h ty86.h .nil (vs := []) rfl rfl rfl (by simp)) (fun k164 => ?_)
   refine Cv1 (.cons .h .nil) (own_lit (Ro := ow86) (E := 86) (F := []) (xs := ([] : List Fact)) MkL_nil rfl rfl) ?_
   iterate 6 refine au ?_
   refine CW_block (CW_loop (m := a_q.Atoms.length) (fun m169 f' cs' => ∃ (g : Fr) (k171 : Nat) (rest172 : List Atom) (c165 : List Fact) (v166 : Sv) (F167 : List Nat), m169 = rest172.length ∧ f' = updL g [(1, (pz k1)), (3, (pz k2)), (7, (pz k9)), (10, v166.v), (11, (.int .i64 (k171 : Int)))] ∧ List.drop k171 a_q.Atoms = rest172 ∧ Ent cs' [cboR k1 39 (.agg [v0_0.v, v0_1.v].toArray), crd (RdS 3 rdInt) v0_0.v a_q.Head, crd (RdS 84 rd84) v0_1.v a_q.Atoms, cbox k2 56 (.agg [(.slice none 0 0), (.slice none 0 0)].toArray), cbox k9 56 (.agg [v146.v, v149.v].toArray), cown (OwnS 3 (roE rdInt)) F147 v146.v c145, cown (OwnS 3 (roE rdInt)) F150 v149.v c148, cown (OwnS 86 ow86) F167 v166.v c165] ∧ s_FreezeQuery_L5 c145 c148 rest172 k171 c165 = some R) ⟨_, 0, _, _, ⟨(some ⟨k164, 0, none⟩), 0, 1⟩, (k164 :: []), rfl, eqA, rfl, entA, hF⟩ ?_)
   rintro m169 _ _ ⟨g170, k171, rest172, c165, v166, F167, rfl, rfl, hd174, hE, hF⟩
   refine Kb hE a_q.Atoms (fun hbd179 => ?_)
   rcases rest172 with _ | ⟨x173, rest172⟩
   · have hk175 := dn hd174
     rw [s_FreezeQuery_L5] at hF
     iterate 8 refine au ?_
     refine CdF ?_
     iterate 4 refine au ?_
     refine K_draw [0, 1, 2, 3, 4] [0, 0, 1, 7, 15] [3] mixed (by decide +kernel) ?_
     refine du ?_
     refine D_atO rfl .no (.t (.t (.t (.t .h)))) (fun ha hp => V_loadBox ag56.h ty56.h.sz rfl (EN ha (.tmp rfl rfl) rfl) hp.2 rfl) ?_
     refine du ?_
     refine D_act1 rfl rfl .no (.cons (.t (.t (.t .h))) .nil) (.dep rfl .nil) (fun ha => X_storeB (e' := (.agg [v146.v, v149.v].toArray)) (v := (.agg [v146.v, v149.v].toArray)) ty56.h.sz (EN ha (.tmp rfl rfl) rfl) (EN ha (.tmp rfl rfl) rfl) rfl rfl rfl rfl rfl) (fun _ => ?_)
     iterate 2 refine du ?_
     refine au ?_
     cases hF
     exact End_ret (v166, F167, v146, F147, v149, F150) (.tmp rfl rfl (.cellA rfl rfl .h rfl ag56.h ty56.h.sz rfl rfl (.tmp rfl rfl .nil))) rfl (.sel (.cons (.t (.t (.t (.t (.t (.t (.t .h))))))) (.cons (.t (.t (.t (.t (.t .h))))) (.cons (.t (.t (.t (.t (.t .h))))) .nil))))
   obtain ⟨hk175, hx176, hd177⟩ := drop_cons hd174
   rw [s_FreezeQuery_L5] at hF
   iterate 8 refine au ?_
   refine CdT ?_
   refine au ?_
   obtain ⟨o180, hio180, hO181⟩ := bind_some hF
   refine K_cut (fun f' cs' => ∃ (c248 : List Fact) (v249 : Sv) (F250 : List Nat) (g : Fr), c248 = o180 ∧ f' = updL g [(1, (pz k1)), (3, (pz k2)), (7, (pz k9)), (10, v249.v), (11, (.int .i64 (k171 : Int)))] ∧ Ent cs' [cboR k1 39 (.agg [v0_0.v, v0_1.v].toArray), crd (RdS 3 rdInt) v0_0.v a_q.Head, crd (RdS 84 rd84) v0_1.v a_q.Atoms, cbox k2 56 (.agg [(.slice none 0 0), (.slice none 0 0)].toArray), cbox k9 56 (.agg [v146.v, v149.v].toArray), cown (OwnS 3 (roE rdInt)) F147 v146.v c145, cown (OwnS 3 (roE rdInt)) F150 v149.v c148, cown (OwnS 86 ow86) F250 v249.v c248]) ?_ ?_
   · replace hF := hio180
     refine CW_block (K_region (C_val (V_fieldAddr (off := 1) fd39_1.h (.tmp rfl rfl)) ?_))
     iterate 2 refine au ?_
     refine Ai hx176 (fun k182 j183 => ?_)
     refine au ?_
     refine Al ls84_0 ?_
     refine C_val (V_build ty86.h rfl (vs := [(.int .i64 x173.Rel)]) (.cons (.tmp rfl rfl) .nil) (cells := [(.int .i64 x173.Rel), (.slice none 0 0)]) rfl) ?_
     refine AnW (fun k184 => ?_)
     refine As (.agg [(.int .i64 x173.Rel), (.slice none 0 0)].toArray) ?_
     iterate 5 refine au ?_
     refine CW_block (CW_loop (m := (((x173.Terms.length : Int) - 0).toNat + 2)) (fun m217 f' cs' => ∃ (g : Fr) (c213 : List Int) (c216 : Int) (v214 : Sv) (F215 : List Nat), f' = updL g [(1, (pz k1)), (3, (pz k2)), (7, (pz k9)), (10, v166.v), (11, (.int .i64 (k171 : Int))), (12, (pz k184)), (13, (.int .i64 c216))] ∧ Ent cs' [cboR k1 39 (.agg [v0_0.v, v0_1.v].toArray), crd (RdS 3 rdInt) v0_0.v a_q.Head, crd (RdS 84 rd84) v0_1.v a_q.Atoms, cbox k2 56 (.agg [(.slice none 0 0), (.slice none 0 0)].toArray), cbox k9 56 (.agg [v146.v, v149.v].toArray), cown (OwnS 3 (roE rdInt)) F147 v146.v c145, cown (OwnS 3 (roE rdInt)) F150 v149.v c148, cown (OwnS 86 ow86) F167 v166.v c165, cbox k184 86 (.agg [(.int .i64 x173.Rel), v214.v].toArray), cown (OwnS 3 (roE rdInt)) F215 v214.v c213] ∧ s_FreezeQuery_L6 c145 c148 c165 x173 m217 c213 c216 = some o180) ⟨_, _, _, ⟨none, 0, 0⟩, [], eqA, (.conv .nil (own_nil (Ro := (roE rdInt)) (E := 3)) (.cons .nil) entA), hF⟩ ?_)
     rintro m217 _ _ ⟨g218, c213, c216, v214, F215, rfl, hE, hF⟩
     refine K_ent hE ?_
     rcases m217 with _ | m217
     · rw [s_FreezeQuery_L6] at hF
       exact absurd hF (by simp)
     rw [s_FreezeQuery_L6] at hF
     iterate 6 refine au ?_
     refine Ai hx176 (fun k225 j226 => ?_)
     refine au ?_
     refine C_ldV (R' := (RdS 3 rdInt)) ag22.h (.tmp rfl rfl) .h lv84_1 (fun w227 => ?_)
     iterate 3 refine au ?_
     refine Ci hF (fun hb247 hF => ?_) (fun hb247 hF => ?_)
     · iterate 2 refine au ?_
       refine CW_draw [0, 1, 2, 3, 4, 5, 6, 7, 8, 9, 10, 11, 12, 13, 14, 15, 16] [0, 1, 0, 0, 8, 0, 56, 120, 248, 0, 1016, 2040, 4092, 8188, 16383, 32767, 65535] [12, 14, 16] mixed (by decide +kernel) ?_
       refine du ?_
       refine D_atO rfl .no (.t (.t (.t (.t (.t (.t (.t (.t (.t (.t .h)))))))))) (fun ha hp => V_load (v := v214.v) ag22.h (EN ha (.tmp rfl rfl) rfl) hp.2 rfl rfl) ?_
       refine D_atO rfl .no (.t (.t (.t (.t (.t (.t .h)))))) (fun ha hp => V_loadBox ag56.h ty56.h.sz rfl (EN ha (.tmp rfl rfl) rfl) hp.2 rfl) ?_
       iterate 3 refine du ?_
       refine Di hx176 (fun k228 j229 => ?_)
       refine du ?_
       refine D_ldV (R' := (RdS 3 rdInt)) ag22.h rfl .no (.tmp rfl rfl) rfl .h lv84_1 (fun w230 => ?_)
       refine du ?_
       refine bnd hF fun x231 hx232 hF => ?_
       obtain ⟨hp233, hx234⟩ := ix_some hx232
       refine Di hx234 (fun k235 j236 => ?_)
       refine Dl ls3_0 ?_
       refine bnd hF fun r237 hx238 hF => D_act2 rfl rfl .no (.cons (.t (.t (.t (.t (.t (.t (.t (.t (.t (.t (.t .h))))))))))) (.cons (.t (.t (.t (.t (.t (.t (.t (.t (.t (.t .h)))))))))) .nil)) (.dep rfl (.own (.t (.t (.t (.t (.t (.t (.t (.t (.t (.t (.t .h))))))))))) (fun _ h => h) .nil)) (fun ha => XC_borL (pre := []) (.cons frz_own (.cons frz_own .nil)) (fun _ => .nil) (X_callS cf52.h (.cons (EN ha (.tmp rfl rfl) rfl) (.cons (EN ha (.tmp rfl rfl) rfl) .nil)) (s_ValueOf_ok ({ Vars := c145, Values := c148 } : Binding) v146 v149 x231 _ hx238))) (fun _ => ?_)
       refine D_new rfl .no rfl (fun ha => N_buildSliceT (g := true) (len := 1) (parts := [(0, .tmp 81)]) sl22.h ty3.h (.cons (EN ha (.tmp rfl rfl) rfl) .nil) (vs := [(.int .i64 r237)]) rfl rfl rfl (by intro v hv; simp at hv; rcases hv with rfl <;> rfl)) (fun k240 => ?_)
       refine Dv1 (.cons .h .nil) (own_lit (Ro := (roE rdInt)) (E := 3) (F := ([] ++ [])) (xs := ([r237] : List Int)) (MkL_cons (Mk_pure (fun _ => rfl)) MkL_nil apps) rfl rfl) ?_
       refine bnd hF fun z241 hx242 hF => D_act1 rfl rfl .no (.cons (.t (.t (.t (.t (.t (.t (.t (.t (.t (.t (.t (.t (.t (.t (.t .h))))))))))))))) (.cons .h .nil)) (.dep rfl (.dep rfl (.dep rfl .nil))) (fun ha => X_appendO (Ro := (roE rdInt)) sl22.h ni22 ty3.h rfl rfl rfl (EN ha (.tmp rfl rfl) rfl) (EN ha (.tmp rfl rfl) rfl) hx242 src_own) (fun p243 => ?_)
       refine du ?_
       refine D_act1 rfl rfl .no (.cons (.t (.t (.t (.t (.t (.t (.t (.t (.t (.t (.t (.t (.t (.t .h)))))))))))))) .nil) (.dep rfl (.dep rfl (.dep rfl .nil))) (fun ha => X_storeB (e' := (.agg [(.int .i64 x173.Rel), p243.1.v].toArray)) ty22.h.sz (EN ha (.tmp rfl rfl) rfl) (EN ha (.tmp rfl rfl) rfl) rfl rfl rfl rfl rfl) (fun _ => ?_)
       refine du ?_
       iterate 5 refine au ?_
       exact ⟨m217, Nat.lt_succ_self _, _, _, _, p243.1, p243.2, eqA, entA, hF⟩
     iterate 7 refine au ?_
     refine bnd hF fun r244 hx245 hF => C_x3 (.cons (.t (.t (.t (.t (.t (.t (.t (.t (.t (.t (.t .h))))))))))) (.cons (.t (.t (.t (.t (.t (.t (.t (.t (.t .h))))))))) .nil)) (XC_borL (pre := []) (.cons frz_own (.cons frz_own .nil)) (fun _ => (.cons .nil)) (X_callS cf53.h (.cons (.tmp rfl rfl) (.cons (.tmp rfl rfl) .nil)) (s_AddFact_ok c165 v166 ({ Rel := x173.Rel, Values := c213 } : Fact) v214 _ hx245))) (fun p246 => ?_)
     iterate 2 refine au ?_
     cases hF
     exact ⟨_, p246.1, p246.2, _, rfl, eqA, entA⟩
   rintro _ _ ⟨c248, v249, F250, g252, rfl, rfl, hE⟩
   replace hF := hO181
   try dsimp only at hF
   refine K_ent hE ?_
   iterate 5 refine au ?_
   rw [wk k171]
   exact ⟨_, Nat.lt_succ_self _, _, k171 + 1, rest172, _, v249, F250, rfl, eqA, hd177, entA, hF⟩
 obtain ⟨hk159, hx160, hd161⟩ := drop_cons hd158
 rw [s_FreezeQuery_L1] at hF
 iterate 7 refine au ?_
 refine CdT ?_
 refine au ?_
 obtain ⟨o253, hio253, hO254⟩ := bind_some hF
 refine K_cut (fun f' cs' => ∃ (c279 : List Int) (c282 : List Int) (c285 : Int) (v280 : Sv) (F281 : List Nat) (v283 : Sv) (F284 : List Nat) (g : Fr), o253 = .inr (c279, c282, c285) ∧ f' = updL g [(1, (pz k1)), (3, (pz k2)), (5, p5.v), (6, p8.v), (7, (pz k9)), (8, (.int .i64 c285)), (9, (.int .i64 (k155 : Int)))] ∧ Ent cs' [cboR k1 39 (.agg [v0_0.v, v0_1.v].toArray), crd (RdS 3 rdInt) v0_0.v a_q.Head, crd (RdS 84 rd84) v0_1.v a_q.Atoms, cbox k2 56 (.agg [(.slice none 0 0), (.slice none 0 0)].toArray), crd (RdS 3 rdInt) p5.v r3, crd (RdS 3 rdInt) p8.v r6, cbox k9 56 (.agg [v280.v, v283.v].toArray), cown (OwnS 3 (roE rdInt)) F281 v280.v c279, cown (OwnS 3 (roE rdInt)) F284 v283.v c282]) ?_ ?_
 · replace hF := hio253
   refine CW_block ?_
   obtain ⟨o255, hio255, hO256⟩ := bind_some hF
   refine K_cut (fun f' cs' => ∃ (c270 : Int) (g : Fr), c270 = o255 ∧ f' = updL g [(1, (pz k1)), (3, (pz k2)), (5, p5.v), (6, p8.v), (7, (pz k9)), (8, (.int .i64 c270)), (9, (.int .i64 (k155 : Int)))] ∧ Ent cs' [cboR k1 39 (.agg [v0_0.v, v0_1.v].toArray), crd (RdS 3 rdInt) v0_0.v a_q.Head, crd (RdS 84 rd84) v0_1.v a_q.Atoms, cbox k2 56 (.agg [(.slice none 0 0), (.slice none 0 0)].toArray), crd (RdS 3 rdInt) p5.v r3, crd (RdS 3 rdInt) p8.v r6, cbox k9 56 (.agg [v146.v, v149.v].toArray), cown (OwnS 3 (roE rdInt)) F147 v146.v c145, cown (OwnS 3 (roE rdInt)) F150 v149.v c148]) ?_ ?_
   · replace hF := hio255
     refine CW_block (CW_loop (m := fuel) (fun m258 f' cs' => ∃ (g : Fr) (c257 : Int), f' = updL g [(1, (pz k1)), (3, (pz k2)), (5, p5.v), (6, p8.v), (7, (pz k9)), (8, (.int .i64 c257)), (9, (.int .i64 (k155 : Int)))] ∧ Ent cs' [cboR k1 39 (.agg [v0_0.v, v0_1.v].toArray), crd (RdS 3 rdInt) v0_0.v a_q.Head, crd (RdS 84 rd84) v0_1.v a_q.Atoms, cbox k2 56 (.agg [(.slice none 0 0), (.slice none 0 0)].toArray), crd (RdS 3 rdInt) p5.v r3, crd (RdS 3 rdInt) p8.v r6, cbox k9 56 (.agg [v146.v, v149.v].toArray), cown (OwnS 3 (roE rdInt)) F147 v146.v c145, cown (OwnS 3 (roE rdInt)) F150 v149.v c148] ∧ s_FreezeQuery_L7 r3 m258 c257 = some o255) ⟨_, _, eqA, entA, hF⟩ ?_)
     rintro m258 _ _ ⟨g259, c257, rfl, hE, hF⟩
     refine K_ent hE ?_
     rcases m258 with _ | m258
     · rw [s_FreezeQuery_L7] at hF
       exact absurd hF (by simp)
     rw [s_FreezeQuery_L7] at hF
     iterate 4 refine au ?_
     refine bnd hF fun r266 hx267 hF => Cx0 (s_l2Has_ok _ _ _ _ hx267) (fun _ => ?_)
     refine au ?_
     refine Ci hF (fun hb269 hF => ?_) (fun hb269 hF => ?_)
     · refine au ?_
       refine CW_block (CW_region (Cm (.int .i64 c257) rfl rfl ?_))
       iterate 3 refine au ?_
       exact ⟨m258, Nat.lt_succ_self _, _, _, eqA, entA, hF⟩
     iterate 4 refine au ?_
     cases hF
     exact ⟨_, _, rfl, eqA, entA⟩
   rintro _ _ ⟨c270, g278, rfl, rfl, hE⟩
   replace hF := hO256
   try dsimp only at hF
   refine K_ent hE ?_
   iterate 5 refine au ?_
   refine Ci hF (fun hb277 hF => ?_) (fun hb277 hF => ?_)
   · refine au ?_
     refine C_new rfl (N_buildSliceT (g := true) sl29.h ty86.h .nil (vs := []) rfl rfl rfl (by simp)) (fun k271 => ?_)
     refine Cv1 (.cons .h .nil) (own_lit (Ro := ow86) (E := 86) (F := []) (xs := ([] : List Fact)) MkL_nil rfl rfl) ?_
     refine C_val (V_build ty56.h rfl (vs := []) .nil (cells := [(.slice none 0 0), (.slice none 0 0)]) rfl) ?_
     refine au ?_
     refine As (.agg [(.slice none 0 0), (.slice none 0 0)].toArray) ?_
     iterate 3 refine au ?_
     cases hF
     replace hF := hO254
     try dsimp only at hF
     cases hF
     exact End_ret (⟨(some ⟨k271, 0, none⟩), 0, 1⟩, (k271 :: []), ⟨none, 0, 0⟩, [], ⟨none, 0, 0⟩, []) (.tmp rfl rfl (.cellA rfl rfl .h rfl ag56.h ty56.h.sz rfl rfl (.tmp rfl rfl .nil))) rfl (.conv .nil (own_nil (Ro := (roE rdInt)) (E := 3)) (.cons .nil) (.conv .nil (own_nil (Ro := (roE rdInt)) (E := 3)) (.cons .nil) (.sel (.cons (.t (.t (.t .h))) (.cons (.t .h) (.cons .h .nil))))))
   refine au ?_
   refine K_draw [0, 1, 2, 3, 4, 5, 6, 7] [0, 0, 0, 6, 14, 0, 63, 127] [6, 7] mixed (by decide +kernel) ?_
   refine D_atO rfl .no (.t (.t (.t (.t (.t (.t .h)))))) (fun ha hp => V_loadBox ag56.h ty56.h.sz rfl (EN ha (.tmp rfl rfl) rfl) hp.2 rfl) ?_
   iterate 2 refine du ?_
   refine Di hx160 (fun k272 j273 => ?_)
   refine Dl ls3_0 ?_
   refine du ?_
   refine bnd hF fun r274 hx275 hF => D_act4 rfl rfl .no (.cons (.t (.t (.t (.t (.t (.t (.t (.t (.t .h))))))))) (.cons (.t (.t (.t (.t (.t (.t (.t (.t .h)))))))) .nil)) (.dep rfl .nil) (fun ha => XC_borL (pre := []) (.cons frz_own (.cons frz_own .nil)) (fun _ => (.cons (.cons .nil))) (X_callS cf51.h (.cons (EN ha (.tmp rfl rfl) rfl) (.cons (EN ha (.tmp rfl rfl) rfl) (.cons (EN ha (.tmp rfl rfl) rfl) .nil))) (s_l4Bind_ok ({ Vars := c145, Values := c148 } : Binding) v146 v149 x157 c270 _ hx275))) (fun p276 => ?_)
   refine D_act1 rfl rfl .no (.cons (.t (.t (.t (.t (.t (.t (.t (.t (.t (.t (.t .h))))))))))) .nil) (.dep rfl .nil) (fun ha => X_storeB (e' := (.agg [p276.1.v, p276.2.2.1.v].toArray)) (v := (.agg [p276.1.v, p276.2.2.1.v].toArray)) ty56.h.sz (EN ha (.tmp rfl rfl) rfl) (EN ha (.tmp rfl rfl) rfl) rfl rfl rfl rfl rfl) (fun _ => ?_)
   refine du ?_
   iterate 5 refine au ?_
   cases hF
   exact ⟨_, _, _, p276.1, p276.2.1, p276.2.2.1, p276.2.2.2, _, rfl, eqA, entA⟩
 rintro _ _ ⟨c279, c282, c285, v280, F281, v283, F284, g287, rfl, rfl, hE⟩
 replace hF := hO254
 try dsimp only at hF
 refine K_ent hE ?_
 iterate 5 refine au ?_
 rw [wk k155]
 exact ⟨_, Nat.lt_succ_self _, _, k155 + 1, rest156, _, _, _, v280, F281, v283, F284, rfl, eqA, hd161, entA, hF⟩
def s_l9Freeze_L3 (r117 : (List Fact) × Binding × Bool) : List Fact → Nat → (List Fact) → Option ((List Fact) × Binding × Bool)
 | [], k163, c157 => some (c157, r117.2.1, r117.2.2)
 | x165 :: rest164, k163, c157 => (if (decide ((x165.Rel : Int) < 3)) then (
       (app c157 ([x165] : List Fact)).bind fun z180 =>
       some z180)
     else (
       some c157)).bind fun o172 =>
   match o172 with
   | c184 => s_l9Freeze_L3 r117 rest164 (k163 + 1) c184
def s_l9Freeze_L1 (r4 : Query) (fuel : Nat) : List Int → Nat → (List Atom) → Option ((List Fact) × Binding × Bool)
 | [], k108, c102 => (s_FreezeQuery fuel ({ Head := r4.Head, Atoms := c102 } : Query)).bind fun r117 =>
   s_l9Freeze_L3 r117 r117.1 0 ([] : List Fact)
 | x110 :: rest109, k108, c102 => (app c102 ([({ Rel := 3, Terms := ([x110] : List Int) } : Atom)] : List Atom)).bind fun z193 =>
   s_l9Freeze_L1 r4 fuel rest109 (k108 + 1) z193
def s_l9Freeze (fuel : Nat) (a_p : Query) (a_q : Query) : Option ((List Fact) × Binding × Bool) :=
 (s_l3Copy a_p).bind fun r4 =>
 (s_ConstantsOf a_q).bind fun r8 =>
 s_l9Freeze_L1 r4 fuel r8 0 r4.Atoms
theorem s_l9Freeze_ok (fuel : Nat) (a_p : Query) (v0_0 : Sv) (v0_1 : Sv) (a_q : Query) (v1_0 : Sv) (v1_1 : Sv) (R : (List Fact) × Binding × Bool) (hF : s_l9Freeze fuel a_p a_q = some R) :
   Fw.Spec Tryz.prog 77 [(.agg [v0_0.v, v0_1.v].toArray), (.agg [v1_0.v, v1_1.v].toArray)] [crd (RdS 3 rdInt) v0_0.v a_p.Head, crd (RdS 84 rd84) v0_1.v a_p.Atoms, crd (RdS 3 rdInt) v1_0.v a_q.Head, crd (RdS 84 rd84) v1_1.v a_q.Atoms] (fun p : Sv × List Nat × Sv × List Nat × Sv × List Nat => (.tuple [p.1.v, (.agg [p.2.2.1.v, p.2.2.2.2.1.v].toArray), (.bool R.2.2)].toArray)) (fun p => [cown (OwnS 86 (roE rd86)) p.2.1 p.1.v R.1, cown (OwnS 3 (roE rdInt)) p.2.2.2.1 p.2.2.1.v R.2.1.Vars, cown (OwnS 3 (roE rdInt)) p.2.2.2.2.2 p.2.2.2.2.1.v R.2.1.Values]) := by
 refine Se 65 Tryz.func77 [.tmp 4, .cell 5 56, .tmp 6] ?_
 intro H0 F0
 unfold s_l9Freeze at hF
 refine au ?_
 refine AbR (fun k1 => ?_)
 refine AbR (fun k2 => ?_)
 refine au ?_
 refine AnW (fun k3 => ?_)
 iterate 4 refine au ?_
 refine bnd hF fun r4 hx5 hF => Cx2 (s_l3Copy_ok _ _ _ _ hx5) (fun p6 => ?_)
 refine AnW (fun k7 => ?_)
 refine As (.agg [p6.1.v, p6.2.2.1.v].toArray) ?_
 iterate 3 refine au ?_
 refine bnd hF fun r8 hx9 hF => Cx1 (s_ConstantsOf_ok _ _ _ _ hx9) (fun p10 => ?_)
 iterate 6 refine au ?_
 refine CW_block (CW_loop (m := r8.length) (fun m106 f' cs' => ∃ (g : Fr) (k108 : Nat) (rest109 : List Int) (c102 : List Atom) (v103 : Sv) (F104 : List Nat), m106 = rest109.length ∧ f' = updL g [(5, (pz k3)), (7, (pz k7)), (8, p10.v), (9, (.int .i64 (k108 : Int)))] ∧ List.drop k108 r8 = rest109 ∧ Ent cs' [cbox k3 56 (.agg [(.slice none 0 0), (.slice none 0 0)].toArray), cbox k7 39 (.agg [p6.1.v, v103.v].toArray), cown (OwnS 3 (roE rdInt)) p6.2.1 p6.1.v r4.Head, cown (OwnS 84 ow84) F104 v103.v c102, crd (RdS 3 rdInt) p10.v r8] ∧ s_l9Freeze_L1 r4 fuel rest109 k108 c102 = some R) ⟨_, 0, _, _, p6.2.2.1, p6.2.2.2, rfl, eqA, rfl, entA, hF⟩ ?_)
 rintro m106 _ _ ⟨g107, k108, rest109, c102, v103, F104, rfl, rfl, hd111, hE, hF⟩
 refine Kb hE r8 (fun hbd116 => ?_)
 rcases rest109 with _ | ⟨x110, rest109⟩
 · have hk112 := dn hd111
   rw [s_l9Freeze_L1] at hF
   iterate 7 refine au ?_
   refine CdF ?_
   iterate 6 refine au ?_
   refine bnd hF fun r117 hx118 hF => C_x5 (.cons (.t (.t (.t .h))) (.cons (.t (.t .h)) .nil)) (XC_borL (pre := []) (.cons frz_own (.cons frz_own .nil)) (fun _ => (.cons (.cons (.cons .nil)))) (X_callS cf25.h (.cons (.tmp rfl rfl) .nil) (s_FreezeQuery_ok fuel ({ Head := r4.Head, Atoms := c102 } : Query) p6.1 v103 _ hx118))) (fun p119 => ?_)
   refine au ?_
   refine C_val (V_extract (l := [p119.1.v, (.agg [p119.2.2.1.v, p119.2.2.2.2.1.v].toArray), (.bool r117.2.2)]) (v := p119.1.v) (.tmp rfl rfl) rfl) ?_
   refine C_val (V_extract (l := [p119.1.v, (.agg [p119.2.2.1.v, p119.2.2.2.2.1.v].toArray), (.bool r117.2.2)]) (v := (.agg [p119.2.2.1.v, p119.2.2.2.2.1.v].toArray)) (.tmp rfl rfl) rfl) ?_
   refine C_val (V_extract (l := [p119.1.v, (.agg [p119.2.2.1.v, p119.2.2.2.2.1.v].toArray), (.bool r117.2.2)]) (v := (.bool r117.2.2)) (.tmp rfl rfl) rfl) ?_
   refine AnW (fun k120 => ?_)
   refine au ?_
   refine As (.agg [p119.2.2.1.v, p119.2.2.2.2.1.v].toArray) ?_
   iterate 3 refine au ?_
   refine C_new rfl (N_buildSliceT (g := true) sl29.h ty86.h .nil (vs := []) rfl rfl rfl (by simp)) (fun k121 => ?_)
   refine Cv1 (.cons .h .nil) (own_lit (Ro := (roE rd86)) (E := 86) (F := []) (xs := ([] : List Fact)) MkL_nil rfl rfl) ?_
   iterate 6 refine au ?_
   refine CW_block (K_frz (.t (.t (.t (.t .h)))) frz_own ?_)
   refine CW_loop (m := r117.1.length) (fun m161 f' cs' => ∃ (g : Fr) (k163 : Nat) (rest164 : List Fact) (c157 : List Fact) (v158 : Sv) (F159 : List Nat), m161 = rest164.length ∧ f' = updL g [(5, (pz k3)), (10, p119.1.v), (11, (pz k120)), (12, (.bool r117.2.2)), (13, v158.v), (14, (.int .i64 (k163 : Int)))] ∧ List.drop k163 r117.1 = rest164 ∧ Ent cs' [cbox k3 56 (.agg [(.slice none 0 0), (.slice none 0 0)].toArray), crd (RdS 86 rd86) p119.1.v r117.1, cbox k120 56 (.agg [p119.2.2.1.v, p119.2.2.2.2.1.v].toArray), cown (OwnS 3 (roE rdInt)) p119.2.2.2.1 p119.2.2.1.v r117.2.1.Vars, cown (OwnS 3 (roE rdInt)) p119.2.2.2.2.2 p119.2.2.2.2.1.v r117.2.1.Values, cown (OwnS 86 (roE rd86)) F159 v158.v c157] ∧ s_l9Freeze_L3 r117 rest164 k163 c157 = some R) ⟨_, 0, _, _, ⟨(some ⟨k121, 0, none⟩), 0, 1⟩, (k121 :: []), rfl, eqA, rfl, entA, hF⟩ ?_
   rintro m161 _ _ ⟨g162, k163, rest164, c157, v158, F159, rfl, rfl, hd166, hE, hF⟩
   refine Kb hE r117.1 (fun hbd171 => ?_)
   rcases rest164 with _ | ⟨x165, rest164⟩
   · have hk167 := dn hd166
     rw [s_l9Freeze_L3] at hF
     iterate 7 refine au ?_
     refine CdF ?_
     iterate 4 refine au ?_
     refine K_draw [0, 1, 2, 3, 4, 5] [0, 0, 0, 1, 11, 31] [4] mixed (by decide +kernel) ?_
     refine du ?_
     refine D_atO rfl .no (.t (.t .h)) (fun ha hp => V_loadBox ag56.h ty56.h.sz rfl (EN ha (.tmp rfl rfl) rfl) hp.2 rfl) ?_
     iterate 2 refine du ?_
     refine D_act1 rfl rfl .no (.cons .h .nil) (.dep rfl .nil) (fun ha => X_storeB (e' := (.agg [p119.2.2.1.v, p119.2.2.2.2.1.v].toArray)) (v := (.agg [p119.2.2.1.v, p119.2.2.2.2.1.v].toArray)) ty56.h.sz (EN ha (.tmp rfl rfl) rfl) (EN ha (.tmp rfl rfl) rfl) rfl rfl rfl rfl rfl) (fun _ => ?_)
     iterate 2 refine du ?_
     refine au ?_
     cases hF
     exact End_ret (v158, F159, p119.2.2.1, p119.2.2.2.1, p119.2.2.2.2.1, p119.2.2.2.2.2) (.tmp rfl rfl (.cellA rfl rfl .h rfl ag56.h ty56.h.sz rfl rfl (.tmp rfl rfl .nil))) rfl (.sel (.cons (.t (.t (.t (.t (.t .h))))) (.cons (.t (.t (.t .h))) (.cons (.t (.t (.t .h))) .nil))))
   obtain ⟨hk167, hx168, hd169⟩ := drop_cons hd166
   rw [s_l9Freeze_L3] at hF
   iterate 7 refine au ?_
   refine CdT ?_
   refine au ?_
   obtain ⟨o172, hio172, hO173⟩ := bind_some hF
   refine K_cut (fun f' cs' => ∃ (c184 : List Fact) (v185 : Sv) (F186 : List Nat) (g : Fr), c184 = o172 ∧ f' = updL g [(5, (pz k3)), (10, p119.1.v), (11, (pz k120)), (12, (.bool r117.2.2)), (13, v185.v), (14, (.int .i64 (k163 : Int)))] ∧ Ent cs' [cbox k3 56 (.agg [(.slice none 0 0), (.slice none 0 0)].toArray), crd (RdS 86 rd86) p119.1.v r117.1, cbox k120 56 (.agg [p119.2.2.1.v, p119.2.2.2.2.1.v].toArray), cown (OwnS 3 (roE rdInt)) p119.2.2.2.1 p119.2.2.1.v r117.2.1.Vars, cown (OwnS 3 (roE rdInt)) p119.2.2.2.2.2 p119.2.2.2.2.1.v r117.2.1.Values, cown (OwnS 86 (roE rd86)) F186 v185.v c184]) ?_ ?_
   · replace hF := hio172
     refine CW_block (K_region (Cm p119.1.v rfl rfl ?_))
     refine au ?_
     refine Ai hx168 (fun k174 j175 => ?_)
     refine au ?_
     refine Al ls86_0 ?_
     iterate 2 refine au ?_
     refine Ci hF (fun hb183 hF => ?_) (fun hb183 hF => ?_)
     · iterate 4 refine au ?_
       refine Ai hx168 (fun k176 j177 => ?_)
       refine AlA1 (ul86_0_86 x165) la86_0_86 (fun p178 => ?_)
       refine C_new rfl (N_buildSliceT (g := true) sl29.h ty86.h (.cons (.tmp rfl rfl) .nil) (vs := [(.agg [(.int .i64 x165.Rel), p178.v].toArray)]) rfl rfl rfl (by intro v hv; simp at hv; rcases hv with rfl <;> rfl)) (fun k179 => ?_)
       refine Cv1 (.cons .h (.rd .h rfl .nil)) (own_lit (Ro := (roE rd86)) (E := 86) (F := ([] ++ [])) (xs := ([x165] : List Fact)) (MkL_cons mr86 MkL_nil apps) rfl rfl) ?_
       refine bnd hF fun z180 hx181 hF => C_x1 (.cons (.t (.t (.t (.t (.t (.t (.t (.t (.t .h))))))))) (.cons .h .nil)) (X_appendO (Ro := (roE rd86)) sl29.h ni29 ty86.h rfl rfl rfl (.tmp rfl rfl) (.tmp rfl rfl) hx181 src_own) (fun p182 => ?_)
       iterate 2 refine au ?_
       cases hF
       exact ⟨_, p182.1, p182.2, _, rfl, eqA, entA⟩
     refine au ?_
     cases hF
     exact ⟨_, v158, F159, _, rfl, eqA, entA⟩
   rintro _ _ ⟨c184, v185, F186, g188, rfl, rfl, hE⟩
   replace hF := hO173
   try dsimp only at hF
   refine K_ent hE ?_
   iterate 5 refine au ?_
   rw [wk k163]
   exact ⟨_, Nat.lt_succ_self _, _, k163 + 1, rest164, _, v185, F186, rfl, eqA, hd169, entA, hF⟩
 obtain ⟨hk112, hx113, hd114⟩ := drop_cons hd111
 rw [s_l9Freeze_L1] at hF
 iterate 7 refine au ?_
 refine CdT ?_
 iterate 2 refine au ?_
 refine CW_draw [0, 1, 2, 3, 4, 5, 6, 7, 8, 9, 10, 11] [0, 1, 0, 0, 12, 28, 60, 124, 252, 511, 1023, 2047] [9, 11] mixed (by decide +kernel) ?_
 refine du ?_
 refine D_atO rfl .no (.t .h) (fun ha hp => V_load (v := v103.v) ag37.h (EN ha (.tmp rfl rfl) rfl) hp.2 rfl rfl) ?_
 iterate 2 refine du ?_
 refine Di hx113 (fun k189 j190 => ?_)
 refine Dl ls3_0 ?_
 refine D_new rfl .no rfl (fun ha => N_buildSliceT (g := true) (len := 1) (parts := [(0, .tmp 30)]) sl22.h ty3.h (.cons (EN ha (.tmp rfl rfl) rfl) .nil) (vs := [(.int .i64 x110)]) rfl rfl rfl (by intro v hv; simp at hv; rcases hv with rfl <;> rfl)) (fun k191 => ?_)
 refine Dv1 (.cons .h .nil) (own_lit (Ro := (roE rdInt)) (E := 3) (F := ([] ++ [])) (xs := ([x110] : List Int)) (MkL_cons (Mk_pure (fun _ => rfl)) MkL_nil apps) rfl rfl) ?_
 refine D_val rfl .no (fun ha => V_build ty84.h rfl (vs := [(.int .i64 3), (.slice (some ⟨k191, 0, none⟩) 1 1)]) (.cons (EN ha (.int _ _) rfl) (.cons (EN ha (.tmp rfl rfl) rfl) .nil)) (cells := [(.int .i64 3), (.slice (some ⟨k191, 0, none⟩) 1 1)]) rfl) ?_
 refine D_new rfl .no rfl (fun ha => N_buildSliceT (g := true) (len := 1) (parts := [(0, .tmp 32)]) sl37.h ty84.h (.cons (EN ha (.tmp rfl rfl) rfl) .nil) (vs := [(.agg [(.int .i64 3), (.slice (some ⟨k191, 0, none⟩) 1 1)].toArray)]) rfl rfl rfl (by intro v hv; simp at hv; rcases hv with rfl <;> rfl)) (fun k192 => ?_)
 refine Dv1 (.cons .h (.cons .h .nil)) (own_lit (Ro := ow84) (E := 84) (F := ((k191 :: ([] ++ [])) ++ [])) (xs := ([({ Rel := 3, Terms := ([x110] : List Int) } : Atom)] : List Atom)) (MkL_cons (mk84 (v0 := ⟨(some ⟨k191, 0, none⟩), 1, 1⟩) (a := ({ Rel := 3, Terms := ([x110] : List Int) } : Atom))) MkL_nil apps) rfl rfl) ?_
 refine bnd hF fun z193 hx194 hF => D_act1 rfl rfl .no (.cons (.t (.t (.t (.t (.t .h))))) (.cons .h .nil)) (.dep rfl (.dep rfl (.dep rfl .nil))) (fun ha => X_appendO (Ro := ow84) sl37.h ni37 ty84.h rfl rfl rfl (EN ha (.tmp rfl rfl) rfl) (EN ha (.tmp rfl rfl) rfl) hx194 src_own) (fun p195 => ?_)
 refine du ?_
 refine D_act1 rfl rfl .no (.cons (.t (.t (.t .h))) .nil) (.dep rfl (.dep rfl (.dep rfl .nil))) (fun ha => X_storeB (e' := (.agg [p6.1.v, p195.1.v].toArray)) ty37.h.sz (EN ha (.tmp rfl rfl) rfl) (EN ha (.tmp rfl rfl) rfl) rfl rfl rfl rfl rfl) (fun _ => ?_)
 refine du ?_
 iterate 5 refine au ?_
 rw [wk k108]
 exact ⟨_, Nat.lt_succ_self _, _, k108 + 1, rest109, _, p195.1, p195.2, rfl, eqA, hd114, entA, hF⟩
def s_TupleOf_L1 (a_b : Binding) : List Int → Nat → (List Int) → Option ((List Int))
 | [], k10, c4 => some c4
 | x12 :: rest11, k10, c4 => (s_ValueOf a_b x12).bind fun r21 =>
   (app c4 ([r21] : List Int)).bind fun z25 =>
   s_TupleOf_L1 a_b rest11 (k10 + 1) z25
def s_TupleOf (a_q : Query) (a_b : Binding) : Option ((List Int)) :=
 s_TupleOf_L1 a_b a_q.Head 0 ([] : List Int)
theorem s_TupleOf_ok (a_q : Query) (v0_0 : Sv) (v0_1 : Sv) (a_b : Binding) (v1_0 : Sv) (v1_1 : Sv) (R : (List Int)) (hF : s_TupleOf a_q a_b = some R) :
   Fw.Spec Tryz.prog 28 [(.agg [v0_0.v, v0_1.v].toArray), (.agg [v1_0.v, v1_1.v].toArray)] [crd (RdS 3 rdInt) v0_0.v a_q.Head, crd (RdS 84 rd84) v0_1.v a_q.Atoms, crd (RdS 3 rdInt) v1_0.v a_b.Vars, crd (RdS 3 rdInt) v1_1.v a_b.Values] (fun p : Sv × List Nat => p.1.v) (fun p => [cown (OwnS 3 (roE rdInt)) p.2 p.1.v R]) := by
 refine Se 26 Tryz.func28 [.tmp 4] ?_
 intro H0 F0
 unfold s_TupleOf at hF
 refine au ?_
 refine AbR (fun k1 => ?_)
 refine AbR (fun k2 => ?_)
 iterate 3 refine au ?_
 refine C_new rfl (N_buildSliceT (g := true) sl22.h ty3.h .nil (vs := []) rfl rfl rfl (by simp)) (fun k3 => ?_)
 refine Cv1 (.cons .h .nil) (own_lit (Ro := (roE rdInt)) (E := 3) (F := []) (xs := ([] : List Int)) MkL_nil rfl rfl) ?_
 iterate 6 refine au ?_
 refine CW_block (CW_loop (m := a_q.Head.length) (fun m8 f' cs' => ∃ (g : Fr) (k10 : Nat) (rest11 : List Int) (c4 : List Int) (v5 : Sv) (F6 : List Nat), m8 = rest11.length ∧ f' = updL g [(2, (pz k1)), (3, (pz k2)), (5, v5.v), (6, (.int .i64 (k10 : Int)))] ∧ List.drop k10 a_q.Head = rest11 ∧ Ent cs' [cboR k1 39 (.agg [v0_0.v, v0_1.v].toArray), crd (RdS 3 rdInt) v0_0.v a_q.Head, crd (RdS 84 rd84) v0_1.v a_q.Atoms, cboR k2 56 (.agg [v1_0.v, v1_1.v].toArray), crd (RdS 3 rdInt) v1_0.v a_b.Vars, crd (RdS 3 rdInt) v1_1.v a_b.Values, cown (OwnS 3 (roE rdInt)) F6 v5.v c4] ∧ s_TupleOf_L1 a_b rest11 k10 c4 = some R) ⟨_, 0, _, _, ⟨(some ⟨k3, 0, none⟩), 0, 1⟩, (k3 :: []), rfl, eqA, rfl, entA, hF⟩ ?_)
 rintro m8 _ _ ⟨g9, k10, rest11, c4, v5, F6, rfl, rfl, hd13, hE, hF⟩
 refine Kb hE a_q.Head (fun hbd18 => ?_)
 rcases rest11 with _ | ⟨x12, rest11⟩
 · have hk14 := dn hd13
   rw [s_TupleOf_L1] at hF
   iterate 8 refine au ?_
   refine CdF ?_
   iterate 9 refine au ?_
   cases hF
   exact Er (v5, F6)
 obtain ⟨hk14, hx15, hd16⟩ := drop_cons hd13
 rw [s_TupleOf_L1] at hF
 iterate 8 refine au ?_
 refine CdT ?_
 iterate 2 refine au ?_
 refine CW_draw [0, 1, 2, 3, 4, 5, 6, 7, 8, 9, 10] [0, 0, 0, 4, 0, 28, 60, 126, 254, 511, 1023] [7, 9] mixed (by decide +kernel) ?_
 iterate 5 refine du ?_
 refine Di hx15 (fun k19 j20 => ?_)
 refine Dl ls3_0 ?_
 refine bnd hF fun r21 hx22 hF => Dx0 (s_ValueOf_ok _ _ _ _ _ hx22) (fun _ => ?_)
 refine D_new rfl .no rfl (fun ha => N_buildSliceT (g := true) (len := 1) (parts := [(0, .tmp 22)]) sl22.h ty3.h (.cons (EN ha (.tmp rfl rfl) rfl) .nil) (vs := [(.int .i64 r21)]) rfl rfl rfl (by intro v hv; simp at hv; rcases hv with rfl <;> rfl)) (fun k24 => ?_)
 refine Dv1 (.cons .h .nil) (own_lit (Ro := (roE rdInt)) (E := 3) (F := ([] ++ [])) (xs := ([r21] : List Int)) (MkL_cons (Mk_pure (fun _ => rfl)) MkL_nil apps) rfl rfl) ?_
 refine bnd hF fun z25 hx26 hF => D_act1 rfl rfl .no (.cons (.t (.t (.t (.t (.t (.t (.t (.t .h)))))))) (.cons .h .nil)) (.dep rfl .nil) (fun ha => X_appendO (Ro := (roE rdInt)) sl22.h ni22 ty3.h rfl rfl rfl (EN ha (.tmp rfl rfl) rfl) (EN ha (.tmp rfl rfl) rfl) hx26 src_own) (fun p27 => ?_)
 iterate 2 refine du ?_
 iterate 5 refine au ?_
 rw [wk k10]
 exact ⟨_, Nat.lt_succ_self _, _, k10 + 1, rest11, _, p27.1, p27.2, rfl, eqA, hd16, entA, hF⟩
def s_l4Copy (a_b : Binding) : Option (Binding) :=
 (app ([] : List Int) a_b.Vars).bind fun z5 =>
 (app ([] : List Int) a_b.Values).bind fun z8 =>
 some ({ Vars := z5, Values := z8 } : Binding)
theorem s_l4Copy_ok (a_b : Binding) (v0_0 : Sv) (v0_1 : Sv) (R : Binding) (hF : s_l4Copy a_b = some R) :
   Fw.Spec Tryz.prog 117 [(.agg [v0_0.v, v0_1.v].toArray)] [crd (RdS 3 rdInt) v0_0.v a_b.Vars, crd (RdS 3 rdInt) v0_1.v a_b.Values] (fun p : Sv × List Nat × Sv × List Nat => (.agg [p.1.v, p.2.2.1.v].toArray)) (fun p => [cown (OwnS 3 (roE rdInt)) p.2.1 p.1.v R.Vars, cown (OwnS 3 (roE rdInt)) p.2.2.2 p.2.2.1.v R.Values]) := by
 refine Se 12 Tryz.func117 [.cell 2 56] ?_
 intro H0 F0
 unfold s_l4Copy at hF
 refine au ?_
 refine AbR (fun k1 => ?_)
 refine AnW (fun k2 => ?_)
 refine au ?_
 refine K_draw [0, 1, 2, 4, 5, 6, 3, 7, 8, 9] [0, 0, 2, 7, 0, 0, 32, 127, 255, 511] [3, 7, 9] mixed (by decide +kernel) ?_
 refine D_new rfl .no rfl (fun ha => N_buildSliceT (g := true) (len := 0) (parts := []) sl22.h ty3.h .nil (vs := []) rfl rfl rfl (by simp)) (fun k3 => ?_)
 refine Dv1 (.cons .h .nil) (own_lit (Ro := (roE rdInt)) (E := 3) (F := []) (xs := ([] : List Int)) MkL_nil rfl rfl) ?_
 iterate 2 refine du ?_
 refine D_new rfl .no rfl (fun ha => N_buildSliceT (g := true) (len := 0) (parts := []) sl22.h ty3.h .nil (vs := []) rfl rfl rfl (by simp)) (fun k4 => ?_)
 refine Dv1 (.cons .h .nil) (own_lit (Ro := (roE rdInt)) (E := 3) (F := []) (xs := ([] : List Int)) MkL_nil rfl rfl) ?_
 iterate 2 refine du ?_
 refine bnd hF fun z5 hx6 hF => D_act1 rfl rfl .no (.cons (.t .h) (.rd (.t (.t (.t .h))) rfl .nil)) (.own .h (by simp [cown]) (.dep rfl .nil)) (fun ha => X_appendO (Ro := (roE rdInt)) sl22.h ni22 ty3.h rfl rfl rfl (EN ha (.tmp rfl rfl) rfl) (EN ha (.tmp rfl rfl) rfl) hx6 src_rd) (fun p7 => ?_)
 refine bnd hF fun z8 hx9 hF => D_act1 rfl rfl .no (.cons (.t .h) (.rd (.t (.t (.t (.t .h)))) rfl .nil)) (.dep rfl (.dep rfl .nil)) (fun ha => X_appendO (Ro := (roE rdInt)) sl22.h ni22 ty3.h rfl rfl rfl (EN ha (.tmp rfl rfl) rfl) (EN ha (.tmp rfl rfl) rfl) hx9 src_rd) (fun p10 => ?_)
 refine D_val rfl .no (fun ha => V_build ty56.h rfl (vs := [p7.1.v, p10.1.v]) (.cons (EN ha (.tmp rfl rfl) rfl) (.cons (EN ha (.tmp rfl rfl) rfl) .nil)) (cells := [p7.1.v, p10.1.v]) rfl) ?_
 refine D_act1 rfl rfl .no (.cons (.t (.t .h)) .nil) (.dep rfl (.dep rfl .nil)) (fun ha => X_storeB (e' := (.agg [p7.1.v, p10.1.v].toArray)) (v := (.agg [p7.1.v, p10.1.v].toArray)) ty56.h.sz (EN ha (.tmp rfl rfl) rfl) (EN ha (.tmp rfl rfl) rfl) rfl rfl rfl rfl rfl) (fun _ => ?_)
 refine du ?_
 refine au ?_
 cases hF
 exact Er (p7.1, p7.2, p10.1, p10.2)
def s_l4Bound_L1 (a_b : Binding) (a_v : Int) : Nat → Int → Option (Bool)
 | 0, _ => none
 | m3 + 1, c2 => if ((decide ((c2 : Int) < (a_b.Vars.length : Int))) && (decide ((c2 : Int) < (a_b.Values.length : Int)))) then (
     (ix a_b.Vars c2).bind fun x13 =>
     if ((x13 : Int) == a_v) then (
       some true)
     else (
       s_l4Bound_L1 a_b a_v m3 (IntKind.i64.wrap (c2 + 1))))
   else (
     some false)
def s_l4Bound (a_b : Binding) (a_v : Int) : Option (Bool) :=
 s_l4Bound_L1 a_b a_v (((a_b.Vars.length : Int) - 0).toNat + 2) 0
theorem s_l4Bound_ok (a_b : Binding) (v0_0 : Sv) (v0_1 : Sv) (a_v : Int) (R : Bool) (hF : s_l4Bound a_b a_v = some R) :
   Fw.Spec Tryz.prog 203 [(.agg [v0_0.v, v0_1.v].toArray), (.int .i64 a_v)] [crd (RdS 3 rdInt) v0_0.v a_b.Vars, crd (RdS 3 rdInt) v0_1.v a_b.Values] (fun _ : Unit => (.bool R)) (fun _ => []) := by
 refine Se 27 Tryz.func203 [.tmp 4] ?_
 intro H0 F0
 unfold s_l4Bound at hF
 refine au ?_
 refine AbR (fun k1 => ?_)
 iterate 6 refine au ?_
 refine CW_block (CW_loop (m := (((a_b.Vars.length : Int) - 0).toNat + 2)) (fun m3 f' cs' => ∃ (g : Fr) (c2 : Int), f' = updL g [(1, (.int .i64 a_v)), (2, (pz k1)), (5, (.int .i64 c2))] ∧ Ent cs' [cboR k1 56 (.agg [v0_0.v, v0_1.v].toArray), crd (RdS 3 rdInt) v0_0.v a_b.Vars, crd (RdS 3 rdInt) v0_1.v a_b.Values] ∧ s_l4Bound_L1 a_b a_v m3 c2 = some R) ⟨_, _, eqA, entA, hF⟩ ?_)
 rintro m3 _ _ ⟨g4, c2, rfl, hE, hF⟩
 refine K_ent hE ?_
 rcases m3 with _ | m3
 · rw [s_l4Bound_L1] at hF
   exact absurd hF (by simp)
 rw [s_l4Bound_L1] at hF
 iterate 2 refine au ?_
 refine C_cut (fun f' cs' => ∃ (g : Fr), f' = updL g [(1, (.int .i64 a_v)), (2, (pz k1)), (5, (.int .i64 c2)), (17, (.bool ((decide ((c2 : Int) < (a_b.Vars.length : Int))) && (decide ((c2 : Int) < (a_b.Values.length : Int))))))] ∧ Ent cs' [cboR k1 56 (.agg [v0_0.v, v0_1.v].toArray), crd (RdS 3 rdInt) v0_0.v a_b.Vars, crd (RdS 3 rdInt) v0_1.v a_b.Values]) ?_ ?_
 · iterate 6 refine au ?_
   rcases Bool.eq_false_or_eq_true (decide ((c2 : Int) < (a_b.Vars.length : Int))) with hg11 | hg11
   · rw [hg11]
     try rw [hg11] at hF; dsimp only [cond_true, cond_false] at hF
     iterate 12 refine au ?_
     exact ⟨_, eqA, entA⟩
   rw [hg11]
   try rw [hg11] at hF; dsimp only [cond_true, cond_false] at hF
   iterate 7 refine au ?_
   exact ⟨_, eqA, entA⟩
 rintro _ _ ⟨g12, rfl, hE⟩
 refine K_ent hE ?_
 refine Ci hF (fun hb20 hF => ?_) (fun hb20 hF => ?_)
 · iterate 6 refine au ?_
   refine bnd hF fun x13 hx14 hF => ?_
   obtain ⟨hp15, hx16⟩ := ix_some hx14
   refine Ai hx16 (fun k17 j18 => ?_)
   refine Al ls3_0 ?_
   iterate 3 refine au ?_
   refine Ci hF (fun hb19 hF => ?_) (fun hb19 hF => ?_)
   · iterate 4 refine au ?_
     cases hF
     exact Er ()
   iterate 6 refine au ?_
   exact ⟨m3, Nat.lt_succ_self _, _, _, eqA, entA, hF⟩
 iterate 8 refine au ?_
 cases hF
 exact Er ()
end Go.Proofs.YtlfebfhfgfjceacGreat
