/-
  Functions of the program as Lean functions, and that the calls return what these say: part 1. No conditions.
-/
import Derived.Test.YtlfebfhfgfjceabGreatFcLostAnswers
import Derived.Shelf.Sort.Plain
import Derived.Shelf.Slices.In.SortNone
import Derived.Shelf.Slices.CompactI
import Derived.Test.YtlfebfhfgfjceabGreatProg
import Derived.KernelRfl
set_option maxRecDepth 100000
set_option maxHeartbeats 1000000
set_option linter.unusedVariables false
namespace Go.Proofs.YtlfebfhfgfjceabGreat
open Go Go.Fw
instance : LaidP Tryz.prog := ⟨fun _ => True⟩
structure Method where
 Rel : Int
 Inputs : List Int
 Limit : Int
 Cost : Int
 Quota : Int
structure Atom where
 Rel : Int
 Terms : List Int
structure Query where
 Head : List Int
 Atoms : List Atom
structure Fact where
 Rel : Int
 Values : List Int
instance ty26 : ITY Tryz.prog 26 2 48 (.agg [(.slice none 0 0), (.slice none 0 0)].toArray) := ⟨by unfold TY; kernel_rfl⟩
instance sl22 : ISL Tryz.prog 22 3 := ⟨by unfold SL; kernel_rfl⟩
instance cf6 : ICF Tryz.prog 6 := ⟨fun _ _ => Tryz.call6 _ _⟩
instance sl23 : ISL Tryz.prog 23 64 := ⟨by unfold SL; kernel_rfl⟩
def rd64 (H : AHeap) (v : Value) (a : Method) : Prop := ∃ v0 : Sv, v = .agg [(.int .i64 a.Rel), v0.v, (.int .i64 a.Limit), (.int .i64 a.Cost), (.int .i64 a.Quota)].toArray ∧ (RdS 3 rdInt) H v0.v a.Inputs
instance : Mono rd64 := ⟨fun h hi => by
 obtain ⟨v0, h, h0⟩ := h
 exact ⟨v0, h, Mono.up h0 hi⟩⟩
instance : Cells rd64 5 := ⟨fun h => by
 obtain ⟨v0, rfl, h0⟩ := h
 exact ⟨rfl, rfl⟩⟩
instance ty64 : ITY Tryz.prog 64 5 56 (.agg [(.int .i64 0), (.slice none 0 0), (.int .i64 0), (.int .i64 0), (.int .i64 0)].toArray) := ⟨by unfold TY; kernel_rfl⟩
def ul64_0_64 (a : Method) (p : Sv) : List Value := [(.int .i64 a.Rel), p.v, (.int .i64 a.Limit), (.int .i64 a.Cost), (.int .i64 a.Quota)]
theorem la64_0_64 {a : Method} : ∀ H e, rd64 H e a → ∃ i : Sv, 0 + 5 ≤ e.cells.size ∧ (e.cells.toList.drop 0).take 5 = ul64_0_64 a i ∧ ∀ c ∈ ([crd (RdS 3 rdInt) i.v a.Inputs] : List Comp), c.P H ∧ c.F = [] := by
 intro H e h
 obtain ⟨v0, rfl, h0⟩ := h
 refine ⟨v0, Nat.le_of_ble_eq_true rfl, rfl, fun c hc => by
   simp only [List.mem_cons, List.not_mem_nil, or_false] at hc
   rcases hc with rfl
   · exact ⟨h0, rfl⟩
⟩
instance ag64 : IAG Tryz.prog 64 true := ⟨by unfold AG; kernel_rfl⟩
instance cf33 : ICF Tryz.prog 33 := ⟨fun _ _ => Tryz.call33 _ _⟩
instance fd64_1 : IFD Tryz.prog 64 1 1 := ⟨by unfold FD; kernel_rfl⟩
instance ag22 : IAG Tryz.prog 22 false := ⟨by unfold AG; kernel_rfl⟩
instance cf34 : ICF Tryz.prog 34 := ⟨fun _ _ => Tryz.call34 _ _⟩
instance ag26 : IAG Tryz.prog 26 true := ⟨by unfold AG; kernel_rfl⟩
instance cf7 : ICF Tryz.prog 7 := ⟨fun _ _ => Tryz.call7 _ _⟩
instance fd26_0 : IFD Tryz.prog 26 0 0 := ⟨by unfold FD; kernel_rfl⟩
instance fd26_1 : IFD Tryz.prog 26 1 1 := ⟨by unfold FD; kernel_rfl⟩
instance ag24 : IAG Tryz.prog 24 false := ⟨by unfold AG; kernel_rfl⟩
instance cf35 : ICF Tryz.prog 35 := ⟨fun _ _ => Tryz.call35 _ _⟩
instance sl24 : ISL Tryz.prog 24 94 := ⟨by unfold SL; kernel_rfl⟩
def rd94 (H : AHeap) (v : Value) (a : Atom) : Prop := ∃ v0 : Sv, v = .agg [(.int .i64 a.Rel), v0.v].toArray ∧ (RdS 3 rdInt) H v0.v a.Terms
instance : Mono rd94 := ⟨fun h hi => by
 obtain ⟨v0, h, h0⟩ := h
 exact ⟨v0, h, Mono.up h0 hi⟩⟩
instance : Cells rd94 2 := ⟨fun h => by
 obtain ⟨v0, rfl, h0⟩ := h
 exact ⟨rfl, rfl⟩⟩
instance ty94 : ITY Tryz.prog 94 2 32 (.agg [(.int .i64 0), (.slice none 0 0)].toArray) := ⟨by unfold TY; kernel_rfl⟩
def ul94_0_94 (a : Atom) (p : Sv) : List Value := [(.int .i64 a.Rel), p.v]
theorem la94_0_94 {a : Atom} : ∀ H e, rd94 H e a → ∃ i : Sv, 0 + 2 ≤ e.cells.size ∧ (e.cells.toList.drop 0).take 2 = ul94_0_94 a i ∧ ∀ c ∈ ([crd (RdS 3 rdInt) i.v a.Terms] : List Comp), c.P H ∧ c.F = [] := by
 intro H e h
 obtain ⟨v0, rfl, h0⟩ := h
 refine ⟨v0, Nat.le_of_ble_eq_true rfl, rfl, fun c hc => by
   simp only [List.mem_cons, List.not_mem_nil, or_false] at hc
   rcases hc with rfl
   · exact ⟨h0, rfl⟩
⟩
instance ag94 : IAG Tryz.prog 94 true := ⟨by unfold AG; kernel_rfl⟩
instance cf64 : ICF Tryz.prog 64 := ⟨fun _ _ => Tryz.call64 _ _⟩
instance fd94_1 : IFD Tryz.prog 94 1 1 := ⟨by unfold FD; kernel_rfl⟩
instance cf8 : ICF Tryz.prog 8 := ⟨fun _ _ => Tryz.call8 _ _⟩
instance sl27 : ISL Tryz.prog 27 68 := ⟨by unfold SL; kernel_rfl⟩
def rd68 (H : AHeap) (v : Value) (a : Fact) : Prop := ∃ v0 : Sv, v = .agg [(.int .i64 a.Rel), v0.v].toArray ∧ (RdS 3 rdInt) H v0.v a.Values
instance : Mono rd68 := ⟨fun h hi => by
 obtain ⟨v0, h, h0⟩ := h
 exact ⟨v0, h, Mono.up h0 hi⟩⟩
instance : Cells rd68 2 := ⟨fun h => by
 obtain ⟨v0, rfl, h0⟩ := h
 exact ⟨rfl, rfl⟩⟩
instance ty68 : ITY Tryz.prog 68 2 32 (.agg [(.int .i64 0), (.slice none 0 0)].toArray) := ⟨by unfold TY; kernel_rfl⟩
def ul68_0_68 (a : Fact) (p : Sv) : List Value := [(.int .i64 a.Rel), p.v]
theorem la68_0_68 {a : Fact} : ∀ H e, rd68 H e a → ∃ i : Sv, 0 + 2 ≤ e.cells.size ∧ (e.cells.toList.drop 0).take 2 = ul68_0_68 a i ∧ ∀ c ∈ ([crd (RdS 3 rdInt) i.v a.Values] : List Comp), c.P H ∧ c.F = [] := by
 intro H e h
 obtain ⟨v0, rfl, h0⟩ := h
 refine ⟨v0, Nat.le_of_ble_eq_true rfl, rfl, fun c hc => by
   simp only [List.mem_cons, List.not_mem_nil, or_false] at hc
   rcases hc with rfl
   · exact ⟨h0, rfl⟩
⟩
instance ag68 : IAG Tryz.prog 68 true := ⟨by unfold AG; kernel_rfl⟩
instance cf36 : ICF Tryz.prog 36 := ⟨fun _ _ => Tryz.call36 _ _⟩
instance fd68_1 : IFD Tryz.prog 68 1 1 := ⟨by unfold FD; kernel_rfl⟩
theorem mixed : Tryz.prog.follows .mixedOrders = true := by kernel_rfl
instance cf10 : ICF Tryz.prog 10 := ⟨fun _ _ => Tryz.call10 _ _⟩
instance ty3 : ITY Tryz.prog 3 1 8 (.int .i64 0) := ⟨by unfold TY; kernel_rfl⟩
theorem ls3_0 {a : Int} : ∀ H e, rdInt H e a → e.cells.toList[0]? = some (.int .i64 a) := by
 intro H e h
 subst h
 rfl
instance ag3 : IAG Tryz.prog 3 false := ⟨by unfold AG; kernel_rfl⟩
instance cf11 : ICF Tryz.prog 11 := ⟨fun _ _ => Tryz.call11 _ _⟩
instance sl34 : ISL Tryz.prog 34 77 := ⟨by unfold SL; kernel_rfl⟩
instance ty77 : ITY Tryz.prog 77 5 56 (.agg [(.int .i64 0), (.slice none 0 0), (.int .i64 0), (.int .i64 0), (.int .i64 0)].toArray) := ⟨by unfold TY; kernel_rfl⟩
def rd77 (H : AHeap) (v : Value) (a : Method) : Prop := ∃ v0 : Sv, v = .agg [(.int .i64 a.Rel), v0.v, (.int .i64 a.Limit), (.int .i64 a.Cost), (.int .i64 a.Quota)].toArray ∧ (RdS 3 rdInt) H v0.v a.Inputs
instance : Mono rd77 := ⟨fun h hi => by
 obtain ⟨v0, h, h0⟩ := h
 exact ⟨v0, h, Mono.up h0 hi⟩⟩
instance : Cells rd77 5 := ⟨fun h => by
 obtain ⟨v0, rfl, h0⟩ := h
 exact ⟨rfl, rfl⟩⟩
def ow77 : ORel Method := fun F H v a => ∃ (v0 : Sv) (F0 : List Nat), v = .agg [(.int .i64 a.Rel), v0.v, (.int .i64 a.Limit), (.int .i64 a.Cost), (.int .i64 a.Quota)].toArray ∧ F0 = F ∧ (OwnS 3 (roE rdInt)) F0 H v0.v a.Inputs
instance : Keep ow77 := ⟨fun h hi hg => by
 obtain ⟨v0, F0, rfl, rfl, h0⟩ := h
 exact ⟨v0, F0, rfl, rfl, Keep.keep h0 hi (fun k hk => hg k (by simp [hk]))⟩⟩
instance : Local ow77 := ⟨fun h hg => by
 obtain ⟨v0, F0, rfl, rfl, h0⟩ := h
 exact ⟨v0, F0, rfl, rfl, Local.keep h0 (fun k hk => hg k (by simp [hk]))⟩⟩
instance : Owns ow77 := ⟨fun h k hk => by
 obtain ⟨v0, F0, rfl, rfl, h0⟩ := h
 exact Owns.owns h0 k hk
⟩
instance : OCells ow77 5 := ⟨fun h => by
 obtain ⟨v0, F0, rfl, rfl, h0⟩ := h
 exact ⟨rfl, rfl⟩⟩
instance : Frz ow77 rd77 := ⟨fun h hg => by
 obtain ⟨v0, F0, rfl, rfl, h0⟩ := h
 exact ⟨v0, rfl, Frz.frz h0 (fun k hk => hg k (by simp [hk]))⟩⟩
instance cf42 : ICF Tryz.prog 42 := ⟨fun _ _ => Tryz.call42 _ _⟩
instance fd64_0 : IFD Tryz.prog 64 0 0 := ⟨by unfold FD; kernel_rfl⟩
instance fd77_0 : IFD Tryz.prog 77 0 0 := ⟨by unfold FD; kernel_rfl⟩
instance fd77_1 : IFD Tryz.prog 77 1 1 := ⟨by unfold FD; kernel_rfl⟩
instance ty22 : ITY Tryz.prog 22 1 24 (.slice none 0 0) := ⟨by unfold TY; kernel_rfl⟩
instance fd64_2 : IFD Tryz.prog 64 2 2 := ⟨by unfold FD; kernel_rfl⟩
instance fd77_2 : IFD Tryz.prog 77 2 2 := ⟨by unfold FD; kernel_rfl⟩
instance fd64_3 : IFD Tryz.prog 64 3 3 := ⟨by unfold FD; kernel_rfl⟩
instance fd77_3 : IFD Tryz.prog 77 3 3 := ⟨by unfold FD; kernel_rfl⟩
instance fd64_4 : IFD Tryz.prog 64 4 4 := ⟨by unfold FD; kernel_rfl⟩
instance fd77_4 : IFD Tryz.prog 77 4 4 := ⟨by unfold FD; kernel_rfl⟩
instance ag77 : IAG Tryz.prog 77 true := ⟨by unfold AG; kernel_rfl⟩
theorem mk77 {a : Method} {v0 : Sv} {F0 : List Nat} : Mk ow77 F0 (.agg [(.int .i64 a.Rel), v0.v, (.int .i64 a.Limit), (.int .i64 a.Cost), (.int .i64 a.Quota)].toArray) a [cown (OwnS 3 (roE rdInt)) F0 v0.v a.Inputs] :=
 ⟨fun H h => ⟨v0, F0, rfl, rfl, h (cown (OwnS 3 (roE rdInt)) F0 v0.v a.Inputs) (by simp)⟩, by simp [cown]⟩
instance cf12 : ICF Tryz.prog 12 := ⟨fun _ _ => Tryz.call12 _ _⟩
instance ty38 : ITY Tryz.prog 38 2 48 (.agg [(.slice none 0 0), (.slice none 0 0)].toArray) := ⟨by unfold TY; kernel_rfl⟩
instance fd38_0 : IFD Tryz.prog 38 0 0 := ⟨by unfold FD; kernel_rfl⟩
instance cf43 : ICF Tryz.prog 43 := ⟨fun _ _ => Tryz.call43 _ _⟩
instance sl36 : ISL Tryz.prog 36 102 := ⟨by unfold SL; kernel_rfl⟩
instance ty102 : ITY Tryz.prog 102 2 32 (.agg [(.int .i64 0), (.slice none 0 0)].toArray) := ⟨by unfold TY; kernel_rfl⟩
def rd102 (H : AHeap) (v : Value) (a : Atom) : Prop := ∃ v0 : Sv, v = .agg [(.int .i64 a.Rel), v0.v].toArray ∧ (RdS 3 rdInt) H v0.v a.Terms
instance : Mono rd102 := ⟨fun h hi => by
 obtain ⟨v0, h, h0⟩ := h
 exact ⟨v0, h, Mono.up h0 hi⟩⟩
instance : Cells rd102 2 := ⟨fun h => by
 obtain ⟨v0, rfl, h0⟩ := h
 exact ⟨rfl, rfl⟩⟩
def ow102 : ORel Atom := fun F H v a => ∃ (v0 : Sv) (F0 : List Nat), v = .agg [(.int .i64 a.Rel), v0.v].toArray ∧ F0 = F ∧ (OwnS 3 (roE rdInt)) F0 H v0.v a.Terms
instance : Keep ow102 := ⟨fun h hi hg => by
 obtain ⟨v0, F0, rfl, rfl, h0⟩ := h
 exact ⟨v0, F0, rfl, rfl, Keep.keep h0 hi (fun k hk => hg k (by simp [hk]))⟩⟩
instance : Local ow102 := ⟨fun h hg => by
 obtain ⟨v0, F0, rfl, rfl, h0⟩ := h
 exact ⟨v0, F0, rfl, rfl, Local.keep h0 (fun k hk => hg k (by simp [hk]))⟩⟩
instance : Owns ow102 := ⟨fun h k hk => by
 obtain ⟨v0, F0, rfl, rfl, h0⟩ := h
 exact Owns.owns h0 k hk
⟩
instance : OCells ow102 2 := ⟨fun h => by
 obtain ⟨v0, F0, rfl, rfl, h0⟩ := h
 exact ⟨rfl, rfl⟩⟩
instance : Frz ow102 rd102 := ⟨fun h hg => by
 obtain ⟨v0, F0, rfl, rfl, h0⟩ := h
 exact ⟨v0, rfl, Frz.frz h0 (fun k hk => hg k (by simp [hk]))⟩⟩
instance cf75 : ICF Tryz.prog 75 := ⟨fun _ _ => Tryz.call75 _ _⟩
instance fd94_0 : IFD Tryz.prog 94 0 0 := ⟨by unfold FD; kernel_rfl⟩
instance fd102_0 : IFD Tryz.prog 102 0 0 := ⟨by unfold FD; kernel_rfl⟩
instance fd102_1 : IFD Tryz.prog 102 1 1 := ⟨by unfold FD; kernel_rfl⟩
instance ag102 : IAG Tryz.prog 102 true := ⟨by unfold AG; kernel_rfl⟩
theorem mk102 {a : Atom} {v0 : Sv} {F0 : List Nat} : Mk ow102 F0 (.agg [(.int .i64 a.Rel), v0.v].toArray) a [cown (OwnS 3 (roE rdInt)) F0 v0.v a.Terms] :=
 ⟨fun H h => ⟨v0, F0, rfl, rfl, h (cown (OwnS 3 (roE rdInt)) F0 v0.v a.Terms) (by simp)⟩, by simp [cown]⟩
instance fd38_1 : IFD Tryz.prog 38 1 1 := ⟨by unfold FD; kernel_rfl⟩
instance ty36 : ITY Tryz.prog 36 1 24 (.slice none 0 0) := ⟨by unfold TY; kernel_rfl⟩
instance ag38 : IAG Tryz.prog 38 true := ⟨by unfold AG; kernel_rfl⟩
instance cf13 : ICF Tryz.prog 13 := ⟨fun _ _ => Tryz.call13 _ _⟩
instance sl40 : ISL Tryz.prog 40 80 := ⟨by unfold SL; kernel_rfl⟩
instance ty80 : ITY Tryz.prog 80 2 32 (.agg [(.int .i64 0), (.slice none 0 0)].toArray) := ⟨by unfold TY; kernel_rfl⟩
def rd80 (H : AHeap) (v : Value) (a : Fact) : Prop := ∃ v0 : Sv, v = .agg [(.int .i64 a.Rel), v0.v].toArray ∧ (RdS 3 rdInt) H v0.v a.Values
instance : Mono rd80 := ⟨fun h hi => by
 obtain ⟨v0, h, h0⟩ := h
 exact ⟨v0, h, Mono.up h0 hi⟩⟩
instance : Cells rd80 2 := ⟨fun h => by
 obtain ⟨v0, rfl, h0⟩ := h
 exact ⟨rfl, rfl⟩⟩
def ow80 : ORel Fact := fun F H v a => ∃ (v0 : Sv) (F0 : List Nat), v = .agg [(.int .i64 a.Rel), v0.v].toArray ∧ F0 = F ∧ (OwnS 3 (roE rdInt)) F0 H v0.v a.Values
instance : Keep ow80 := ⟨fun h hi hg => by
 obtain ⟨v0, F0, rfl, rfl, h0⟩ := h
 exact ⟨v0, F0, rfl, rfl, Keep.keep h0 hi (fun k hk => hg k (by simp [hk]))⟩⟩
instance : Local ow80 := ⟨fun h hg => by
 obtain ⟨v0, F0, rfl, rfl, h0⟩ := h
 exact ⟨v0, F0, rfl, rfl, Local.keep h0 (fun k hk => hg k (by simp [hk]))⟩⟩
instance : Owns ow80 := ⟨fun h k hk => by
 obtain ⟨v0, F0, rfl, rfl, h0⟩ := h
 exact Owns.owns h0 k hk
⟩
instance : OCells ow80 2 := ⟨fun h => by
 obtain ⟨v0, F0, rfl, rfl, h0⟩ := h
 exact ⟨rfl, rfl⟩⟩
instance : Frz ow80 rd80 := ⟨fun h hg => by
 obtain ⟨v0, F0, rfl, rfl, h0⟩ := h
 exact ⟨v0, rfl, Frz.frz h0 (fun k hk => hg k (by simp [hk]))⟩⟩
instance cf44 : ICF Tryz.prog 44 := ⟨fun _ _ => Tryz.call44 _ _⟩
instance fd68_0 : IFD Tryz.prog 68 0 0 := ⟨by unfold FD; kernel_rfl⟩
instance fd80_0 : IFD Tryz.prog 80 0 0 := ⟨by unfold FD; kernel_rfl⟩
instance fd80_1 : IFD Tryz.prog 80 1 1 := ⟨by unfold FD; kernel_rfl⟩
instance ag80 : IAG Tryz.prog 80 true := ⟨by unfold AG; kernel_rfl⟩
theorem mk80 {a : Fact} {v0 : Sv} {F0 : List Nat} : Mk ow80 F0 (.agg [(.int .i64 a.Rel), v0.v].toArray) a [cown (OwnS 3 (roE rdInt)) F0 v0.v a.Values] :=
 ⟨fun H h => ⟨v0, F0, rfl, rfl, h (cown (OwnS 3 (roE rdInt)) F0 v0.v a.Values) (by simp)⟩, by simp [cown]⟩
instance cf31 : ICF Tryz.prog 31 := ⟨fun _ _ => Tryz.call31 _ _⟩
instance sl31 : ISL Tryz.prog 31 22 := ⟨by unfold SL; kernel_rfl⟩
instance cf41 : ICF Tryz.prog 41 := ⟨fun _ _ => Tryz.call41 _ _⟩
instance cf65 : ICF Tryz.prog 65 := ⟨fun _ _ => Tryz.call65 _ _⟩
instance ag36 : IAG Tryz.prog 36 false := ⟨by unfold AG; kernel_rfl⟩
instance cf102 : ICF Tryz.prog 102 := ⟨fun _ _ => Tryz.call102 _ _⟩
theorem lv102_1 {a : Atom} : ∀ H e, rd102 H e a → ∃ w : Sv, e.cells.toList[1]? = some w.v ∧ (RdS 3 rdInt) H w.v a.Terms := by
 intro H e h
 obtain ⟨v0, rfl, h0⟩ := h
 exact ⟨v0, rfl, h0⟩
instance cf142 : ICF Tryz.prog 142 := ⟨fun _ _ => Tryz.call142 _ _⟩
instance cf71 : ICF Tryz.prog 71 := ⟨fun _ _ => Tryz.call71 _ _⟩
instance cf72 : ICF Tryz.prog 72 := ⟨fun _ _ => Tryz.call72 _ _⟩
instance cf103 : ICF Tryz.prog 103 := ⟨fun _ _ => Tryz.call103 _ _⟩
theorem ni22 : NotInt Tryz.prog 22 := .inr ⟨3, by kernel_rfl⟩
instance cf68 : ICF Tryz.prog 68 := ⟨fun _ _ => Tryz.call68 _ _⟩
def ul102_0_102 (a : Atom) (p : Sv) : List Value := [(.int .i64 a.Rel), p.v]
theorem la102_0_102 {a : Atom} : ∀ H e, rd102 H e a → ∃ i : Sv, 0 + 2 ≤ e.cells.size ∧ (e.cells.toList.drop 0).take 2 = ul102_0_102 a i ∧ ∀ c ∈ ([crd (RdS 3 rdInt) i.v a.Terms] : List Comp), c.P H ∧ c.F = [] := by
 intro H e h
 obtain ⟨v0, rfl, h0⟩ := h
 refine ⟨v0, Nat.le_of_ble_eq_true rfl, rfl, fun c hc => by
   simp only [List.mem_cons, List.not_mem_nil, or_false] at hc
   rcases hc with rfl
   · exact ⟨h0, rfl⟩
⟩
instance cf101 : ICF Tryz.prog 101 := ⟨fun _ _ => Tryz.call101 _ _⟩
instance cf141 : ICF Tryz.prog 141 := ⟨fun _ _ => Tryz.call141 _ _⟩
instance cf38 : ICF Tryz.prog 38 := ⟨fun _ _ => Tryz.call38 _ _⟩
def ul80_0_80 (a : Fact) (p : Sv) : List Value := [(.int .i64 a.Rel), p.v]
theorem la80_0_80 {a : Fact} : ∀ H e, rd80 H e a → ∃ i : Sv, 0 + 2 ≤ e.cells.size ∧ (e.cells.toList.drop 0).take 2 = ul80_0_80 a i ∧ ∀ c ∈ ([crd (RdS 3 rdInt) i.v a.Values] : List Comp), c.P H ∧ c.F = [] := by
 intro H e h
 obtain ⟨v0, rfl, h0⟩ := h
 refine ⟨v0, Nat.le_of_ble_eq_true rfl, rfl, fun c hc => by
   simp only [List.mem_cons, List.not_mem_nil, or_false] at hc
   rcases hc with rfl
   · exact ⟨h0, rfl⟩
⟩
instance cf66 : ICF Tryz.prog 66 := ⟨fun _ _ => Tryz.call66 _ _⟩
instance cf67 : ICF Tryz.prog 67 := ⟨fun _ _ => Tryz.call67 _ _⟩
instance cf74 : ICF Tryz.prog 74 := ⟨fun _ _ => Tryz.call74 _ _⟩
structure Binding where
 Vars : List Int
 Values : List Int
instance ty126 : ITY Tryz.prog 126 2 48 (.agg [(.slice none 0 0), (.slice none 0 0)].toArray) := ⟨by unfold TY; kernel_rfl⟩
instance sl106 : ISL Tryz.prog 106 126 := ⟨by unfold SL; kernel_rfl⟩
def rd126 (H : AHeap) (v : Value) (a : Binding) : Prop := ∃ v0 v1 : Sv, v = .agg [v0.v, v1.v].toArray ∧ (RdS 3 rdInt) H v0.v a.Vars ∧ (RdS 3 rdInt) H v1.v a.Values
instance : Mono rd126 := ⟨fun h hi => by
 obtain ⟨v0, v1, h, h0, h1⟩ := h
 exact ⟨v0, v1, h, Mono.up h0 hi, Mono.up h1 hi⟩⟩
instance : Cells rd126 2 := ⟨fun h => by
 obtain ⟨v0, v1, rfl, h0, h1⟩ := h
 exact ⟨rfl, rfl⟩⟩
def ow126 : ORel Binding := fun F H v a => ∃ (v0 v1 : Sv) (F0 F1 : List Nat), v = .agg [v0.v, v1.v].toArray ∧ F = (F0 ++ F1) ∧ (OwnS 3 (roE rdInt)) F0 H v0.v a.Vars ∧ (OwnS 3 (roE rdInt)) F1 H v1.v a.Values
instance : Keep ow126 := ⟨fun h hi hg => by
 obtain ⟨v0, v1, F0, F1, rfl, rfl, h0, h1⟩ := h
 exact ⟨v0, v1, F0, F1, rfl, rfl, Keep.keep h0 hi (fun k hk => hg k (by simp [hk])), Keep.keep h1 hi (fun k hk => hg k (by simp [hk]))⟩⟩
instance : Local ow126 := ⟨fun h hg => by
 obtain ⟨v0, v1, F0, F1, rfl, rfl, h0, h1⟩ := h
 exact ⟨v0, v1, F0, F1, rfl, rfl, Local.keep h0 (fun k hk => hg k (by simp [hk])), Local.keep h1 (fun k hk => hg k (by simp [hk]))⟩⟩
instance : Owns ow126 := ⟨fun h k hk => by
 obtain ⟨v0, v1, F0, F1, rfl, rfl, h0, h1⟩ := h
 simp only [List.mem_append] at hk
 rcases hk with hk | hk
 · exact Owns.owns h0 k hk
 · exact Owns.owns h1 k hk
⟩
instance : OCells ow126 2 := ⟨fun h => by
 obtain ⟨v0, v1, F0, F1, rfl, rfl, h0, h1⟩ := h
 exact ⟨rfl, rfl⟩⟩
instance : Frz ow126 rd126 := ⟨fun h hg => by
 obtain ⟨v0, v1, F0, F1, rfl, rfl, h0, h1⟩ := h
 exact ⟨v0, v1, rfl, Frz.frz h0 (fun k hk => hg k (by simp [hk])), Frz.frz h1 (fun k hk => hg k (by simp [hk]))⟩⟩
theorem mk126 {a : Binding} {v0 v1 : Sv} {F0 F1 : List Nat} : Mk ow126 (F0 ++ F1) (.agg [v0.v, v1.v].toArray) a [cown (OwnS 3 (roE rdInt)) F0 v0.v a.Vars, cown (OwnS 3 (roE rdInt)) F1 v1.v a.Values] :=
 ⟨fun H h => ⟨v0, v1, F0, F1, rfl, rfl, h (cown (OwnS 3 (roE rdInt)) F0 v0.v a.Vars) (by simp), h (cown (OwnS 3 (roE rdInt)) F1 v1.v a.Values) (by simp)⟩, by simp [cown]⟩
instance cf109 : ICF Tryz.prog 109 := ⟨fun _ _ => Tryz.call109 _ _⟩
def ul126_0_126 (a : Binding) (p : Sv × Sv) : List Value := [p.1.v, p.2.v]
theorem la126_0_126 {a : Binding} : ∀ H e, rd126 H e a → ∃ i : Sv × Sv, 0 + 2 ≤ e.cells.size ∧ (e.cells.toList.drop 0).take 2 = ul126_0_126 a i ∧ ∀ c ∈ ([crd (RdS 3 rdInt) i.1.v a.Vars, crd (RdS 3 rdInt) i.2.v a.Values] : List Comp), c.P H ∧ c.F = [] := by
 intro H e h
 obtain ⟨v0, v1, rfl, h0, h1⟩ := h
 refine ⟨(v0, v1), Nat.le_of_ble_eq_true rfl, rfl, fun c hc => by
   simp only [List.mem_cons, List.not_mem_nil, or_false] at hc
   rcases hc with rfl | rfl
   · exact ⟨h0, rfl⟩
   · exact ⟨h1, rfl⟩
⟩
instance ag126 : IAG Tryz.prog 126 true := ⟨by unfold AG; kernel_rfl⟩
instance cf149 : ICF Tryz.prog 149 := ⟨fun _ _ => Tryz.call149 _ _⟩
instance cf184 : ICF Tryz.prog 184 := ⟨fun _ _ => Tryz.call184 _ _⟩
instance fd126_0 : IFD Tryz.prog 126 0 0 := ⟨by unfold FD; kernel_rfl⟩
instance fd126_1 : IFD Tryz.prog 126 1 1 := ⟨by unfold FD; kernel_rfl⟩
instance cf107 : ICF Tryz.prog 107 := ⟨fun _ _ => Tryz.call107 _ _⟩
instance cf185 : ICF Tryz.prog 185 := ⟨fun _ _ => Tryz.call185 _ _⟩
instance cf186 : ICF Tryz.prog 186 := ⟨fun _ _ => Tryz.call186 _ _⟩
theorem ni106 : NotInt Tryz.prog 106 := .inr ⟨126, by kernel_rfl⟩
instance cf73 : ICF Tryz.prog 73 := ⟨fun _ _ => Tryz.call73 _ _⟩
instance cf108 : ICF Tryz.prog 108 := ⟨fun _ _ => Tryz.call108 _ _⟩
theorem ni31 : NotInt Tryz.prog 31 := .inr ⟨22, by kernel_rfl⟩
theorem lv22_0 {a : List Int} : ∀ H e, (RdS 3 rdInt) H e a → ∃ w : Sv, e.cells.toList[0]? = some w.v ∧ (RdS 3 rdInt) H w.v a := by
 intro H e h
 obtain ⟨a0, m, rfl⟩ := RdS.len h
 exact ⟨⟨a0, _, m⟩, rfl, h⟩
instance cf148 : ICF Tryz.prog 148 := ⟨fun _ _ => Tryz.call148 _ _⟩
instance cf60 : ICF Tryz.prog 60 := ⟨fun _ _ => Tryz.call60 _ _⟩
instance cf9 : ICF Tryz.prog 9 := ⟨fun _ _ => Tryz.call9 _ _⟩
instance cf37 : ICF Tryz.prog 37 := ⟨fun _ _ => Tryz.call37 _ _⟩
instance cf59 : ICF Tryz.prog 59 := ⟨fun _ _ => Tryz.call59 _ _⟩
def ul77_0_77 (a : Method) (p : Sv) : List Value := [(.int .i64 a.Rel), p.v, (.int .i64 a.Limit), (.int .i64 a.Cost), (.int .i64 a.Quota)]
theorem la77_0_77 {a : Method} : ∀ H e, rd77 H e a → ∃ i : Sv, 0 + 5 ≤ e.cells.size ∧ (e.cells.toList.drop 0).take 5 = ul77_0_77 a i ∧ ∀ c ∈ ([crd (RdS 3 rdInt) i.v a.Inputs] : List Comp), c.P H ∧ c.F = [] := by
 intro H e h
 obtain ⟨v0, rfl, h0⟩ := h
 refine ⟨v0, Nat.le_of_ble_eq_true rfl, rfl, fun c hc => by
   simp only [List.mem_cons, List.not_mem_nil, or_false] at hc
   rcases hc with rfl
   · exact ⟨h0, rfl⟩
⟩
instance cf94 : ICF Tryz.prog 94 := ⟨fun _ _ => Tryz.call94 _ _⟩
instance cf40 : ICF Tryz.prog 40 := ⟨fun _ _ => Tryz.call40 _ _⟩
instance cf39 : ICF Tryz.prog 39 := ⟨fun _ _ => Tryz.call39 _ _⟩
structure Access where
 Method : Int
 Values : List Int
structure Reached where
 Facts : List Fact
 Values : List Int
 Log : List Access
 Rounds : Int
instance ty73 : ITY Tryz.prog 73 4 80 (.agg [(.slice none 0 0), (.slice none 0 0), (.slice none 0 0), (.int .i64 0)].toArray) := ⟨by unfold TY; kernel_rfl⟩
instance cf69 : ICF Tryz.prog 69 := ⟨fun _ _ => Tryz.call69 _ _⟩
instance ag73 : IAG Tryz.prog 73 true := ⟨by unfold AG; kernel_rfl⟩
def rd141 (H : AHeap) (v : Value) (a : Access) : Prop := ∃ v0 : Sv, v = .agg [(.int .i64 a.Method), v0.v].toArray ∧ (RdS 3 rdInt) H v0.v a.Values
instance : Mono rd141 := ⟨fun h hi => by
 obtain ⟨v0, h, h0⟩ := h
 exact ⟨v0, h, Mono.up h0 hi⟩⟩
instance : Cells rd141 2 := ⟨fun h => by
 obtain ⟨v0, rfl, h0⟩ := h
 exact ⟨rfl, rfl⟩⟩
def ow141 : ORel Access := fun F H v a => ∃ (v0 : Sv) (F0 : List Nat), v = .agg [(.int .i64 a.Method), v0.v].toArray ∧ F0 = F ∧ (OwnS 3 (roE rdInt)) F0 H v0.v a.Values
instance : Keep ow141 := ⟨fun h hi hg => by
 obtain ⟨v0, F0, rfl, rfl, h0⟩ := h
 exact ⟨v0, F0, rfl, rfl, Keep.keep h0 hi (fun k hk => hg k (by simp [hk]))⟩⟩
instance : Local ow141 := ⟨fun h hg => by
 obtain ⟨v0, F0, rfl, rfl, h0⟩ := h
 exact ⟨v0, F0, rfl, rfl, Local.keep h0 (fun k hk => hg k (by simp [hk]))⟩⟩
instance : Owns ow141 := ⟨fun h k hk => by
 obtain ⟨v0, F0, rfl, rfl, h0⟩ := h
 exact Owns.owns h0 k hk
⟩
instance : OCells ow141 2 := ⟨fun h => by
 obtain ⟨v0, F0, rfl, rfl, h0⟩ := h
 exact ⟨rfl, rfl⟩⟩
instance : Frz ow141 rd141 := ⟨fun h hg => by
 obtain ⟨v0, F0, rfl, rfl, h0⟩ := h
 exact ⟨v0, rfl, Frz.frz h0 (fun k hk => hg k (by simp [hk]))⟩⟩
instance fd73_1 : IFD Tryz.prog 73 1 1 := ⟨by unfold FD; kernel_rfl⟩
instance cf70 : ICF Tryz.prog 70 := ⟨fun _ _ => Tryz.call70 _ _⟩
instance cf104 : ICF Tryz.prog 104 := ⟨fun _ _ => Tryz.call104 _ _⟩
instance fd73_0 : IFD Tryz.prog 73 0 0 := ⟨by unfold FD; kernel_rfl⟩
instance ag40 : IAG Tryz.prog 40 false := ⟨by unfold AG; kernel_rfl⟩
instance fd73_3 : IFD Tryz.prog 73 3 3 := ⟨by unfold FD; kernel_rfl⟩
instance cf105 : ICF Tryz.prog 105 := ⟨fun _ _ => Tryz.call105 _ _⟩
instance cf143 : ICF Tryz.prog 143 := ⟨fun _ _ => Tryz.call143 _ _⟩
theorem ls80_0 {a : Fact} : ∀ H e, rd80 H e a → e.cells.toList[0]? = some (.int .i64 a.Rel) := by
 intro H e h
 obtain ⟨_, rfl, _⟩ := h
 rfl
theorem lv80_1 {a : Fact} : ∀ H e, rd80 H e a → ∃ w : Sv, e.cells.toList[1]? = some w.v ∧ (RdS 3 rdInt) H w.v a.Values := by
 intro H e h
 obtain ⟨v0, rfl, h0⟩ := h
 exact ⟨v0, rfl, h0⟩
instance cf178 : ICF Tryz.prog 178 := ⟨fun _ _ => Tryz.call178 _ _⟩
theorem ni40 : NotInt Tryz.prog 40 := .inr ⟨80, by kernel_rfl⟩
instance fd73_2 : IFD Tryz.prog 73 2 2 := ⟨by unfold FD; kernel_rfl⟩
instance ag71 : IAG Tryz.prog 71 false := ⟨by unfold AG; kernel_rfl⟩
instance cf144 : ICF Tryz.prog 144 := ⟨fun _ _ => Tryz.call144 _ _⟩
instance sl71 : ISL Tryz.prog 71 141 := ⟨by unfold SL; kernel_rfl⟩
instance ty141 : ITY Tryz.prog 141 2 32 (.agg [(.int .i64 0), (.slice none 0 0)].toArray) := ⟨by unfold TY; kernel_rfl⟩
instance fd141_0 : IFD Tryz.prog 141 0 0 := ⟨by unfold FD; kernel_rfl⟩
theorem ls141_0 {a : Access} : ∀ H e, rd141 H e a → e.cells.toList[0]? = some (.int .i64 a.Method) := by
 intro H e h
 obtain ⟨_, rfl, _⟩ := h
 rfl
instance fd141_1 : IFD Tryz.prog 141 1 1 := ⟨by unfold FD; kernel_rfl⟩
theorem lv141_1 {a : Access} : ∀ H e, rd141 H e a → ∃ w : Sv, e.cells.toList[1]? = some w.v ∧ (RdS 3 rdInt) H w.v a.Values := by
 intro H e h
 obtain ⟨v0, rfl, h0⟩ := h
 exact ⟨v0, rfl, h0⟩
instance cf179 : ICF Tryz.prog 179 := ⟨fun _ _ => Tryz.call179 _ _⟩
instance ag141 : IAG Tryz.prog 141 true := ⟨by unfold AG; kernel_rfl⟩
theorem mk141 {a : Access} {v0 : Sv} {F0 : List Nat} : Mk ow141 F0 (.agg [(.int .i64 a.Method), v0.v].toArray) a [cown (OwnS 3 (roE rdInt)) F0 v0.v a.Values] :=
 ⟨fun H h => ⟨v0, F0, rfl, rfl, h (cown (OwnS 3 (roE rdInt)) F0 v0.v a.Values) (by simp)⟩, by simp [cown]⟩
theorem ni71 : NotInt Tryz.prog 71 := .inr ⟨141, by kernel_rfl⟩
instance ty71 : ITY Tryz.prog 71 1 24 (.slice none 0 0) := ⟨by unfold TY; kernel_rfl⟩
instance cf106 : ICF Tryz.prog 106 := ⟨fun _ _ => Tryz.call106 _ _⟩
instance cf145 : ICF Tryz.prog 145 := ⟨fun _ _ => Tryz.call145 _ _⟩
theorem ls77_2 {a : Method} : ∀ H e, rd77 H e a → e.cells.toList[2]? = some (.int .i64 a.Limit) := by
 intro H e h
 obtain ⟨_, rfl, _⟩ := h
 rfl
theorem lv77_1 {a : Method} : ∀ H e, rd77 H e a → ∃ w : Sv, e.cells.toList[1]? = some w.v ∧ (RdS 3 rdInt) H w.v a.Inputs := by
 intro H e h
 obtain ⟨v0, rfl, h0⟩ := h
 exact ⟨v0, rfl, h0⟩
instance cf180 : ICF Tryz.prog 180 := ⟨fun _ _ => Tryz.call180 _ _⟩
instance cf181 : ICF Tryz.prog 181 := ⟨fun _ _ => Tryz.call181 _ _⟩
def ul141_0_141 (a : Access) (p : Sv) : List Value := [(.int .i64 a.Method), p.v]
theorem la141_0_141 {a : Access} : ∀ H e, rd141 H e a → ∃ i : Sv, 0 + 2 ≤ e.cells.size ∧ (e.cells.toList.drop 0).take 2 = ul141_0_141 a i ∧ ∀ c ∈ ([crd (RdS 3 rdInt) i.v a.Values] : List Comp), c.P H ∧ c.F = [] := by
 intro H e h
 obtain ⟨v0, rfl, h0⟩ := h
 refine ⟨v0, Nat.le_of_ble_eq_true rfl, rfl, fun c hc => by
   simp only [List.mem_cons, List.not_mem_nil, or_false] at hc
   rcases hc with rfl
   · exact ⟨h0, rfl⟩
⟩
instance cf132 : ICF Tryz.prog 132 := ⟨fun _ _ => Tryz.call132 _ _⟩
theorem mr141 {a : Access} {v0 : Sv} : Mk (roE rd141) [] (.agg [(.int .i64 a.Method), v0.v].toArray) a [crd (RdS 3 rdInt) v0.v a.Values] :=
 ⟨fun H h => ⟨rfl, v0, rfl, h (crd (RdS 3 rdInt) v0.v a.Values) (by simp)⟩, by simp [crd]⟩
instance cf146 : ICF Tryz.prog 146 := ⟨fun _ _ => Tryz.call146 _ _⟩
instance cf182 : ICF Tryz.prog 182 := ⟨fun _ _ => Tryz.call182 _ _⟩
instance cf147 : ICF Tryz.prog 147 := ⟨fun _ _ => Tryz.call147 _ _⟩
instance cf183 : ICF Tryz.prog 183 := ⟨fun _ _ => Tryz.call183 _ _⟩
instance ty40 : ITY Tryz.prog 40 1 24 (.slice none 0 0) := ⟨by unfold TY; kernel_rfl⟩
instance cf32 : ICF Tryz.prog 32 := ⟨fun _ _ => Tryz.call32 _ _⟩
instance cf61 : ICF Tryz.prog 61 := ⟨fun _ _ => Tryz.call61 _ _⟩
instance cf79 : ICF Tryz.prog 79 := ⟨fun _ _ => Tryz.call79 _ _⟩
instance cf110 : ICF Tryz.prog 110 := ⟨fun _ _ => Tryz.call110 _ _⟩
instance cf120 : ICF Tryz.prog 120 := ⟨fun _ _ => Tryz.call120 _ _⟩
instance cf157 : ICF Tryz.prog 157 := ⟨fun _ _ => Tryz.call157 _ _⟩
instance cf121 : ICF Tryz.prog 121 := ⟨fun _ _ => Tryz.call121 _ _⟩
instance cf95 : ICF Tryz.prog 95 := ⟨fun _ _ => Tryz.call95 _ _⟩
instance cf138 : ICF Tryz.prog 138 := ⟨fun _ _ => Tryz.call138 _ _⟩
instance cf96 : ICF Tryz.prog 96 := ⟨fun _ _ => Tryz.call96 _ _⟩
instance cf97 : ICF Tryz.prog 97 := ⟨fun _ _ => Tryz.call97 _ _⟩
instance cf115 : ICF Tryz.prog 115 := ⟨fun _ _ => Tryz.call115 _ _⟩
instance cf139 : ICF Tryz.prog 139 := ⟨fun _ _ => Tryz.call139 _ _⟩
instance cf175 : ICF Tryz.prog 175 := ⟨fun _ _ => Tryz.call175 _ _⟩
instance cf176 : ICF Tryz.prog 176 := ⟨fun _ _ => Tryz.call176 _ _⟩
instance cf177 : ICF Tryz.prog 177 := ⟨fun _ _ => Tryz.call177 _ _⟩
instance cf63 : ICF Tryz.prog 63 := ⟨fun _ _ => Tryz.call63 _ _⟩
instance cf76 : ICF Tryz.prog 76 := ⟨fun _ _ => Tryz.call76 _ _⟩
instance cf111 : ICF Tryz.prog 111 := ⟨fun _ _ => Tryz.call111 _ _⟩
instance cf150 : ICF Tryz.prog 150 := ⟨fun _ _ => Tryz.call150 _ _⟩
instance cf112 : ICF Tryz.prog 112 := ⟨fun _ _ => Tryz.call112 _ _⟩
instance cf113 : ICF Tryz.prog 113 := ⟨fun _ _ => Tryz.call113 _ _⟩
instance cf151 : ICF Tryz.prog 151 := ⟨fun _ _ => Tryz.call151 _ _⟩
instance cf187 : ICF Tryz.prog 187 := ⟨fun _ _ => Tryz.call187 _ _⟩
instance cf188 : ICF Tryz.prog 188 := ⟨fun _ _ => Tryz.call188 _ _⟩
instance cf85 : ICF Tryz.prog 85 := ⟨fun _ _ => Tryz.call85 _ _⟩
instance cf189 : ICF Tryz.prog 189 := ⟨fun _ _ => Tryz.call189 _ _⟩
instance cf114 : ICF Tryz.prog 114 := ⟨fun _ _ => Tryz.call114 _ _⟩
instance cf152 : ICF Tryz.prog 152 := ⟨fun _ _ => Tryz.call152 _ _⟩
instance cf84 : ICF Tryz.prog 84 := ⟨fun _ _ => Tryz.call84 _ _⟩
instance cf130 : ICF Tryz.prog 130 := ⟨fun _ _ => Tryz.call130 _ _⟩
def lays189_ren : Go.Shelf.Ren := ⟨fun | 189 => 130 | 125 => 174 | 257 => 173 | 128 => 211 | 129 => 212 | 294 => 202 | 295 => 203 | 296 => 204 | 297 => 205 | 298 => 206 | 299 => 207 | 216 => 208 | 300 => 209 | 301 => 210 | 328 => 216 | 329 => 217 | 330 => 218 | 331 => 219 | 332 => 220 | 215 => 156 | 343 => 223 | n => n, fun | 28 => 22 | 3 => 3 | 46 => 171 | 0 => 0 | 51 => 194 | 53 => 196 | 4 => 4 | 183 => 186 | 182 => 185 | 131 => 191 | 5 => 5 | 9 => 9 | 218 => 198 | 222 => 202 | 228 => 206 | 229 => 207 | n => n, fun | n => n⟩
theorem lays189 : Go.Proofs.Lays.n189 Tryz.prog lays189_ren := {
 mixed := by kernel_rfl
 f125 := Tryz.func174.trans (congrArg some (by kernel_rfl))
 f128 := Tryz.func211.trans (congrArg some (by kernel_rfl))
 f129 := Tryz.func212.trans (congrArg some (by kernel_rfl))
 f189 := Tryz.func130.trans (congrArg some (by kernel_rfl))
 f215 := Tryz.func156.trans (congrArg some (by kernel_rfl))
 f216 := Tryz.func208.trans (congrArg some (by kernel_rfl))
 f257 := Tryz.func173.trans (congrArg some (by kernel_rfl))
 f294 := Tryz.func202.trans (congrArg some (by kernel_rfl))
 f295 := Tryz.func203.trans (congrArg some (by kernel_rfl))
 f296 := Tryz.func204.trans (congrArg some (by kernel_rfl))
 f297 := Tryz.func205.trans (congrArg some (by kernel_rfl))
 f298 := Tryz.func206.trans (congrArg some (by kernel_rfl))
 f299 := Tryz.func207.trans (congrArg some (by kernel_rfl))
 f300 := Tryz.func209.trans (congrArg some (by kernel_rfl))
 f301 := Tryz.func210.trans (congrArg some (by kernel_rfl))
 f328 := Tryz.func216.trans (congrArg some (by kernel_rfl))
 f329 := Tryz.func217.trans (congrArg some (by kernel_rfl))
 f330 := Tryz.func218.trans (congrArg some (by kernel_rfl))
 f331 := Tryz.func219.trans (congrArg some (by kernel_rfl))
 f332 := Tryz.func220.trans (congrArg some (by kernel_rfl))
 f343 := Tryz.func223.trans (congrArg some (by kernel_rfl))
 t0 := Tryz.underlying0
 a0 := Tryz.isAgg0
 z0 := Tryz.sizeOf0
 v0 := Tryz.zeroValue0
 t3 := Tryz.underlying3
 a3 := Tryz.isAgg3
 z3 := Tryz.sizeOf3
 v3 := Tryz.zeroValue3
 t4 := Tryz.underlying4
 a4 := Tryz.isAgg4
 z4 := Tryz.sizeOf4
 v4 := Tryz.zeroValue4
 t5 := Tryz.underlying5
 a5 := Tryz.isAgg5
 z5 := Tryz.sizeOf5
 v5 := Tryz.zeroValue5
 t9 := Tryz.underlying9
 a9 := Tryz.isAgg9
 z9 := Tryz.sizeOf9
 v9 := Tryz.zeroValue9
 t28 := Tryz.underlying22
 a28 := Tryz.isAgg22
 z28 := Tryz.sizeOf22
 v28 := Tryz.zeroValue22
 t46 := Tryz.underlying171
 a46 := Tryz.isAgg171
 z46 := Tryz.sizeOf171
 v46 := Tryz.zeroValue171
 t51 := Tryz.underlying194
 a51 := Tryz.isAgg194
 z51 := Tryz.sizeOf194
 v51 := Tryz.zeroValue194
 t53 := Tryz.underlying196
 a53 := Tryz.isAgg196
 z53 := Tryz.sizeOf196
 v53 := Tryz.zeroValue196
 t131 := Tryz.underlying191
 a131 := Tryz.isAgg191
 z131 := Tryz.sizeOf191
 v131 := Tryz.zeroValue191
 t182 := Tryz.underlying185
 a182 := Tryz.isAgg185
 z182 := Tryz.sizeOf185
 v182 := Tryz.zeroValue185
 t183 := Tryz.underlying186
 a183 := Tryz.isAgg186
 z183 := Tryz.sizeOf186
 v183 := Tryz.zeroValue186
 t218 := Tryz.underlying198
 a218 := Tryz.isAgg198
 z218 := Tryz.sizeOf198
 v218 := Tryz.zeroValue198
 t222 := Tryz.underlying202
 a222 := Tryz.isAgg202
 z222 := Tryz.sizeOf202
 v222 := Tryz.zeroValue202
 t228 := Tryz.underlying206
 a228 := Tryz.isAgg206
 z228 := Tryz.sizeOf206
 v228 := Tryz.zeroValue206
 t229 := Tryz.underlying207
 a229 := Tryz.isAgg207
 z229 := Tryz.sizeOf207
 v229 := Tryz.zeroValue207 }
instance cf131 : ICF Tryz.prog 131 := ⟨fun _ _ => Tryz.call131 _ _⟩
def lays2020_ren : Go.Shelf.Ren := ⟨fun | 20 => 131 | n => n, fun | 22 => 22 | 3 => 3 | 4 => 4 | 0 => 0 | n => n, fun | n => n⟩
theorem lays2020 : Go.Proofs.Lays2.n20 Tryz.prog lays2020_ren := {
 mixed := by kernel_rfl
 f20 := Tryz.func131.trans (congrArg some (by kernel_rfl))
 t0 := Tryz.underlying0
 a0 := Tryz.isAgg0
 z0 := Tryz.sizeOf0
 v0 := Tryz.zeroValue0
 t3 := Tryz.underlying3
 a3 := Tryz.isAgg3
 z3 := Tryz.sizeOf3
 v3 := Tryz.zeroValue3
 t4 := Tryz.underlying4
 a4 := Tryz.isAgg4
 z4 := Tryz.sizeOf4
 v4 := Tryz.zeroValue4
 t22 := Tryz.underlying22
 a22 := Tryz.isAgg22
 z22 := Tryz.sizeOf22
 v22 := Tryz.zeroValue22
 i3 := by kernel_rfl }
instance cf153 : ICF Tryz.prog 153 := ⟨fun _ _ => Tryz.call153 _ _⟩
instance cf154 : ICF Tryz.prog 154 := ⟨fun _ _ => Tryz.call154 _ _⟩
instance cf190 : ICF Tryz.prog 190 := ⟨fun _ _ => Tryz.call190 _ _⟩
instance cf46 : ICF Tryz.prog 46 := ⟨fun _ _ => Tryz.call46 _ _⟩
instance cf77 : ICF Tryz.prog 77 := ⟨fun _ _ => Tryz.call77 _ _⟩
instance cf116 : ICF Tryz.prog 116 := ⟨fun _ _ => Tryz.call116 _ _⟩
instance cf155 : ICF Tryz.prog 155 := ⟨fun _ _ => Tryz.call155 _ _⟩
instance cf78 : ICF Tryz.prog 78 := ⟨fun _ _ => Tryz.call78 _ _⟩
instance cf118 : ICF Tryz.prog 118 := ⟨fun _ _ => Tryz.call118 _ _⟩
instance cf156 : ICF Tryz.prog 156 := ⟨fun _ _ => Tryz.call156 _ _⟩
instance cf119 : ICF Tryz.prog 119 := ⟨fun _ _ => Tryz.call119 _ _⟩
instance cf117 : ICF Tryz.prog 117 := ⟨fun _ _ => Tryz.call117 _ _⟩
instance cf47 : ICF Tryz.prog 47 := ⟨fun _ _ => Tryz.call47 _ _⟩
instance cf81 : ICF Tryz.prog 81 := ⟨fun _ _ => Tryz.call81 _ _⟩
instance cf124 : ICF Tryz.prog 124 := ⟨fun _ _ => Tryz.call124 _ _⟩
instance cf161 : ICF Tryz.prog 161 := ⟨fun _ _ => Tryz.call161 _ _⟩
instance cf194 : ICF Tryz.prog 194 := ⟨fun _ _ => Tryz.call194 _ _⟩
instance cf140 : ICF Tryz.prog 140 := ⟨fun _ _ => Tryz.call140 _ _⟩
instance cf193 : ICF Tryz.prog 193 := ⟨fun _ _ => Tryz.call193 _ _⟩
instance cf160 : ICF Tryz.prog 160 := ⟨fun _ _ => Tryz.call160 _ _⟩
instance cf80 : ICF Tryz.prog 80 := ⟨fun _ _ => Tryz.call80 _ _⟩
instance cf123 : ICF Tryz.prog 123 := ⟨fun _ _ => Tryz.call123 _ _⟩
instance cf122 : ICF Tryz.prog 122 := ⟨fun _ _ => Tryz.call122 _ _⟩
instance cf58 : ICF Tryz.prog 58 := ⟨fun _ _ => Tryz.call58 _ _⟩
instance cf92 : ICF Tryz.prog 92 := ⟨fun _ _ => Tryz.call92 _ _⟩
instance cf137 : ICF Tryz.prog 137 := ⟨fun _ _ => Tryz.call137 _ _⟩
instance cf93 : ICF Tryz.prog 93 := ⟨fun _ _ => Tryz.call93 _ _⟩
instance cf90 : ICF Tryz.prog 90 := ⟨fun _ _ => Tryz.call90 _ _⟩
instance cf158 : ICF Tryz.prog 158 := ⟨fun _ _ => Tryz.call158 _ _⟩
instance cf159 : ICF Tryz.prog 159 := ⟨fun _ _ => Tryz.call159 _ _⟩
theorem hov191 : ∀ args w, (callFunc 191 args).run Tryz.prog w = ((Extern.SlicesOverlaps.overlaps #[31, 31] #[4] args).run Tryz.prog w).andThen fun v w' => .ok (.value v) w' := fun args w => run_callFunc_extern Tryz.func191 (by kernel_rfl) (by kernel_rfl) (by kernel_rfl) (e := Extern.SlicesOverlaps.overlaps #[31, 31] #[4]) (by kernel_rfl) args w
theorem ik3 : IK Tryz.prog 3 .i64 := by unfold IK; kernel_rfl
instance cf14 : ICF Tryz.prog 14 := ⟨fun _ _ => Tryz.call14 _ _⟩
instance cf45 : ICF Tryz.prog 45 := ⟨fun _ _ => Tryz.call45 _ _⟩
instance cf49 : ICF Tryz.prog 49 := ⟨fun _ _ => Tryz.call49 _ _⟩
instance cf48 : ICF Tryz.prog 48 := ⟨fun _ _ => Tryz.call48 _ _⟩
instance cf82 : ICF Tryz.prog 82 := ⟨fun _ _ => Tryz.call82 _ _⟩
instance cf125 : ICF Tryz.prog 125 := ⟨fun _ _ => Tryz.call125 _ _⟩
instance cf162 : ICF Tryz.prog 162 := ⟨fun _ _ => Tryz.call162 _ _⟩
instance cf195 : ICF Tryz.prog 195 := ⟨fun _ _ => Tryz.call195 _ _⟩
theorem lo3_0 {a : Int} : ∀ F H e, (roE rdInt) F H e a → e.cells.toList[0]? = some (.int .i64 a) := by
 intro F H e h
 obtain ⟨-, h⟩ := h
 subst h
 rfl
instance cf83 : ICF Tryz.prog 83 := ⟨fun _ _ => Tryz.call83 _ _⟩
instance cf126 : ICF Tryz.prog 126 := ⟨fun _ _ => Tryz.call126 _ _⟩
instance cf163 : ICF Tryz.prog 163 := ⟨fun _ _ => Tryz.call163 _ _⟩
instance cf164 : ICF Tryz.prog 164 := ⟨fun _ _ => Tryz.call164 _ _⟩
instance cf196 : ICF Tryz.prog 196 := ⟨fun _ _ => Tryz.call196 _ _⟩
instance cf214 : ICF Tryz.prog 214 := ⟨fun _ _ => Tryz.call214 _ _⟩
instance cf197 : ICF Tryz.prog 197 := ⟨fun _ _ => Tryz.call197 _ _⟩
instance cf136 : ICF Tryz.prog 136 := ⟨fun _ _ => Tryz.call136 _ _⟩
instance cf127 : ICF Tryz.prog 127 := ⟨fun _ _ => Tryz.call127 _ _⟩
instance cf166 : ICF Tryz.prog 166 := ⟨fun _ _ => Tryz.call166 _ _⟩
instance cf172 : ICF Tryz.prog 172 := ⟨fun _ _ => Tryz.call172 _ _⟩
instance cf165 : ICF Tryz.prog 165 := ⟨fun _ _ => Tryz.call165 _ _⟩
instance cf167 : ICF Tryz.prog 167 := ⟨fun _ _ => Tryz.call167 _ _⟩
instance cf169 : ICF Tryz.prog 169 := ⟨fun _ _ => Tryz.call169 _ _⟩
instance cf128 : ICF Tryz.prog 128 := ⟨fun _ _ => Tryz.call128 _ _⟩
instance cf168 : ICF Tryz.prog 168 := ⟨fun _ _ => Tryz.call168 _ _⟩
instance cf198 : ICF Tryz.prog 198 := ⟨fun _ _ => Tryz.call198 _ _⟩
instance cf199 : ICF Tryz.prog 199 := ⟨fun _ _ => Tryz.call199 _ _⟩
instance cf170 : ICF Tryz.prog 170 := ⟨fun _ _ => Tryz.call170 _ _⟩
instance cf171 : ICF Tryz.prog 171 := ⟨fun _ _ => Tryz.call171 _ _⟩
theorem hov200 : ∀ args w, (callFunc 200 args).run Tryz.prog w = ((Extern.SlicesOverlaps.overlaps #[40, 40] #[4] args).run Tryz.prog w).andThen fun v w' => .ok (.value v) w' := fun args w => run_callFunc_extern Tryz.func200 (by kernel_rfl) (by kernel_rfl) (by kernel_rfl) (e := Extern.SlicesOverlaps.overlaps #[40, 40] #[4]) (by kernel_rfl) args w
instance cf129 : ICF Tryz.prog 129 := ⟨fun _ _ => Tryz.call129 _ _⟩
theorem fdt73_0 : FDT Tryz.prog 73 0 0 40 := by unfold FDT; kernel_rfl
instance cf62 : ICF Tryz.prog 62 := ⟨fun _ _ => Tryz.call62 _ _⟩
instance ty31 : ITY Tryz.prog 31 1 24 (.slice none 0 0) := ⟨by unfold TY; kernel_rfl⟩
instance cf99 : ICF Tryz.prog 99 := ⟨fun _ _ => Tryz.call99 _ _⟩
instance cf98 : ICF Tryz.prog 98 := ⟨fun _ _ => Tryz.call98 _ _⟩
instance cf100 : ICF Tryz.prog 100 := ⟨fun _ _ => Tryz.call100 _ _⟩
instance ag31 : IAG Tryz.prog 31 false := ⟨by unfold AG; kernel_rfl⟩
instance cf15 : ICF Tryz.prog 15 := ⟨fun _ _ => Tryz.call15 _ _⟩
instance cf16 : ICF Tryz.prog 16 := ⟨fun _ _ => Tryz.call16 _ _⟩
instance cf17 : ICF Tryz.prog 17 := ⟨fun _ _ => Tryz.call17 _ _⟩
instance cf50 : ICF Tryz.prog 50 := ⟨fun _ _ => Tryz.call50 _ _⟩
instance cf18 : ICF Tryz.prog 18 := ⟨fun _ _ => Tryz.call18 _ _⟩
instance cf51 : ICF Tryz.prog 51 := ⟨fun _ _ => Tryz.call51 _ _⟩
instance cf86 : ICF Tryz.prog 86 := ⟨fun _ _ => Tryz.call86 _ _⟩
instance cf19 : ICF Tryz.prog 19 := ⟨fun _ _ => Tryz.call19 _ _⟩
instance cf52 : ICF Tryz.prog 52 := ⟨fun _ _ => Tryz.call52 _ _⟩
instance cf20 : ICF Tryz.prog 20 := ⟨fun _ _ => Tryz.call20 _ _⟩
instance cf21 : ICF Tryz.prog 21 := ⟨fun _ _ => Tryz.call21 _ _⟩
theorem sf77_0 {a : Method} {d : Int} : ∀ F H e, ow77 F H e a → ow77 F H (setPart e 0 (Value.cells (.int .i64 d)).toList) { a with Rel := d } := by
 intro F H e h
 obtain ⟨v0, F0, rfl, rfl, h0⟩ := h
 exact ⟨v0, F0, rfl, rfl, h0⟩
theorem fsf77_0 {a : Method} : ∀ F H e, ow77 F H e a → 0 + 1 ≤ e.cells.size := by
 intro F H e h
 obtain ⟨v0, F0, rfl, rfl, h0⟩ := h
 exact Nat.le_of_ble_eq_true rfl
theorem pt77_1 : Part ow77 1 (OwnS 3 (roE rdInt)) (fun a : Method => a.Inputs) (fun a d => { a with Inputs := d }) := ⟨fun {F H e a} h => by
 obtain ⟨v0, F0, rfl, rfl, h0⟩ := h
 exact ⟨v0, [], F0, [], rfl, by simp, h0, fun hi hk h' => ⟨v0, _, rfl, by simp, h'⟩⟩⟩
theorem sf77_2 {a : Method} {d : Int} : ∀ F H e, ow77 F H e a → ow77 F H (setPart e 2 (Value.cells (.int .i64 d)).toList) { a with Limit := d } := by
 intro F H e h
 obtain ⟨v0, F0, rfl, rfl, h0⟩ := h
 exact ⟨v0, F0, rfl, rfl, h0⟩
theorem fsf77_2 {a : Method} : ∀ F H e, ow77 F H e a → 2 + 1 ≤ e.cells.size := by
 intro F H e h
 obtain ⟨v0, F0, rfl, rfl, h0⟩ := h
 exact Nat.le_of_ble_eq_true rfl
theorem sf77_3 {a : Method} {d : Int} : ∀ F H e, ow77 F H e a → ow77 F H (setPart e 3 (Value.cells (.int .i64 d)).toList) { a with Cost := d } := by
 intro F H e h
 obtain ⟨v0, F0, rfl, rfl, h0⟩ := h
 exact ⟨v0, F0, rfl, rfl, h0⟩
theorem fsf77_3 {a : Method} : ∀ F H e, ow77 F H e a → 3 + 1 ≤ e.cells.size := by
 intro F H e h
 obtain ⟨v0, F0, rfl, rfl, h0⟩ := h
 exact Nat.le_of_ble_eq_true rfl
theorem sf77_4 {a : Method} {d : Int} : ∀ F H e, ow77 F H e a → ow77 F H (setPart e 4 (Value.cells (.int .i64 d)).toList) { a with Quota := d } := by
 intro F H e h
 obtain ⟨v0, F0, rfl, rfl, h0⟩ := h
 exact ⟨v0, F0, rfl, rfl, h0⟩
theorem fsf77_4 {a : Method} : ∀ F H e, ow77 F H e a → 4 + 1 ≤ e.cells.size := by
 intro F H e h
 obtain ⟨v0, F0, rfl, rfl, h0⟩ := h
 exact Nat.le_of_ble_eq_true rfl
instance cf22 : ICF Tryz.prog 22 := ⟨fun _ _ => Tryz.call22 _ _⟩
instance cf53 : ICF Tryz.prog 53 := ⟨fun _ _ => Tryz.call53 _ _⟩
theorem sf102_0 {a : Atom} {d : Int} : ∀ F H e, ow102 F H e a → ow102 F H (setPart e 0 (Value.cells (.int .i64 d)).toList) { a with Rel := d } := by
 intro F H e h
 obtain ⟨v0, F0, rfl, rfl, h0⟩ := h
 exact ⟨v0, F0, rfl, rfl, h0⟩
theorem fsf102_0 {a : Atom} : ∀ F H e, ow102 F H e a → 0 + 1 ≤ e.cells.size := by
 intro F H e h
 obtain ⟨v0, F0, rfl, rfl, h0⟩ := h
 exact Nat.le_of_ble_eq_true rfl
theorem pt102_1 : Part ow102 1 (OwnS 3 (roE rdInt)) (fun a : Atom => a.Terms) (fun a d => { a with Terms := d }) := ⟨fun {F H e a} h => by
 obtain ⟨v0, F0, rfl, rfl, h0⟩ := h
 exact ⟨v0, [], F0, [], rfl, by simp, h0, fun hi hk h' => ⟨v0, _, rfl, by simp, h'⟩⟩⟩
instance cf23 : ICF Tryz.prog 23 := ⟨fun _ _ => Tryz.call23 _ _⟩
theorem sf80_0 {a : Fact} {d : Int} : ∀ F H e, ow80 F H e a → ow80 F H (setPart e 0 (Value.cells (.int .i64 d)).toList) { a with Rel := d } := by
 intro F H e h
 obtain ⟨v0, F0, rfl, rfl, h0⟩ := h
 exact ⟨v0, F0, rfl, rfl, h0⟩
theorem fsf80_0 {a : Fact} : ∀ F H e, ow80 F H e a → 0 + 1 ≤ e.cells.size := by
 intro F H e h
 obtain ⟨v0, F0, rfl, rfl, h0⟩ := h
 exact Nat.le_of_ble_eq_true rfl
theorem pt80_1 : Part ow80 1 (OwnS 3 (roE rdInt)) (fun a : Fact => a.Values) (fun a d => { a with Values := d }) := ⟨fun {F H e a} h => by
 obtain ⟨v0, F0, rfl, rfl, h0⟩ := h
 exact ⟨v0, [], F0, [], rfl, by simp, h0, fun hi hk h' => ⟨v0, _, rfl, by simp, h'⟩⟩⟩
instance cf24 : ICF Tryz.prog 24 := ⟨fun _ _ => Tryz.call24 _ _⟩
theorem pt22_0 : Part (OwnS 3 (roE rdInt)) 0 (OwnS 3 (roE rdInt)) (fun a => a) (fun _ b => b) := Part.self (fun h => by obtain ⟨a, m, rfl⟩ := OwnS.len h; exact ⟨⟨a, _, m⟩, rfl⟩)
instance cf25 : ICF Tryz.prog 25 := ⟨fun _ _ => Tryz.call25 _ _⟩
instance cf54 : ICF Tryz.prog 54 := ⟨fun _ _ => Tryz.call54 _ _⟩
theorem fa64_0 : fieldAt Tryz.prog 64 0 = some (3, 0, 1) := by kernel_rfl
theorem fa64_1 : fieldAt Tryz.prog 64 1 = some (22, 1, 1) := by kernel_rfl
theorem fa64_2 : fieldAt Tryz.prog 64 2 = some (3, 2, 1) := by kernel_rfl
theorem fa64_3 : fieldAt Tryz.prog 64 3 = some (3, 3, 1) := by kernel_rfl
theorem fa64_4 : fieldAt Tryz.prog 64 4 = some (3, 4, 1) := by kernel_rfl
def wf64 (a : Method) : Prop := wfInt a.Rel ∧ (wfSl wfInt) a.Inputs ∧ wfInt a.Limit ∧ wfInt a.Cost ∧ wfInt a.Quota
theorem sh64 : ∀ H v a, rd64 H v a → isAgV v = aggT Tryz.prog 64 := by
 intro H v a h
 obtain ⟨v1, rfl, _⟩ := h
 kernel_rfl
theorem op64 : Opn Tryz.prog 64 rd64 wf64 := by
 intro T enc w fuel cs x h hw ρ H hr hF
 have hl := opn_len fa64_0 h (n := 5) ty64.h.sz.cells
 obtain ⟨ρ0, H0, av0, a0, r0, f0, u0, i0, v0, q0, w0⟩ := opn_field fa64_0 h hw (Opn.int (by kernel_rfl)) hr hF
 obtain ⟨ρ1, H1, av1, a1, r1, f1, u1, i1, v1, q1, w1⟩ := opn_field fa64_1 h hw (Opn.slice (s := 1) (by kernel_rfl) (by kernel_rfl) (by decide) (Nat.lt_of_lt_of_le (by decide) (Nat.le_of_eq (show 8 = _ from by kernel_rfl))) (Opn.int (by kernel_rfl))) r0 f0
 obtain ⟨ρ2, H2, av2, a2, r2, f2, u2, i2, v2, q2, w2⟩ := opn_field fa64_2 h hw (Opn.int (by kernel_rfl)) r1 f1
 obtain ⟨ρ3, H3, av3, a3, r3, f3, u3, i3, v3, q3, w3⟩ := opn_field fa64_3 h hw (Opn.int (by kernel_rfl)) r2 f2
 obtain ⟨ρ4, H4, av4, a4, r4, f4, u4, i4, v4, q4, w4⟩ := opn_field fa64_4 h hw (Opn.int (by kernel_rfl)) r3 f3
 obtain rfl : av0 = (.int .i64 a0) := q0
 replace v0 := v0.up (((u1.trans u2).trans u3).trans u4)
 obtain ⟨sa1, sm1, rfl⟩ := RdS.len q1
 replace v1 := v1.one rfl
 replace v1 := v1.up ((u2.trans u3).trans u4)
 obtain rfl : av2 = (.int .i64 a2) := q2
 replace v2 := v2.up (u3.trans u4)
 obtain rfl : av3 = (.int .i64 a3) := q3
 replace v3 := v3.up u4
 obtain rfl : av4 = (.int .i64 a4) := q4
 have hv := RelVs.field (o := 0) v0 (RelVs.field (o := 1) v1 (RelVs.field (o := 2) v2 (RelVs.field (o := 3) v3 (RelVs.field (o := 4) v4 (RelVs.end hl)))))
 rw [List.drop_zero] at hv
 refine ⟨ρ4, H4, (.agg [(.int .i64 a0), (.slice sa1 a1.length sm1), (.int .i64 a2), (.int .i64 a3), (.int .i64 a4)].toArray : Value), ({ Rel := a0, Inputs := a1, Limit := a2, Cost := a3, Quota := a4 } : Method), r4, f4, ((((u0.trans u1).trans u2).trans u3).trans u4), ((((i0.trans i1).trans i2).trans i3).trans i4), ?_, ?_, w0, w1, w2, w3, w4⟩
 · exact hv
 · exact ⟨⟨sa1, _, sm1⟩, rfl, (Mono.up q1 ((i2.trans i3).trans i4))⟩
def rd26 (H : AHeap) (v : Value) (a : Query) : Prop := ∃ v0 v1 : Sv, v = .agg [v0.v, v1.v].toArray ∧ (RdS 3 rdInt) H v0.v a.Head ∧ (RdS 94 rd94) H v1.v a.Atoms
instance : Mono rd26 := ⟨fun h hi => by
 obtain ⟨v0, v1, h, h0, h1⟩ := h
 exact ⟨v0, v1, h, Mono.up h0 hi, Mono.up h1 hi⟩⟩
instance : Cells rd26 2 := ⟨fun h => by
 obtain ⟨v0, v1, rfl, h0, h1⟩ := h
 exact ⟨rfl, rfl⟩⟩
theorem fa94_0 : fieldAt Tryz.prog 94 0 = some (3, 0, 1) := by kernel_rfl
theorem fa94_1 : fieldAt Tryz.prog 94 1 = some (22, 1, 1) := by kernel_rfl
def wf94 (a : Atom) : Prop := wfInt a.Rel ∧ (wfSl wfInt) a.Terms
theorem sh94 : ∀ H v a, rd94 H v a → isAgV v = aggT Tryz.prog 94 := by
 intro H v a h
 obtain ⟨v1, rfl, _⟩ := h
 kernel_rfl
theorem op94 : Opn Tryz.prog 94 rd94 wf94 := by
 intro T enc w fuel cs x h hw ρ H hr hF
 have hl := opn_len fa94_0 h (n := 2) ty94.h.sz.cells
 obtain ⟨ρ0, H0, av0, a0, r0, f0, u0, i0, v0, q0, w0⟩ := opn_field fa94_0 h hw (Opn.int (by kernel_rfl)) hr hF
 obtain ⟨ρ1, H1, av1, a1, r1, f1, u1, i1, v1, q1, w1⟩ := opn_field fa94_1 h hw (Opn.slice (s := 1) (by kernel_rfl) (by kernel_rfl) (by decide) (Nat.lt_of_lt_of_le (by decide) (Nat.le_of_eq (show 8 = _ from by kernel_rfl))) (Opn.int (by kernel_rfl))) r0 f0
 obtain rfl : av0 = (.int .i64 a0) := q0
 replace v0 := v0.up u1
 obtain ⟨sa1, sm1, rfl⟩ := RdS.len q1
 replace v1 := v1.one rfl
 have hv := RelVs.field (o := 0) v0 (RelVs.field (o := 1) v1 (RelVs.end hl))
 rw [List.drop_zero] at hv
 refine ⟨ρ1, H1, (.agg [(.int .i64 a0), (.slice sa1 a1.length sm1)].toArray : Value), ({ Rel := a0, Terms := a1 } : Atom), r1, f1, (u0.trans u1), (i0.trans i1), ?_, ?_, w0, w1⟩
 · exact hv
 · exact ⟨⟨sa1, _, sm1⟩, rfl, q1⟩
theorem fa26_0 : fieldAt Tryz.prog 26 0 = some (22, 0, 1) := by kernel_rfl
theorem fa26_1 : fieldAt Tryz.prog 26 1 = some (24, 1, 1) := by kernel_rfl
def wf26 (a : Query) : Prop := (wfSl wfInt) a.Head ∧ (wfSl wf94) a.Atoms
theorem sh26 : ∀ H v a, rd26 H v a → isAgV v = aggT Tryz.prog 26 := by
 intro H v a h
 obtain ⟨v0, v1, rfl, _, _⟩ := h
 kernel_rfl
theorem op26 : Opn Tryz.prog 26 rd26 wf26 := by
 intro T enc w fuel cs x h hw ρ H hr hF
 have hl := opn_len fa26_0 h (n := 2) ty26.h.sz.cells
 obtain ⟨ρ0, H0, av0, a0, r0, f0, u0, i0, v0, q0, w0⟩ := opn_field fa26_0 h hw (Opn.slice (s := 1) (by kernel_rfl) (by kernel_rfl) (by decide) (Nat.lt_of_lt_of_le (by decide) (Nat.le_of_eq (show 8 = _ from by kernel_rfl))) (Opn.int (by kernel_rfl))) hr hF
 obtain ⟨ρ1, H1, av1, a1, r1, f1, u1, i1, v1, q1, w1⟩ := opn_field fa26_1 h hw (Opn.slice (s := 2) (by kernel_rfl) (by kernel_rfl) (by decide) (Nat.lt_of_lt_of_le (by decide) (Nat.le_of_eq (show 32 = _ from by kernel_rfl))) op94) r0 f0
 obtain ⟨sa0, sm0, rfl⟩ := RdS.len q0
 replace v0 := v0.one rfl
 replace v0 := v0.up u1
 obtain ⟨sa1, sm1, rfl⟩ := RdS.len q1
 replace v1 := v1.one rfl
 have hv := RelVs.field (o := 0) v0 (RelVs.field (o := 1) v1 (RelVs.end hl))
 rw [List.drop_zero] at hv
 refine ⟨ρ1, H1, (.agg [(.slice sa0 a0.length sm0), (.slice sa1 a1.length sm1)].toArray : Value), ({ Head := a0, Atoms := a1 } : Query), r1, f1, (u0.trans u1), (i0.trans i1), ?_, ?_, w0, w1⟩
 · exact hv
 · exact ⟨⟨sa0, _, sm0⟩, ⟨sa1, _, sm1⟩, rfl, (Mono.up q0 i1), q1⟩
theorem fa68_0 : fieldAt Tryz.prog 68 0 = some (3, 0, 1) := by kernel_rfl
theorem fa68_1 : fieldAt Tryz.prog 68 1 = some (22, 1, 1) := by kernel_rfl
def wf68 (a : Fact) : Prop := wfInt a.Rel ∧ (wfSl wfInt) a.Values
theorem sh68 : ∀ H v a, rd68 H v a → isAgV v = aggT Tryz.prog 68 := by
 intro H v a h
 obtain ⟨v1, rfl, _⟩ := h
 kernel_rfl
theorem op68 : Opn Tryz.prog 68 rd68 wf68 := by
 intro T enc w fuel cs x h hw ρ H hr hF
 have hl := opn_len fa68_0 h (n := 2) ty68.h.sz.cells
 obtain ⟨ρ0, H0, av0, a0, r0, f0, u0, i0, v0, q0, w0⟩ := opn_field fa68_0 h hw (Opn.int (by kernel_rfl)) hr hF
 obtain ⟨ρ1, H1, av1, a1, r1, f1, u1, i1, v1, q1, w1⟩ := opn_field fa68_1 h hw (Opn.slice (s := 1) (by kernel_rfl) (by kernel_rfl) (by decide) (Nat.lt_of_lt_of_le (by decide) (Nat.le_of_eq (show 8 = _ from by kernel_rfl))) (Opn.int (by kernel_rfl))) r0 f0
 obtain rfl : av0 = (.int .i64 a0) := q0
 replace v0 := v0.up u1
 obtain ⟨sa1, sm1, rfl⟩ := RdS.len q1
 replace v1 := v1.one rfl
 have hv := RelVs.field (o := 0) v0 (RelVs.field (o := 1) v1 (RelVs.end hl))
 rw [List.drop_zero] at hv
 refine ⟨ρ1, H1, (.agg [(.int .i64 a0), (.slice sa1 a1.length sm1)].toArray : Value), ({ Rel := a0, Values := a1 } : Fact), r1, f1, (u0.trans u1), (i0.trans i1), ?_, ?_, w0, w1⟩
 · exact hv
 · exact ⟨⟨sa1, _, sm1⟩, rfl, q1⟩
def l_szIntS (a_a : List Int) (a_left : Int) : Option (Int) :=
 if (decide (((IntKind.i64.wrap (a_left - (a_a.length : Int))) : Int) < 0)) then (
   some (-1))
 else (
   some (IntKind.i64.wrap (a_left - (a_a.length : Int))))
theorem l_szIntS_ok (a_a : List Int) (v0_0 : Sv) (a_left : Int) (R : Int) (hF : l_szIntS a_a a_left = some R) :
   Fw.Spec Tryz.prog 34 [v0_0.v, (.int .i64 a_left)] [crd (RdS 3 rdInt) v0_0.v a_a] (fun _ : Unit => (.int .i64 R)) (fun _ => []) := by
 refine Spec_enter (n := 12) Tryz.func34 rfl rfl (rs := [.tmp 4]) rfl rfl rfl ?_
 intro H0 F0
 unfold l_szIntS at hF
 iterate 15 refine au ?_
 refine Cc (fun hb1 => ?_) (fun hb1 => ?_)
 · rw [if_pos hb1] at hF
   iterate 4 refine au ?_
   cases hF
   exact Er ()
 rw [if_neg (nt hb1)] at hF
 iterate 6 refine au ?_
 cases hF
 exact Er ()
def l_szMethod (a_a : Method) (a_left : Int) : Option (Int) :=
 (l_szIntS a_a.Inputs a_left).bind fun r2 =>
 if (decide ((r2 : Int) < 0)) then (
   some (-1))
 else (
   some r2)
theorem l_szMethod_ok (a_a : Method) (v0_1 : Sv) (a_left : Int) (R : Int) (hF : l_szMethod a_a a_left = some R) :
   Fw.Spec Tryz.prog 33 [(.agg [(.int .i64 a_a.Rel), v0_1.v, (.int .i64 a_a.Limit), (.int .i64 a_a.Cost), (.int .i64 a_a.Quota)].toArray), (.int .i64 a_left)] [crd (RdS 3 rdInt) v0_1.v a_a.Inputs] (fun _ : Unit => (.int .i64 R)) (fun _ => []) := by
 refine Spec_enter (n := 12) Tryz.func33 rfl rfl (rs := [.tmp 4]) rfl rfl rfl ?_
 intro H0 F0
 unfold l_szMethod at hF
 refine au ?_
 refine AbR (fun k1 => ?_)
 iterate 6 refine au ?_
 obtain ⟨r2, hx3, hF⟩ := bind_some hF
 refine Cx0 (l_szIntS_ok _ _ _ _ hx3) (fun _ => ?_)
 iterate 7 refine au ?_
 refine Cc (fun hb5 => ?_) (fun hb5 => ?_)
 · rw [if_pos hb5] at hF
   iterate 4 refine au ?_
   cases hF
   exact Er ()
 rw [if_neg (nt hb5)] at hF
 iterate 6 refine au ?_
 cases hF
 exact Er ()
def l_szMethodS_L1 : List Method → Nat → Int → Option (Int)
 | [], k5, c1 => some c1
 | x7 :: rest6, k5, c1 => (l_szMethod x7 c1).bind fun r17 =>
   if (decide ((r17 : Int) < 0)) then (
     some (-1))
   else (
     l_szMethodS_L1 rest6 (k5 + 1) r17)
def l_szMethodS (a_a : List Method) (a_left : Int) : Option (Int) :=
 if (decide (((IntKind.i64.wrap (a_left - (a_a.length : Int))) : Int) < 0)) then (
   some (-1))
 else (
   l_szMethodS_L1 a_a 0 (IntKind.i64.wrap (a_left - (a_a.length : Int))))
theorem l_szMethodS_ok (a_a : List Method) (v0_0 : Sv) (a_left : Int) (R : Int) (hF : l_szMethodS a_a a_left = some R) :
   Fw.Spec Tryz.prog 6 [v0_0.v, (.int .i64 a_left)] [crd (RdS 64 rd64) v0_0.v a_a] (fun _ : Unit => (.int .i64 R)) (fun _ => []) := by
 refine Spec_enter (n := 27) Tryz.func6 rfl rfl (rs := [.tmp 4]) rfl rfl rfl ?_
 intro H0 F0
 unfold l_szMethodS at hF
 iterate 15 refine au ?_
 refine Cc (fun hb22 => ?_) (fun hb22 => ?_)
 · rw [if_pos hb22] at hF
   iterate 4 refine au ?_
   cases hF
   exact Er ()
 rw [if_neg (nt hb22)] at hF
 iterate 5 refine au ?_
 refine CW_block (CW_loop (m := a_a.length) (fun m3 f' cs' => ∃ (g : Fr) (k5 : Nat) (rest6 : List Method) (c1 : Int), m3 = rest6.length ∧ f' = updL g [(0, v0_0.v), (1, (.int .i64 c1)), (5, (.int .i64 (k5 : Int)))] ∧ List.drop k5 a_a = rest6 ∧ Ent cs' [crd (RdS 64 rd64) v0_0.v a_a] ∧ l_szMethodS_L1 rest6 k5 c1 = some R) ⟨_, 0, _, _, rfl, eqA, rfl, entA, hF⟩ ?_)
 clear hF
 rintro m3 _ _ ⟨g4, k5, rest6, c1, rfl, rfl, hd8, hE, hF⟩
 refine K_ent hE ?_
 clear hE
 refine K_pure (c := crd (RdS 64 rd64) v0_0.v a_a) .h crd_bound (fun hbd13 => ?_)
 rcases rest6 with _ | ⟨x7, rest6⟩
 · have hk9 := List.drop_eq_nil_iff.1 hd8
   rw [l_szMethodS_L1] at hF
   iterate 7 refine au ?_
   refine CdF ?_
   iterate 9 refine au ?_
   cases hF
   exact Er ()
 obtain ⟨hk9, hx10, hd11⟩ := drop_cons hd8
 rw [l_szMethodS_L1] at hF
 iterate 7 refine au ?_
 refine CdT ?_
 iterate 5 refine au ?_
 refine Ai hx10 (fun k14 j15 => ?_)
 refine AlA1 (ul64_0_64 x7) la64_0_64 (fun p16 => ?_)
 refine au ?_
 obtain ⟨r17, hx18, hF⟩ := bind_some hF
 refine Cx0 (l_szMethod_ok _ _ _ _ hx18) (fun _ => ?_)
 iterate 6 refine au ?_
 refine Cc (fun hb21 => ?_) (fun hb21 => ?_)
 · rw [if_pos hb21] at hF
   iterate 4 refine au ?_
   cases hF
   exact Er ()
 rw [if_neg (nt hb21)] at hF
 iterate 6 refine au ?_
 rw [wk k5]
 exact ⟨_, Nat.lt_succ_self _, _, k5 + 1, rest6, _, rfl, eqA, hd11, entA, hF⟩
def l_szAtom (a_a : Atom) (a_left : Int) : Option (Int) :=
 (l_szIntS a_a.Terms a_left).bind fun r2 =>
 if (decide ((r2 : Int) < 0)) then (
   some (-1))
 else (
   some r2)
theorem l_szAtom_ok (a_a : Atom) (v0_1 : Sv) (a_left : Int) (R : Int) (hF : l_szAtom a_a a_left = some R) :
   Fw.Spec Tryz.prog 64 [(.agg [(.int .i64 a_a.Rel), v0_1.v].toArray), (.int .i64 a_left)] [crd (RdS 3 rdInt) v0_1.v a_a.Terms] (fun _ : Unit => (.int .i64 R)) (fun _ => []) := by
 refine Spec_enter (n := 12) Tryz.func64 rfl rfl (rs := [.tmp 4]) rfl rfl rfl ?_
 intro H0 F0
 unfold l_szAtom at hF
 refine au ?_
 refine AbR (fun k1 => ?_)
 iterate 6 refine au ?_
 obtain ⟨r2, hx3, hF⟩ := bind_some hF
 refine Cx0 (l_szIntS_ok _ _ _ _ hx3) (fun _ => ?_)
 iterate 7 refine au ?_
 refine Cc (fun hb5 => ?_) (fun hb5 => ?_)
 · rw [if_pos hb5] at hF
   iterate 4 refine au ?_
   cases hF
   exact Er ()
 rw [if_neg (nt hb5)] at hF
 iterate 6 refine au ?_
 cases hF
 exact Er ()
def l_szAtomS_L1 : List Atom → Nat → Int → Option (Int)
 | [], k5, c1 => some c1
 | x7 :: rest6, k5, c1 => (l_szAtom x7 c1).bind fun r17 =>
   if (decide ((r17 : Int) < 0)) then (
     some (-1))
   else (
     l_szAtomS_L1 rest6 (k5 + 1) r17)
def l_szAtomS (a_a : List Atom) (a_left : Int) : Option (Int) :=
 if (decide (((IntKind.i64.wrap (a_left - (a_a.length : Int))) : Int) < 0)) then (
   some (-1))
 else (
   l_szAtomS_L1 a_a 0 (IntKind.i64.wrap (a_left - (a_a.length : Int))))
theorem l_szAtomS_ok (a_a : List Atom) (v0_0 : Sv) (a_left : Int) (R : Int) (hF : l_szAtomS a_a a_left = some R) :
   Fw.Spec Tryz.prog 35 [v0_0.v, (.int .i64 a_left)] [crd (RdS 94 rd94) v0_0.v a_a] (fun _ : Unit => (.int .i64 R)) (fun _ => []) := by
 refine Spec_enter (n := 27) Tryz.func35 rfl rfl (rs := [.tmp 4]) rfl rfl rfl ?_
 intro H0 F0
 unfold l_szAtomS at hF
 iterate 15 refine au ?_
 refine Cc (fun hb22 => ?_) (fun hb22 => ?_)
 · rw [if_pos hb22] at hF
   iterate 4 refine au ?_
   cases hF
   exact Er ()
 rw [if_neg (nt hb22)] at hF
 iterate 5 refine au ?_
 refine CW_block (CW_loop (m := a_a.length) (fun m3 f' cs' => ∃ (g : Fr) (k5 : Nat) (rest6 : List Atom) (c1 : Int), m3 = rest6.length ∧ f' = updL g [(0, v0_0.v), (1, (.int .i64 c1)), (5, (.int .i64 (k5 : Int)))] ∧ List.drop k5 a_a = rest6 ∧ Ent cs' [crd (RdS 94 rd94) v0_0.v a_a] ∧ l_szAtomS_L1 rest6 k5 c1 = some R) ⟨_, 0, _, _, rfl, eqA, rfl, entA, hF⟩ ?_)
 clear hF
 rintro m3 _ _ ⟨g4, k5, rest6, c1, rfl, rfl, hd8, hE, hF⟩
 refine K_ent hE ?_
 clear hE
 refine K_pure (c := crd (RdS 94 rd94) v0_0.v a_a) .h crd_bound (fun hbd13 => ?_)
 rcases rest6 with _ | ⟨x7, rest6⟩
 · have hk9 := List.drop_eq_nil_iff.1 hd8
   rw [l_szAtomS_L1] at hF
   iterate 7 refine au ?_
   refine CdF ?_
   iterate 9 refine au ?_
   cases hF
   exact Er ()
 obtain ⟨hk9, hx10, hd11⟩ := drop_cons hd8
 rw [l_szAtomS_L1] at hF
 iterate 7 refine au ?_
 refine CdT ?_
 iterate 5 refine au ?_
 refine Ai hx10 (fun k14 j15 => ?_)
 refine AlA1 (ul94_0_94 x7) la94_0_94 (fun p16 => ?_)
 refine au ?_
 obtain ⟨r17, hx18, hF⟩ := bind_some hF
 refine Cx0 (l_szAtom_ok _ _ _ _ hx18) (fun _ => ?_)
 iterate 6 refine au ?_
 refine Cc (fun hb21 => ?_) (fun hb21 => ?_)
 · rw [if_pos hb21] at hF
   iterate 4 refine au ?_
   cases hF
   exact Er ()
 rw [if_neg (nt hb21)] at hF
 iterate 6 refine au ?_
 rw [wk k5]
 exact ⟨_, Nat.lt_succ_self _, _, k5 + 1, rest6, _, rfl, eqA, hd11, entA, hF⟩
def l_szQuery (a_a : Query) (a_left : Int) : Option (Int) :=
 (l_szIntS a_a.Head a_left).bind fun r2 =>
 if (decide ((r2 : Int) < 0)) then (
   some (-1))
 else (
   (l_szAtomS a_a.Atoms r2).bind fun r5 =>
   if (decide ((r5 : Int) < 0)) then (
     some (-1))
   else (
     some r5))
theorem l_szQuery_ok (a_a : Query) (v0_0 : Sv) (v0_1 : Sv) (a_left : Int) (R : Int) (hF : l_szQuery a_a a_left = some R) :
   Fw.Spec Tryz.prog 7 [(.agg [v0_0.v, v0_1.v].toArray), (.int .i64 a_left)] [crd (RdS 3 rdInt) v0_0.v a_a.Head, crd (RdS 94 rd94) v0_1.v a_a.Atoms] (fun _ : Unit => (.int .i64 R)) (fun _ => []) := by
 refine Spec_enter (n := 18) Tryz.func7 rfl rfl (rs := [.tmp 4]) rfl rfl rfl ?_
 intro H0 F0
 unfold l_szQuery at hF
 refine au ?_
 refine AbR (fun k1 => ?_)
 iterate 6 refine au ?_
 obtain ⟨r2, hx3, hF⟩ := bind_some hF
 refine Cx0 (l_szIntS_ok _ _ _ _ hx3) (fun _ => ?_)
 iterate 7 refine au ?_
 refine Cc (fun hb9 => ?_) (fun hb9 => ?_)
 · rw [if_pos hb9] at hF
   iterate 4 refine au ?_
   cases hF
   exact Er ()
 rw [if_neg (nt hb9)] at hF
 iterate 5 refine au ?_
 obtain ⟨r5, hx6, hF⟩ := bind_some hF
 refine Cx0 (l_szAtomS_ok _ _ _ _ hx6) (fun _ => ?_)
 iterate 7 refine au ?_
 refine Cc (fun hb8 => ?_) (fun hb8 => ?_)
 · rw [if_pos hb8] at hF
   iterate 4 refine au ?_
   cases hF
   exact Er ()
 rw [if_neg (nt hb8)] at hF
 iterate 6 refine au ?_
 cases hF
 exact Er ()
def l_szFact (a_a : Fact) (a_left : Int) : Option (Int) :=
 (l_szIntS a_a.Values a_left).bind fun r2 =>
 if (decide ((r2 : Int) < 0)) then (
   some (-1))
 else (
   some r2)
theorem l_szFact_ok (a_a : Fact) (v0_1 : Sv) (a_left : Int) (R : Int) (hF : l_szFact a_a a_left = some R) :
   Fw.Spec Tryz.prog 36 [(.agg [(.int .i64 a_a.Rel), v0_1.v].toArray), (.int .i64 a_left)] [crd (RdS 3 rdInt) v0_1.v a_a.Values] (fun _ : Unit => (.int .i64 R)) (fun _ => []) := by
 refine Spec_enter (n := 12) Tryz.func36 rfl rfl (rs := [.tmp 4]) rfl rfl rfl ?_
 intro H0 F0
 unfold l_szFact at hF
 refine au ?_
 refine AbR (fun k1 => ?_)
 iterate 6 refine au ?_
 obtain ⟨r2, hx3, hF⟩ := bind_some hF
 refine Cx0 (l_szIntS_ok _ _ _ _ hx3) (fun _ => ?_)
 iterate 7 refine au ?_
 refine Cc (fun hb5 => ?_) (fun hb5 => ?_)
 · rw [if_pos hb5] at hF
   iterate 4 refine au ?_
   cases hF
   exact Er ()
 rw [if_neg (nt hb5)] at hF
 iterate 6 refine au ?_
 cases hF
 exact Er ()
def l_szFactS_L1 : List Fact → Nat → Int → Option (Int)
 | [], k5, c1 => some c1
 | x7 :: rest6, k5, c1 => (l_szFact x7 c1).bind fun r17 =>
   if (decide ((r17 : Int) < 0)) then (
     some (-1))
   else (
     l_szFactS_L1 rest6 (k5 + 1) r17)
def l_szFactS (a_a : List Fact) (a_left : Int) : Option (Int) :=
 if (decide (((IntKind.i64.wrap (a_left - (a_a.length : Int))) : Int) < 0)) then (
   some (-1))
 else (
   l_szFactS_L1 a_a 0 (IntKind.i64.wrap (a_left - (a_a.length : Int))))
theorem l_szFactS_ok (a_a : List Fact) (v0_0 : Sv) (a_left : Int) (R : Int) (hF : l_szFactS a_a a_left = some R) :
   Fw.Spec Tryz.prog 8 [v0_0.v, (.int .i64 a_left)] [crd (RdS 68 rd68) v0_0.v a_a] (fun _ : Unit => (.int .i64 R)) (fun _ => []) := by
 refine Spec_enter (n := 27) Tryz.func8 rfl rfl (rs := [.tmp 4]) rfl rfl rfl ?_
 intro H0 F0
 unfold l_szFactS at hF
 iterate 15 refine au ?_
 refine Cc (fun hb22 => ?_) (fun hb22 => ?_)
 · rw [if_pos hb22] at hF
   iterate 4 refine au ?_
   cases hF
   exact Er ()
 rw [if_neg (nt hb22)] at hF
 iterate 5 refine au ?_
 refine CW_block (CW_loop (m := a_a.length) (fun m3 f' cs' => ∃ (g : Fr) (k5 : Nat) (rest6 : List Fact) (c1 : Int), m3 = rest6.length ∧ f' = updL g [(0, v0_0.v), (1, (.int .i64 c1)), (5, (.int .i64 (k5 : Int)))] ∧ List.drop k5 a_a = rest6 ∧ Ent cs' [crd (RdS 68 rd68) v0_0.v a_a] ∧ l_szFactS_L1 rest6 k5 c1 = some R) ⟨_, 0, _, _, rfl, eqA, rfl, entA, hF⟩ ?_)
 clear hF
 rintro m3 _ _ ⟨g4, k5, rest6, c1, rfl, rfl, hd8, hE, hF⟩
 refine K_ent hE ?_
 clear hE
 refine K_pure (c := crd (RdS 68 rd68) v0_0.v a_a) .h crd_bound (fun hbd13 => ?_)
 rcases rest6 with _ | ⟨x7, rest6⟩
 · have hk9 := List.drop_eq_nil_iff.1 hd8
   rw [l_szFactS_L1] at hF
   iterate 7 refine au ?_
   refine CdF ?_
   iterate 9 refine au ?_
   cases hF
   exact Er ()
 obtain ⟨hk9, hx10, hd11⟩ := drop_cons hd8
 rw [l_szFactS_L1] at hF
 iterate 7 refine au ?_
 refine CdT ?_
 iterate 5 refine au ?_
 refine Ai hx10 (fun k14 j15 => ?_)
 refine AlA1 (ul68_0_68 x7) la68_0_68 (fun p16 => ?_)
 refine au ?_
 obtain ⟨r17, hx18, hF⟩ := bind_some hF
 refine Cx0 (l_szFact_ok _ _ _ _ hx18) (fun _ => ?_)
 iterate 6 refine au ?_
 refine Cc (fun hb21 => ?_) (fun hb21 => ?_)
 · rw [if_pos hb21] at hF
   iterate 4 refine au ?_
   cases hF
   exact Er ()
 rw [if_neg (nt hb21)] at hF
 iterate 6 refine au ?_
 rw [wk k5]
 exact ⟨_, Nat.lt_succ_self _, _, k5 + 1, rest6, _, rfl, eqA, hd11, entA, hF⟩
def l_toIntS_L1 : List Int → Nat → (List Int) → Option ((List Int))
 | [], k32, c27 => some c27
 | x34 :: rest33, k32, c27 => (chk (decide (0 ≤ (k32 : Int)) && decide ((k32 : Int) < (c27.length : Int)))).bind fun u46 =>
   (some (c27.set ((k32 : Int)).toNat x34)).bind fun z48 =>
   l_toIntS_L1 rest33 (k32 + 1) z48
def l_toIntS (a_a : List Int) : Option ((List Int)) :=
 (mkz (a_a.length : Int) (0 : Int)).bind fun z1 =>
 l_toIntS_L1 a_a 0 z1
theorem l_toIntS_ok (a_a : List Int) (v0_0 : Sv) (R : (List Int)) (hF : l_toIntS a_a = some R) :
   Fw.Spec Tryz.prog 10 [v0_0.v] [crd (RdS 3 rdInt) v0_0.v a_a] (fun p : Sv × List Nat => p.1.v) (fun p => [cown (OwnS 3 (roE rdInt)) p.2 p.1.v R]) := by
 refine Spec_enter (n := 22) Tryz.func10 rfl rfl (rs := [.tmp 2]) rfl rfl rfl ?_
 intro H0 F0
 unfold l_toIntS at hF
 iterate 6 refine au ?_
 obtain ⟨z1, hx2, hF⟩ := bind_some hF
 have hm3 := mkz_some hx2
 refine C_new rfl (N_makeSlice (g := true) (c := (a_a.length : Int)) sl22.h ty3.h rfl rfl (by decide) (.tmp rfl rfl) hm3.2.1 hm3.2.2) (fun k4 => ?_)
 refine Cv1 (.cons .h .nil) (own_make (Ro := (roE rdInt)) (E := 3) (a := (0 : Int)) hx2 (fun _ => ⟨rfl, rfl⟩)) ?_
 iterate 6 refine au ?_
 refine CW_block (CW_loop (m := a_a.length) (fun m30 f' cs' => ∃ (g : Fr) (k32 : Nat) (rest33 : List Int) (c27 : List Int) (F28 : List Nat), m30 = rest33.length ∧ f' = updL g [(0, v0_0.v), (3, (.slice (some ⟨k4, 0, none⟩) (a_a.length : Int).toNat 1)), (4, (.int .i64 (k32 : Int)))] ∧ List.drop k32 a_a = rest33 ∧ Ent cs' [crd (RdS 3 rdInt) v0_0.v a_a, cown (OwnS 3 (roE rdInt)) F28 (.slice (some ⟨k4, 0, none⟩) (a_a.length : Int).toNat 1) c27] ∧ l_toIntS_L1 rest33 k32 c27 = some R) ⟨_, 0, _, _, [k4], rfl, eqA, rfl, entA, hF⟩ ?_)
 clear hF
 rintro m30 _ _ ⟨g31, k32, rest33, c27, F28, rfl, rfl, hd35, hE, hF⟩
 refine K_ent hE ?_
 clear hE
 refine K_pure (c := crd (RdS 3 rdInt) v0_0.v a_a) .h crd_bound (fun hbd40 => ?_)
 rcases rest33 with _ | ⟨x34, rest33⟩
 · have hk36 := List.drop_eq_nil_iff.1 hd35
   rw [l_toIntS_L1] at hF
   iterate 7 refine au ?_
   refine CdF ?_
   iterate 9 refine au ?_
   cases hF
   exact Er (⟨(some ⟨k4, 0, none⟩), (a_a.length : Int).toNat, 1⟩, F28)
 obtain ⟨hk36, hx37, hd38⟩ := drop_cons hd35
 rw [l_toIntS_L1] at hF
 iterate 7 refine au ?_
 refine CdT ?_
 iterate 7 refine au ?_
 refine Ai hx37 (fun k41 j42 => ?_)
 refine Al ls3_0 ?_
 obtain ⟨u46, hx47, hF⟩ := bind_some hF
 have hi45 := chk_some hx47
 refine C_idxO sl22.h ty3.h.sz (.tmp rfl rfl) (.tmp rfl rfl) (.t (.t .h)) hi45 (fun k43 hk44 => ?_)
 obtain ⟨z48, hx49, hF⟩ := bind_some hF
 replace hx49 := Option.some.inj hx49
 refine C_x1 (.cons (.t (.t .h)) .nil) (X_storeO (Ro := (roE rdInt)) (a := x34) (i := (k32 : Int)) ty3.h.sz rfl (.tmp rfl rfl) (.tmp rfl rfl) hk44 hi45 (Mk_pure (fun _ => rfl)) (fun _ _ _ _ h => by obtain ⟨-, h⟩ := h; cases h; rfl)) (fun F50 => ?_)
 rw [hx49]
 iterate 6 refine au ?_
 rw [wk k32]
 exact ⟨_, Nat.lt_succ_self _, _, k32 + 1, rest33, _, F50, rfl, eqA, hd38, entA, hF⟩
def l_toMethod (a_a : Method) : Option (Method) :=
 (l_toIntS a_a.Inputs).bind fun r4 =>
 some ({ Rel := a_a.Rel, Inputs := r4, Limit := a_a.Limit, Cost := a_a.Cost, Quota := a_a.Quota } : Method)
theorem l_toMethod_ok (a_a : Method) (v0_1 : Sv) (R : Method) (hF : l_toMethod a_a = some R) :
   Fw.Spec Tryz.prog 42 [(.agg [(.int .i64 a_a.Rel), v0_1.v, (.int .i64 a_a.Limit), (.int .i64 a_a.Cost), (.int .i64 a_a.Quota)].toArray)] [crd (RdS 3 rdInt) v0_1.v a_a.Inputs] (fun p : Sv × List Nat => (.agg [(.int .i64 R.Rel), p.1.v, (.int .i64 R.Limit), (.int .i64 R.Cost), (.int .i64 R.Quota)].toArray)) (fun p => [cown (OwnS 3 (roE rdInt)) p.2 p.1.v R.Inputs]) := by
 refine Spec_enter (n := 21) Tryz.func42 rfl rfl (rs := [.cell 2 77]) rfl rfl rfl ?_
 intro H0 F0
 unfold l_toMethod at hF
 refine au ?_
 refine AbR (fun k1 => ?_)
 refine AnW (fun k2 => ?_)
 iterate 2 refine au ?_
 refine AnW (fun k3 => ?_)
 iterate 5 refine au ?_
 refine As (.agg [(.int .i64 a_a.Rel), (.slice none 0 0), (.int .i64 0), (.int .i64 0), (.int .i64 0)].toArray) ?_
 iterate 4 refine au ?_
 obtain ⟨r4, hx5, hF⟩ := bind_some hF
 refine Cx1 (l_toIntS_ok _ _ _ hx5) (fun p6 => ?_)
 refine au ?_
 refine As (.agg [(.int .i64 a_a.Rel), p6.1.v, (.int .i64 0), (.int .i64 0), (.int .i64 0)].toArray) ?_
 iterate 5 refine au ?_
 refine As (.agg [(.int .i64 a_a.Rel), p6.1.v, (.int .i64 a_a.Limit), (.int .i64 0), (.int .i64 0)].toArray) ?_
 iterate 5 refine au ?_
 refine As (.agg [(.int .i64 a_a.Rel), p6.1.v, (.int .i64 a_a.Limit), (.int .i64 a_a.Cost), (.int .i64 0)].toArray) ?_
 iterate 5 refine au ?_
 refine As (.agg [(.int .i64 a_a.Rel), p6.1.v, (.int .i64 a_a.Limit), (.int .i64 a_a.Cost), (.int .i64 a_a.Quota)].toArray) ?_
 iterate 3 refine au ?_
 refine As (.agg [(.int .i64 a_a.Rel), p6.1.v, (.int .i64 a_a.Limit), (.int .i64 a_a.Cost), (.int .i64 a_a.Quota)].toArray) ?_
 iterate 2 refine au ?_
 cases hF
 exact Er (p6.1, p6.2)
def l_toMethodS_L1 : List Method → Nat → (List Method) → Option ((List Method))
 | [], k36, c31 => some c31
 | x38 :: rest37, k36, c31 => (l_toMethod x38).bind fun r48 =>
   (chk (decide (0 ≤ (k36 : Int)) && decide ((k36 : Int) < (c31.length : Int)))).bind fun u54 =>
   (some (c31.set ((k36 : Int)).toNat r48)).bind fun z56 =>
   l_toMethodS_L1 rest37 (k36 + 1) z56
def l_toMethodS (a_a : List Method) : Option ((List Method)) :=
 (mkz (a_a.length : Int) (({ Rel := 0, Inputs := [], Limit := 0, Cost := 0, Quota := 0 } : Method) : Method)).bind fun z1 =>
 l_toMethodS_L1 a_a 0 z1
theorem l_toMethodS_ok (a_a : List Method) (v0_0 : Sv) (R : (List Method)) (hF : l_toMethodS a_a = some R) :
   Fw.Spec Tryz.prog 11 [v0_0.v] [crd (RdS 64 rd64) v0_0.v a_a] (fun p : Sv × List Nat => p.1.v) (fun p => [cown (OwnS 77 ow77) p.2 p.1.v R]) := by
 refine Spec_enter (n := 23) Tryz.func11 rfl rfl (rs := [.tmp 2]) rfl rfl rfl ?_
 intro H0 F0
 unfold l_toMethodS at hF
 iterate 6 refine au ?_
 obtain ⟨z1, hx2, hF⟩ := bind_some hF
 have hm3 := mkz_some hx2
 refine C_new rfl (N_makeSlice (g := true) (c := (a_a.length : Int)) sl34.h ty77.h rfl rfl (by decide) (.tmp rfl rfl) hm3.2.1 hm3.2.2) (fun k4 => ?_)
 refine Cv1 (.cons .h .nil) (own_make (Ro := ow77) (E := 77) (a := (({ Rel := 0, Inputs := [], Limit := 0, Cost := 0, Quota := 0 } : Method) : Method)) hx2 (fun _ => ⟨⟨none, 0, 0⟩, [], rfl, rfl, .inl ⟨rfl, rfl, rfl⟩⟩)) ?_
 iterate 6 refine au ?_
 refine CW_block (CW_loop (m := a_a.length) (fun m34 f' cs' => ∃ (g : Fr) (k36 : Nat) (rest37 : List Method) (c31 : List Method) (F32 : List Nat), m34 = rest37.length ∧ f' = updL g [(0, v0_0.v), (3, (.slice (some ⟨k4, 0, none⟩) (a_a.length : Int).toNat 1)), (4, (.int .i64 (k36 : Int)))] ∧ List.drop k36 a_a = rest37 ∧ Ent cs' [crd (RdS 64 rd64) v0_0.v a_a, cown (OwnS 77 ow77) F32 (.slice (some ⟨k4, 0, none⟩) (a_a.length : Int).toNat 1) c31] ∧ l_toMethodS_L1 rest37 k36 c31 = some R) ⟨_, 0, _, _, [k4], rfl, eqA, rfl, entA, hF⟩ ?_)
 clear hF
 rintro m34 _ _ ⟨g35, k36, rest37, c31, F32, rfl, rfl, hd39, hE, hF⟩
 refine K_ent hE ?_
 clear hE
 refine K_pure (c := crd (RdS 64 rd64) v0_0.v a_a) .h crd_bound (fun hbd44 => ?_)
 rcases rest37 with _ | ⟨x38, rest37⟩
 · have hk40 := List.drop_eq_nil_iff.1 hd39
   rw [l_toMethodS_L1] at hF
   iterate 7 refine au ?_
   refine CdF ?_
   iterate 9 refine au ?_
   cases hF
   exact Er (⟨(some ⟨k4, 0, none⟩), (a_a.length : Int).toNat, 1⟩, F32)
 obtain ⟨hk40, hx41, hd42⟩ := drop_cons hd39
 rw [l_toMethodS_L1] at hF
 iterate 7 refine au ?_
 refine CdT ?_
 iterate 7 refine au ?_
 refine Ai hx41 (fun k45 j46 => ?_)
 refine AlA1 (ul64_0_64 x38) la64_0_64 (fun p47 => ?_)
 obtain ⟨r48, hx49, hF⟩ := bind_some hF
 refine Cx1 (l_toMethod_ok _ _ _ hx49) (fun p50 => ?_)
 obtain ⟨u54, hx55, hF⟩ := bind_some hF
 have hi53 := chk_some hx55
 refine C_idxO sl34.h ty77.h.sz (.tmp rfl rfl) (.tmp rfl rfl) (.t (.t (.t (.t .h)))) hi53 (fun k51 hk52 => ?_)
 obtain ⟨z56, hx57, hF⟩ := bind_some hF
 replace hx57 := Option.some.inj hx57
 refine C_x1 (.cons (.t (.t (.t (.t .h)))) (.cons .h .nil)) (X_storeO (Ro := ow77) (a := r48) (i := (k36 : Int)) ty77.h.sz rfl (.tmp rfl rfl) (.tmp rfl rfl) hk52 hi53 mk77 (fun _ _ _ _ h => by obtain ⟨_, _, rfl, rfl, _⟩ := h; rfl)) (fun F58 => ?_)
 rw [hx57]
 iterate 6 refine au ?_
 rw [wk k36]
 exact ⟨_, Nat.lt_succ_self _, _, k36 + 1, rest37, _, F58, rfl, eqA, hd42, entA, hF⟩
def l_toAtom (a_a : Atom) : Option (Atom) :=
 (l_toIntS a_a.Terms).bind fun r4 =>
 some ({ Rel := a_a.Rel, Terms := r4 } : Atom)
theorem l_toAtom_ok (a_a : Atom) (v0_1 : Sv) (R : Atom) (hF : l_toAtom a_a = some R) :
   Fw.Spec Tryz.prog 75 [(.agg [(.int .i64 a_a.Rel), v0_1.v].toArray)] [crd (RdS 3 rdInt) v0_1.v a_a.Terms] (fun p : Sv × List Nat => (.agg [(.int .i64 R.Rel), p.1.v].toArray)) (fun p => [cown (OwnS 3 (roE rdInt)) p.2 p.1.v R.Terms]) := by
 refine Spec_enter (n := 12) Tryz.func75 rfl rfl (rs := [.cell 2 102]) rfl rfl rfl ?_
 intro H0 F0
 unfold l_toAtom at hF
 refine au ?_
 refine AbR (fun k1 => ?_)
 refine AnW (fun k2 => ?_)
 iterate 2 refine au ?_
 refine AnW (fun k3 => ?_)
 iterate 5 refine au ?_
 refine As (.agg [(.int .i64 a_a.Rel), (.slice none 0 0)].toArray) ?_
 iterate 4 refine au ?_
 obtain ⟨r4, hx5, hF⟩ := bind_some hF
 refine Cx1 (l_toIntS_ok _ _ _ hx5) (fun p6 => ?_)
 refine au ?_
 refine As (.agg [(.int .i64 a_a.Rel), p6.1.v].toArray) ?_
 iterate 3 refine au ?_
 refine As (.agg [(.int .i64 a_a.Rel), p6.1.v].toArray) ?_
 iterate 2 refine au ?_
 cases hF
 exact Er (p6.1, p6.2)
def l_toAtomS_L1 : List Atom → Nat → (List Atom) → Option ((List Atom))
 | [], k36, c31 => some c31
 | x38 :: rest37, k36, c31 => (l_toAtom x38).bind fun r48 =>
   (chk (decide (0 ≤ (k36 : Int)) && decide ((k36 : Int) < (c31.length : Int)))).bind fun u54 =>
   (some (c31.set ((k36 : Int)).toNat r48)).bind fun z56 =>
   l_toAtomS_L1 rest37 (k36 + 1) z56
def l_toAtomS (a_a : List Atom) : Option ((List Atom)) :=
 (mkz (a_a.length : Int) (({ Rel := 0, Terms := [] } : Atom) : Atom)).bind fun z1 =>
 l_toAtomS_L1 a_a 0 z1
theorem l_toAtomS_ok (a_a : List Atom) (v0_0 : Sv) (R : (List Atom)) (hF : l_toAtomS a_a = some R) :
   Fw.Spec Tryz.prog 43 [v0_0.v] [crd (RdS 94 rd94) v0_0.v a_a] (fun p : Sv × List Nat => p.1.v) (fun p => [cown (OwnS 102 ow102) p.2 p.1.v R]) := by
 refine Spec_enter (n := 23) Tryz.func43 rfl rfl (rs := [.tmp 2]) rfl rfl rfl ?_
 intro H0 F0
 unfold l_toAtomS at hF
 iterate 6 refine au ?_
 obtain ⟨z1, hx2, hF⟩ := bind_some hF
 have hm3 := mkz_some hx2
 refine C_new rfl (N_makeSlice (g := true) (c := (a_a.length : Int)) sl36.h ty102.h rfl rfl (by decide) (.tmp rfl rfl) hm3.2.1 hm3.2.2) (fun k4 => ?_)
 refine Cv1 (.cons .h .nil) (own_make (Ro := ow102) (E := 102) (a := (({ Rel := 0, Terms := [] } : Atom) : Atom)) hx2 (fun _ => ⟨⟨none, 0, 0⟩, [], rfl, rfl, .inl ⟨rfl, rfl, rfl⟩⟩)) ?_
 iterate 6 refine au ?_
 refine CW_block (CW_loop (m := a_a.length) (fun m34 f' cs' => ∃ (g : Fr) (k36 : Nat) (rest37 : List Atom) (c31 : List Atom) (F32 : List Nat), m34 = rest37.length ∧ f' = updL g [(0, v0_0.v), (3, (.slice (some ⟨k4, 0, none⟩) (a_a.length : Int).toNat 1)), (4, (.int .i64 (k36 : Int)))] ∧ List.drop k36 a_a = rest37 ∧ Ent cs' [crd (RdS 94 rd94) v0_0.v a_a, cown (OwnS 102 ow102) F32 (.slice (some ⟨k4, 0, none⟩) (a_a.length : Int).toNat 1) c31] ∧ l_toAtomS_L1 rest37 k36 c31 = some R) ⟨_, 0, _, _, [k4], rfl, eqA, rfl, entA, hF⟩ ?_)
 clear hF
 rintro m34 _ _ ⟨g35, k36, rest37, c31, F32, rfl, rfl, hd39, hE, hF⟩
 refine K_ent hE ?_
 clear hE
 refine K_pure (c := crd (RdS 94 rd94) v0_0.v a_a) .h crd_bound (fun hbd44 => ?_)
 rcases rest37 with _ | ⟨x38, rest37⟩
 · have hk40 := List.drop_eq_nil_iff.1 hd39
   rw [l_toAtomS_L1] at hF
   iterate 7 refine au ?_
   refine CdF ?_
   iterate 9 refine au ?_
   cases hF
   exact Er (⟨(some ⟨k4, 0, none⟩), (a_a.length : Int).toNat, 1⟩, F32)
 obtain ⟨hk40, hx41, hd42⟩ := drop_cons hd39
 rw [l_toAtomS_L1] at hF
 iterate 7 refine au ?_
 refine CdT ?_
 iterate 7 refine au ?_
 refine Ai hx41 (fun k45 j46 => ?_)
 refine AlA1 (ul94_0_94 x38) la94_0_94 (fun p47 => ?_)
 obtain ⟨r48, hx49, hF⟩ := bind_some hF
 refine Cx1 (l_toAtom_ok _ _ _ hx49) (fun p50 => ?_)
 obtain ⟨u54, hx55, hF⟩ := bind_some hF
 have hi53 := chk_some hx55
 refine C_idxO sl36.h ty102.h.sz (.tmp rfl rfl) (.tmp rfl rfl) (.t (.t (.t (.t .h)))) hi53 (fun k51 hk52 => ?_)
 obtain ⟨z56, hx57, hF⟩ := bind_some hF
 replace hx57 := Option.some.inj hx57
 refine C_x1 (.cons (.t (.t (.t (.t .h)))) (.cons .h .nil)) (X_storeO (Ro := ow102) (a := r48) (i := (k36 : Int)) ty102.h.sz rfl (.tmp rfl rfl) (.tmp rfl rfl) hk52 hi53 mk102 (fun _ _ _ _ h => by obtain ⟨_, _, rfl, rfl, _⟩ := h; rfl)) (fun F58 => ?_)
 rw [hx57]
 iterate 6 refine au ?_
 rw [wk k36]
 exact ⟨_, Nat.lt_succ_self _, _, k36 + 1, rest37, _, F58, rfl, eqA, hd42, entA, hF⟩
def l_toQuery (a_a : Query) : Option (Query) :=
 (l_toIntS a_a.Head).bind fun r4 =>
 (l_toAtomS a_a.Atoms).bind fun r7 =>
 some ({ Head := r4, Atoms := r7 } : Query)
theorem l_toQuery_ok (a_a : Query) (v0_0 : Sv) (v0_1 : Sv) (R : Query) (hF : l_toQuery a_a = some R) :
   Fw.Spec Tryz.prog 12 [(.agg [v0_0.v, v0_1.v].toArray)] [crd (RdS 3 rdInt) v0_0.v a_a.Head, crd (RdS 94 rd94) v0_1.v a_a.Atoms] (fun p : Sv × List Nat × Sv × List Nat => (.agg [p.1.v, p.2.2.1.v].toArray)) (fun p => [cown (OwnS 3 (roE rdInt)) p.2.1 p.1.v R.Head, cown (OwnS 102 ow102) p.2.2.2 p.2.2.1.v R.Atoms]) := by
 refine Spec_enter (n := 13) Tryz.func12 rfl rfl (rs := [.cell 2 38]) rfl rfl rfl ?_
 intro H0 F0
 unfold l_toQuery at hF
 refine au ?_
 refine AbR (fun k1 => ?_)
 refine AnW (fun k2 => ?_)
 iterate 2 refine au ?_
 refine AnW (fun k3 => ?_)
 iterate 4 refine au ?_
 obtain ⟨r4, hx5, hF⟩ := bind_some hF
 refine Cx1 (l_toIntS_ok _ _ _ hx5) (fun p6 => ?_)
 refine au ?_
 refine As (.agg [p6.1.v, (.slice none 0 0)].toArray) ?_
 iterate 4 refine au ?_
 obtain ⟨r7, hx8, hF⟩ := bind_some hF
 refine Cx1 (l_toAtomS_ok _ _ _ hx8) (fun p9 => ?_)
 refine au ?_
 refine As (.agg [p6.1.v, p9.1.v].toArray) ?_
 iterate 3 refine au ?_
 refine As (.agg [p6.1.v, p9.1.v].toArray) ?_
 iterate 2 refine au ?_
 cases hF
 exact Er (p6.1, p6.2, p9.1, p9.2)
def l_toFact (a_a : Fact) : Option (Fact) :=
 (l_toIntS a_a.Values).bind fun r4 =>
 some ({ Rel := a_a.Rel, Values := r4 } : Fact)
theorem l_toFact_ok (a_a : Fact) (v0_1 : Sv) (R : Fact) (hF : l_toFact a_a = some R) :
   Fw.Spec Tryz.prog 44 [(.agg [(.int .i64 a_a.Rel), v0_1.v].toArray)] [crd (RdS 3 rdInt) v0_1.v a_a.Values] (fun p : Sv × List Nat => (.agg [(.int .i64 R.Rel), p.1.v].toArray)) (fun p => [cown (OwnS 3 (roE rdInt)) p.2 p.1.v R.Values]) := by
 refine Spec_enter (n := 12) Tryz.func44 rfl rfl (rs := [.cell 2 80]) rfl rfl rfl ?_
 intro H0 F0
 unfold l_toFact at hF
 refine au ?_
 refine AbR (fun k1 => ?_)
 refine AnW (fun k2 => ?_)
 iterate 2 refine au ?_
 refine AnW (fun k3 => ?_)
 iterate 5 refine au ?_
 refine As (.agg [(.int .i64 a_a.Rel), (.slice none 0 0)].toArray) ?_
 iterate 4 refine au ?_
 obtain ⟨r4, hx5, hF⟩ := bind_some hF
 refine Cx1 (l_toIntS_ok _ _ _ hx5) (fun p6 => ?_)
 refine au ?_
 refine As (.agg [(.int .i64 a_a.Rel), p6.1.v].toArray) ?_
 iterate 3 refine au ?_
 refine As (.agg [(.int .i64 a_a.Rel), p6.1.v].toArray) ?_
 iterate 2 refine au ?_
 cases hF
 exact Er (p6.1, p6.2)
def l_toFactS_L1 : List Fact → Nat → (List Fact) → Option ((List Fact))
 | [], k36, c31 => some c31
 | x38 :: rest37, k36, c31 => (l_toFact x38).bind fun r48 =>
   (chk (decide (0 ≤ (k36 : Int)) && decide ((k36 : Int) < (c31.length : Int)))).bind fun u54 =>
   (some (c31.set ((k36 : Int)).toNat r48)).bind fun z56 =>
   l_toFactS_L1 rest37 (k36 + 1) z56
def l_toFactS (a_a : List Fact) : Option ((List Fact)) :=
 (mkz (a_a.length : Int) (({ Rel := 0, Values := [] } : Fact) : Fact)).bind fun z1 =>
 l_toFactS_L1 a_a 0 z1
theorem l_toFactS_ok (a_a : List Fact) (v0_0 : Sv) (R : (List Fact)) (hF : l_toFactS a_a = some R) :
   Fw.Spec Tryz.prog 13 [v0_0.v] [crd (RdS 68 rd68) v0_0.v a_a] (fun p : Sv × List Nat => p.1.v) (fun p => [cown (OwnS 80 ow80) p.2 p.1.v R]) := by
 refine Spec_enter (n := 23) Tryz.func13 rfl rfl (rs := [.tmp 2]) rfl rfl rfl ?_
 intro H0 F0
 unfold l_toFactS at hF
 iterate 6 refine au ?_
 obtain ⟨z1, hx2, hF⟩ := bind_some hF
 have hm3 := mkz_some hx2
 refine C_new rfl (N_makeSlice (g := true) (c := (a_a.length : Int)) sl40.h ty80.h rfl rfl (by decide) (.tmp rfl rfl) hm3.2.1 hm3.2.2) (fun k4 => ?_)
 refine Cv1 (.cons .h .nil) (own_make (Ro := ow80) (E := 80) (a := (({ Rel := 0, Values := [] } : Fact) : Fact)) hx2 (fun _ => ⟨⟨none, 0, 0⟩, [], rfl, rfl, .inl ⟨rfl, rfl, rfl⟩⟩)) ?_
 iterate 6 refine au ?_
 refine CW_block (CW_loop (m := a_a.length) (fun m34 f' cs' => ∃ (g : Fr) (k36 : Nat) (rest37 : List Fact) (c31 : List Fact) (F32 : List Nat), m34 = rest37.length ∧ f' = updL g [(0, v0_0.v), (3, (.slice (some ⟨k4, 0, none⟩) (a_a.length : Int).toNat 1)), (4, (.int .i64 (k36 : Int)))] ∧ List.drop k36 a_a = rest37 ∧ Ent cs' [crd (RdS 68 rd68) v0_0.v a_a, cown (OwnS 80 ow80) F32 (.slice (some ⟨k4, 0, none⟩) (a_a.length : Int).toNat 1) c31] ∧ l_toFactS_L1 rest37 k36 c31 = some R) ⟨_, 0, _, _, [k4], rfl, eqA, rfl, entA, hF⟩ ?_)
 clear hF
 rintro m34 _ _ ⟨g35, k36, rest37, c31, F32, rfl, rfl, hd39, hE, hF⟩
 refine K_ent hE ?_
 clear hE
 refine K_pure (c := crd (RdS 68 rd68) v0_0.v a_a) .h crd_bound (fun hbd44 => ?_)
 rcases rest37 with _ | ⟨x38, rest37⟩
 · have hk40 := List.drop_eq_nil_iff.1 hd39
   rw [l_toFactS_L1] at hF
   iterate 7 refine au ?_
   refine CdF ?_
   iterate 9 refine au ?_
   cases hF
   exact Er (⟨(some ⟨k4, 0, none⟩), (a_a.length : Int).toNat, 1⟩, F32)
 obtain ⟨hk40, hx41, hd42⟩ := drop_cons hd39
 rw [l_toFactS_L1] at hF
 iterate 7 refine au ?_
 refine CdT ?_
 iterate 7 refine au ?_
 refine Ai hx41 (fun k45 j46 => ?_)
 refine AlA1 (ul68_0_68 x38) la68_0_68 (fun p47 => ?_)
 obtain ⟨r48, hx49, hF⟩ := bind_some hF
 refine Cx1 (l_toFact_ok _ _ _ hx49) (fun p50 => ?_)
 obtain ⟨u54, hx55, hF⟩ := bind_some hF
 have hi53 := chk_some hx55
 refine C_idxO sl40.h ty80.h.sz (.tmp rfl rfl) (.tmp rfl rfl) (.t (.t (.t (.t .h)))) hi53 (fun k51 hk52 => ?_)
 obtain ⟨z56, hx57, hF⟩ := bind_some hF
 replace hx57 := Option.some.inj hx57
 refine C_x1 (.cons (.t (.t (.t (.t .h)))) (.cons .h .nil)) (X_storeO (Ro := ow80) (a := r48) (i := (k36 : Int)) ty80.h.sz rfl (.tmp rfl rfl) (.tmp rfl rfl) hk52 hi53 mk80 (fun _ _ _ _ h => by obtain ⟨_, _, rfl, rfl, _⟩ := h; rfl)) (fun F58 => ?_)
 rw [hx57]
 iterate 6 refine au ?_
 rw [wk k36]
 exact ⟨_, Nat.lt_succ_self _, _, k36 + 1, rest37, _, F58, rfl, eqA, hd42, entA, hF⟩
def s_l1In (a_x : Int) (a_low : Int) (a_high : Int) : Option (Bool) :=
 some ((decide ((a_low : Int) ≤ a_x)) && (decide ((a_x : Int) ≤ a_high)))
theorem s_l1In_ok (a_x : Int) (a_low : Int) (a_high : Int) (R : Bool) (hF : s_l1In a_x a_low a_high = some R) :
   Fw.Spec Tryz.prog 71 [(.int .i64 a_x), (.int .i64 a_low), (.int .i64 a_high)] [] (fun _ : Unit => (.bool R)) (fun _ => []) := by
 refine Spec_enter (n := 15) Tryz.func71 rfl rfl (rs := [.tmp 6]) rfl rfl rfl ?_
 intro H0 F0
 unfold s_l1In at hF
 iterate 4 refine au ?_
 refine C_cut (fun f' cs' => ∃ (g : Fr), f' = updL g [(6, (.bool ((decide ((a_low : Int) ≤ a_x)) && (decide ((a_x : Int) ≤ a_high)))))] ∧ Ent cs' []) ?_ ?_
 · iterate 4 refine au ?_
   rcases Bool.eq_false_or_eq_true (decide ((a_low : Int) ≤ a_x)) with hg1 | hg1
   · rw [hg1]
     try rw [hg1] at hF; dsimp only [cond_true, cond_false] at hF
     iterate 9 refine au ?_
     exact ⟨_, eqA, entA⟩
   rw [hg1]
   try rw [hg1] at hF; dsimp only [cond_true, cond_false] at hF
   iterate 6 refine au ?_
   exact ⟨_, eqA, entA⟩
 rintro _ _ ⟨g2, rfl, hE⟩
 refine K_ent hE ?_
 refine au ?_
 cases hF
 exact Er ()
def s_IsVar (a_t : Int) : Option (Bool) :=
 (s_l1In a_t 10 17).bind fun r1 =>
 some r1
theorem s_IsVar_ok (a_t : Int) (R : Bool) (hF : s_IsVar a_t = some R) :
   Fw.Spec Tryz.prog 142 [(.int .i64 a_t)] [] (fun _ : Unit => (.bool R)) (fun _ => []) := by
 refine Spec_enter (n := 5) Tryz.func142 rfl rfl (rs := [.tmp 2]) rfl rfl rfl ?_
 intro H0 F0
 unfold s_IsVar at hF
 iterate 5 refine au ?_
 obtain ⟨r1, hx2, hF⟩ := bind_some hF
 refine Cx0 (s_l1In_ok _ _ _ _ hx2) (fun _ => ?_)
 iterate 3 refine au ?_
 cases hF
 exact Er ()
def s_l2Has_L1 (a_x : Int) : List Int → Nat → Option (Bool)
 | [], k4 => some false
 | x6 :: rest5, k4 => if ((x6 : Int) == a_x) then (
     some true)
   else (
     s_l2Has_L1 a_x rest5 (k4 + 1))
def s_l2Has (a_l : List Int) (a_x : Int) : Option (Bool) :=
 s_l2Has_L1 a_x a_l 0
theorem s_l2Has_ok (a_l : List Int) (v0_0 : Sv) (a_x : Int) (R : Bool) (hF : s_l2Has a_l a_x = some R) :
   Fw.Spec Tryz.prog 103 [v0_0.v, (.int .i64 a_x)] [crd (RdS 3 rdInt) v0_0.v a_l] (fun _ : Unit => (.bool R)) (fun _ => []) := by
 refine Spec_enter (n := 18) Tryz.func103 rfl rfl (rs := [.tmp 4]) rfl rfl rfl ?_
 intro H0 F0
 unfold s_l2Has at hF
 iterate 7 refine au ?_
 refine CW_block (CW_loop (m := a_l.length) (fun m2 f' cs' => ∃ (g : Fr) (k4 : Nat) (rest5 : List Int), m2 = rest5.length ∧ f' = updL g [(0, v0_0.v), (1, (.int .i64 a_x)), (5, (.int .i64 (k4 : Int)))] ∧ List.drop k4 a_l = rest5 ∧ Ent cs' [crd (RdS 3 rdInt) v0_0.v a_l] ∧ s_l2Has_L1 a_x rest5 k4 = some R) ⟨_, 0, _, rfl, eqA, rfl, entA, hF⟩ ?_)
 clear hF
 rintro m2 _ _ ⟨g3, k4, rest5, rfl, rfl, hd7, hE, hF⟩
 refine K_ent hE ?_
 clear hE
 refine K_pure (c := crd (RdS 3 rdInt) v0_0.v a_l) .h crd_bound (fun hbd12 => ?_)
 rcases rest5 with _ | ⟨x6, rest5⟩
 · have hk8 := List.drop_eq_nil_iff.1 hd7
   rw [s_l2Has_L1] at hF
   iterate 7 refine au ?_
   refine CdF ?_
   iterate 8 refine au ?_
   cases hF
   exact Er ()
 obtain ⟨hk8, hx9, hd10⟩ := drop_cons hd7
 rw [s_l2Has_L1] at hF
 iterate 7 refine au ?_
 refine CdT ?_
 iterate 5 refine au ?_
 refine Ai hx9 (fun k13 j14 => ?_)
 refine Al ls3_0 ?_
 iterate 3 refine au ?_
 refine Cc (fun hb16 => ?_) (fun hb16 => ?_)
 · rw [if_pos hb16] at hF
   iterate 4 refine au ?_
   cases hF
   exact Er ()
 rw [if_neg (nt hb16)] at hF
 iterate 6 refine au ?_
 rw [wk k4]
 exact ⟨_, Nat.lt_succ_self _, _, k4 + 1, rest5, rfl, eqA, hd10, entA, hF⟩
def s_l3Put_L1 (a_x : Int) : List Int → Nat → (List Int) → Bool → Option ((List Int))
 | [], k12, c5, c8 => if (!c8) then (
     (app c5 ([a_x] : List Int)).bind fun z22 =>
     some z22)
   else (
     some c5)
 | x14 :: rest13, k12, c5, c8 => (if ((!c8) && (decide ((a_x : Int) < x14))) then (
       (app c5 ([a_x] : List Int)).bind fun z33 =>
       (app z33 ([x14] : List Int)).bind fun z39 =>
       some (z39, true))
     else (
       (app c5 ([x14] : List Int)).bind fun z45 =>
       some (z45, c8))).bind fun o26 =>
   match o26 with
   | (c49, c52) => s_l3Put_L1 a_x rest13 (k12 + 1) c49 c52
def s_l3Put (a_l : List Int) (a_x : Int) : Option ((List Int)) :=
 (s_l2Has a_l a_x).bind fun r1 =>
 if r1 then (
   some a_l)
 else (
   s_l3Put_L1 a_x a_l 0 ([] : List Int) false)
theorem s_l3Put_ok (a_l : List Int) (v0_0 : Sv) (a_x : Int) (R : (List Int)) (hF : s_l3Put a_l a_x = some R) :
   Fw.Spec Tryz.prog 72 [v0_0.v, (.int .i64 a_x)] [crd (RdS 3 rdInt) v0_0.v a_l] (fun p : Sv => p.v) (fun p => [crd (RdS 3 rdInt) p.v R]) := by
 refine Spec_enter (n := 47) Tryz.func72 rfl rfl (rs := [.tmp 4]) rfl rfl rfl ?_
 intro H0 F0
 unfold s_l3Put at hF
 iterate 7 refine au ?_
 obtain ⟨r1, hx2, hF⟩ := bind_some hF
 refine Cx0 (s_l2Has_ok _ _ _ _ hx2) (fun _ => ?_)
 refine au ?_
 refine Cc (fun hb55 => ?_) (fun hb55 => ?_)
 · rw [if_pos hb55] at hF
   iterate 5 refine au ?_
   cases hF
   exact Er v0_0
 rw [if_neg (nt hb55)] at hF
 iterate 2 refine au ?_
 refine C_new rfl (N_buildSliceT (g := true) sl22.h ty3.h .nil (vs := []) rfl rfl rfl (by simp)) (fun k4 => ?_)
 refine Cv1 (.cons .h .nil) (own_lit (Ro := (roE rdInt)) (E := 3) (F := []) (xs := ([] : List Int)) MkL_nil rfl rfl) ?_
 iterate 9 refine au ?_
 refine CW_block (CW_loop (m := a_l.length) (fun m10 f' cs' => ∃ (g : Fr) (k12 : Nat) (rest13 : List Int) (c5 : List Int) (c8 : Bool) (v6 : Sv) (F7 : List Nat), m10 = rest13.length ∧ f' = updL g [(0, v0_0.v), (1, (.int .i64 a_x)), (5, v6.v), (6, (.bool c8)), (7, (.int .i64 (k12 : Int)))] ∧ List.drop k12 a_l = rest13 ∧ Ent cs' [crd (RdS 3 rdInt) v0_0.v a_l, cown (OwnS 3 (roE rdInt)) F7 v6.v c5] ∧ s_l3Put_L1 a_x rest13 k12 c5 c8 = some R) ⟨_, 0, _, _, _, ⟨(some ⟨k4, 0, none⟩), 0, 1⟩, (k4 :: []), rfl, eqA, rfl, entA, hF⟩ ?_)
 clear hF
 rintro m10 _ _ ⟨g11, k12, rest13, c5, c8, v6, F7, rfl, rfl, hd15, hE, hF⟩
 refine K_ent hE ?_
 clear hE
 refine K_pure (c := crd (RdS 3 rdInt) v0_0.v a_l) .h crd_bound (fun hbd20 => ?_)
 rcases rest13 with _ | ⟨x14, rest13⟩
 · have hk16 := List.drop_eq_nil_iff.1 hd15
   rw [s_l3Put_L1] at hF
   iterate 7 refine au ?_
   refine CdF ?_
   iterate 9 refine au ?_
   refine Cc (fun hb25 => ?_) (fun hb25 => ?_)
   · rw [if_pos hb25] at hF
     iterate 3 refine au ?_
     refine C_new rfl (N_buildSliceT (g := true) sl22.h ty3.h (.cons (.tmp rfl rfl) .nil) (vs := [(.int .i64 a_x)]) rfl rfl rfl (by intro v hv; simp at hv; rcases hv with rfl <;> rfl)) (fun k21 => ?_)
     refine Cv1 (.cons .h .nil) (own_lit (Ro := (roE rdInt)) (E := 3) (F := ([] ++ [])) (xs := ([a_x] : List Int)) (MkL_cons (Mk_pure (fun _ => rfl)) MkL_nil apps) rfl rfl) ?_
     obtain ⟨z22, hx23, hF⟩ := bind_some hF
     refine C_x1 (.cons (.t (.t .h)) (.cons .h .nil)) (X_appendO (Ro := (roE rdInt)) sl22.h ni22 ty3.h rfl rfl rfl (.tmp rfl rfl) (.tmp rfl rfl) hx23 src_own) (fun p24 => ?_)
     iterate 7 refine au ?_
     cases hF
     exact End_ret p24.1 (.tmp rfl rfl .nil) rfl (.frz .h frz_own (.sel (.rd .h rfl .nil)))
   rw [if_neg (nt hb25)] at hF
   iterate 6 refine au ?_
   cases hF
   exact End_ret v6 (.tmp rfl rfl .nil) rfl (.frz (.t .h) frz_own (.sel (.rd .h rfl .nil)))
 obtain ⟨hk16, hx17, hd18⟩ := drop_cons hd15
 rw [s_l3Put_L1] at hF
 iterate 7 refine au ?_
 refine CdT ?_
 refine au ?_
 obtain ⟨o26, hio26, hO27⟩ := bind_some hF
 refine K_cut (fun f' cs' => ∃ (c49 : List Int) (c52 : Bool) (v50 : Sv) (F51 : List Nat) (g : Fr), o26 = (c49, c52) ∧ f' = updL g [(0, v0_0.v), (1, (.int .i64 a_x)), (5, v50.v), (6, (.bool c52)), (7, (.int .i64 (k12 : Int)))] ∧ Ent cs' [crd (RdS 3 rdInt) v0_0.v a_l, cown (OwnS 3 (roE rdInt)) F51 v50.v c49]) ?_ ?_
 · replace hF := hio26
   refine CW_block (K_in (K_region (C_cut (fun f' cs' => ∃ (g : Fr), f' = updL g [(0, v0_0.v), (1, (.int .i64 a_x)), (5, v6.v), (6, (.bool c8)), (7, (.int .i64 (k12 : Int))), (28, (.bool ((!c8) && (decide ((a_x : Int) < x14)))))] ∧ Ent cs' [crd (RdS 3 rdInt) v0_0.v a_l, cown (OwnS 3 (roE rdInt)) F7 v6.v c5]) ?_ ?_)))
   · iterate 3 refine au ?_
     rcases Bool.eq_false_or_eq_true (!c8) with hg28 | hg28
     · rw [hg28]
       try rw [hg28] at hF; dsimp only [cond_true, cond_false] at hF
       iterate 5 refine au ?_
       refine Ai hx17 (fun k29 j30 => ?_)
       refine au ?_
       refine Al ls3_0 ?_
       iterate 6 refine au ?_
       exact ⟨_, eqA, entA⟩
     rw [hg28]
     try rw [hg28] at hF; dsimp only [cond_true, cond_false] at hF
     iterate 8 refine au ?_
     exact ⟨_, eqA, entA⟩
   rintro _ _ ⟨g31, rfl, hE⟩
   refine K_ent hE ?_
   refine Cc (fun hb48 => ?_) (fun hb48 => ?_)
   · rw [if_pos hb48] at hF
     iterate 3 refine au ?_
     refine C_new rfl (N_buildSliceT (g := true) sl22.h ty3.h (.cons (.tmp rfl rfl) .nil) (vs := [(.int .i64 a_x)]) rfl rfl rfl (by intro v hv; simp at hv; rcases hv with rfl <;> rfl)) (fun k32 => ?_)
     refine Cv1 (.cons .h .nil) (own_lit (Ro := (roE rdInt)) (E := 3) (F := ([] ++ [])) (xs := ([a_x] : List Int)) (MkL_cons (Mk_pure (fun _ => rfl)) MkL_nil apps) rfl rfl) ?_
     obtain ⟨z33, hx34, hF⟩ := bind_some hF
     refine C_x1 (.cons (.t (.t .h)) (.cons .h .nil)) (X_appendO (Ro := (roE rdInt)) sl22.h ni22 ty3.h rfl rfl rfl (.tmp rfl rfl) (.tmp rfl rfl) hx34 src_own) (fun p35 => ?_)
     iterate 9 refine au ?_
     refine Ai hx17 (fun k36 j37 => ?_)
     refine Al ls3_0 ?_
     refine C_new rfl (N_buildSliceT (g := true) sl22.h ty3.h (.cons (.tmp rfl rfl) .nil) (vs := [(.int .i64 x14)]) rfl rfl rfl (by intro v hv; simp at hv; rcases hv with rfl <;> rfl)) (fun k38 => ?_)
     refine Cv1 (.cons .h .nil) (own_lit (Ro := (roE rdInt)) (E := 3) (F := ([] ++ [])) (xs := ([x14] : List Int)) (MkL_cons (Mk_pure (fun _ => rfl)) MkL_nil apps) rfl rfl) ?_
     obtain ⟨z39, hx40, hF⟩ := bind_some hF
     refine C_x1 (.cons (.t (.t .h)) (.cons .h .nil)) (X_appendO (Ro := (roE rdInt)) sl22.h ni22 ty3.h rfl rfl rfl (.tmp rfl rfl) (.tmp rfl rfl) hx40 src_own) (fun p41 => ?_)
     iterate 2 refine au ?_
     cases hF
     exact ⟨_, _, p41.1, p41.2, _, rfl, eqA, entA⟩
   rw [if_neg (nt hb48)] at hF
   iterate 5 refine au ?_
   refine Ai hx17 (fun k42 j43 => ?_)
   refine Al ls3_0 ?_
   refine C_new rfl (N_buildSliceT (g := true) sl22.h ty3.h (.cons (.tmp rfl rfl) .nil) (vs := [(.int .i64 x14)]) rfl rfl rfl (by intro v hv; simp at hv; rcases hv with rfl <;> rfl)) (fun k44 => ?_)
   refine Cv1 (.cons .h .nil) (own_lit (Ro := (roE rdInt)) (E := 3) (F := ([] ++ [])) (xs := ([x14] : List Int)) (MkL_cons (Mk_pure (fun _ => rfl)) MkL_nil apps) rfl rfl) ?_
   obtain ⟨z45, hx46, hF⟩ := bind_some hF
   refine C_x1 (.cons (.t (.t (.t .h))) (.cons .h .nil)) (X_appendO (Ro := (roE rdInt)) sl22.h ni22 ty3.h rfl rfl rfl (.tmp rfl rfl) (.tmp rfl rfl) hx46 src_own) (fun p47 => ?_)
   iterate 2 refine au ?_
   cases hF
   exact ⟨_, _, p47.1, p47.2, _, rfl, eqA, entA⟩
 rintro _ _ ⟨c49, c52, v50, F51, g54, rfl, rfl, hE⟩
 replace hF := hO27
 clear hO27
 try dsimp only at hF
 refine K_ent hE ?_
 iterate 5 refine au ?_
 rw [wk k12]
 exact ⟨_, Nat.lt_succ_self _, _, k12 + 1, rest13, _, _, v50, F51, rfl, eqA, hd18, entA, hF⟩
def s_VarsOf_L3 (x127 : Atom) : Nat → (List Int) → Int → Option ((List Int))
 | 0, _, _ => none
 | m139 + 1, c136, c138 => if (decide ((c138 : Int) < (x127.Terms.length : Int))) then (
     ((ix x127.Terms c138).bind fun x155 =>
       (s_IsVar x155).bind fun r161 =>
       if r161 then (
         (ix x127.Terms c138).bind fun x167 =>
         (s_l3Put c136 x167).bind fun r173 =>
         some r173)
       else (
         some c136)).bind fun o150 =>
     match o150 with
     | c177 => s_VarsOf_L3 x127 m139 c177 (IntKind.i64.wrap (c138 + 1)))
   else (
     some c136)
def s_VarsOf_L1 : List Atom → Nat → (List Int) → Option ((List Int))
 | [], k125, c120 => some c120
 | x127 :: rest126, k125, c120 => (s_VarsOf_L3 x127 (((x127.Terms.length : Int) - 0).toNat + 2) c120 0).bind fun o134 =>
   match o134 with
   | c181 => s_VarsOf_L1 rest126 (k125 + 1) c181
def s_VarsOf (a_q : Query) : Option ((List Int)) :=
 s_VarsOf_L1 a_q.Atoms 0 ([] : List Int)
theorem s_VarsOf_ok (a_q : Query) (v0_0 : Sv) (v0_1 : Sv) (R : (List Int)) (hF : s_VarsOf a_q = some R) :
   Fw.Spec Tryz.prog 102 [(.agg [v0_0.v, v0_1.v].toArray)] [crd (RdS 3 rdInt) v0_0.v a_q.Head, crd (RdS 102 rd102) v0_1.v a_q.Atoms] (fun p : Sv => p.v) (fun p => [crd (RdS 3 rdInt) p.v R]) := by
 refine Spec_enter (n := 47) Tryz.func102 rfl rfl (rs := [.tmp 2]) rfl rfl rfl ?_
 intro H0 F0
 unfold s_VarsOf at hF
 refine au ?_
 refine AbR (fun k1 => ?_)
 iterate 3 refine au ?_
 refine C_new rfl (N_buildSliceT (g := true) sl22.h ty3.h .nil (vs := []) rfl rfl rfl (by simp)) (fun k2 => ?_)
 refine Cv1 (.cons .h .nil) (own_lit (Ro := (roE rdInt)) (E := 3) (F := []) (xs := ([] : List Int)) MkL_nil rfl rfl) ?_
 iterate 6 refine au ?_
 refine CW_block (CW_loop (m := a_q.Atoms.length) (fun m123 f' cs' => ∃ (g : Fr) (k125 : Nat) (rest126 : List Atom) (c120 : List Int) (v121 : Sv), m123 = rest126.length ∧ f' = updL g [(1, (.pointer (some ⟨k1, 0, some 0⟩))), (3, v121.v), (4, (.int .i64 (k125 : Int)))] ∧ List.drop k125 a_q.Atoms = rest126 ∧ Ent cs' [cboR k1 38 (.agg [v0_0.v, v0_1.v].toArray), crd (RdS 3 rdInt) v0_0.v a_q.Head, crd (RdS 102 rd102) v0_1.v a_q.Atoms, crd (RdS 3 rdInt) v121.v c120] ∧ s_VarsOf_L1 rest126 k125 c120 = some R) ⟨_, 0, _, _, ⟨(some ⟨k2, 0, none⟩), 0, 1⟩, rfl, eqA, rfl, (.frz .h frz_own entA), hF⟩ ?_)
 clear hF
 rintro m123 _ _ ⟨g124, k125, rest126, c120, v121, rfl, rfl, hd128, hE, hF⟩
 refine K_ent hE ?_
 clear hE
 refine K_pure (c := crd (RdS 102 rd102) v0_1.v a_q.Atoms) (.t (.t .h)) crd_bound (fun hbd133 => ?_)
 rcases rest126 with _ | ⟨x127, rest126⟩
 · have hk129 := List.drop_eq_nil_iff.1 hd128
   rw [s_VarsOf_L1] at hF
   iterate 8 refine au ?_
   refine CdF ?_
   iterate 9 refine au ?_
   cases hF
   exact Er v121
 obtain ⟨hk129, hx130, hd131⟩ := drop_cons hd128
 rw [s_VarsOf_L1] at hF
 iterate 8 refine au ?_
 refine CdT ?_
 refine au ?_
 obtain ⟨o134, hio134, hO135⟩ := bind_some hF
 refine K_cut (fun f' cs' => ∃ (c181 : List Int) (v182 : Sv) (g : Fr), c181 = o134 ∧ f' = updL g [(1, (.pointer (some ⟨k1, 0, some 0⟩))), (3, v182.v), (4, (.int .i64 (k125 : Int)))] ∧ Ent cs' [cboR k1 38 (.agg [v0_0.v, v0_1.v].toArray), crd (RdS 3 rdInt) v0_0.v a_q.Head, crd (RdS 102 rd102) v0_1.v a_q.Atoms, crd (RdS 3 rdInt) v182.v c181]) ?_ ?_
 · replace hF := hio134
   refine CW_block (K_region (C_val (V_assign (v := (.int .i64 0)) (.int _ _)) ?_))
   refine au ?_
   refine CW_block (CW_loop (m := (((x127.Terms.length : Int) - 0).toNat + 2)) (fun m139 f' cs' => ∃ (g : Fr) (c136 : List Int) (c138 : Int) (v137 : Sv), f' = updL g [(1, (.pointer (some ⟨k1, 0, some 0⟩))), (3, v137.v), (4, (.int .i64 (k125 : Int))), (5, (.int .i64 c138))] ∧ Ent cs' [cboR k1 38 (.agg [v0_0.v, v0_1.v].toArray), crd (RdS 3 rdInt) v0_0.v a_q.Head, crd (RdS 102 rd102) v0_1.v a_q.Atoms, crd (RdS 3 rdInt) v137.v c136] ∧ s_VarsOf_L3 x127 m139 c136 c138 = some o134) ⟨_, _, _, v121, eqA, entA, hF⟩ ?_)
   clear hF
   rintro m139 _ _ ⟨g140, c136, c138, v137, rfl, hE, hF⟩
   refine K_ent hE ?_
   clear hE
   rcases m139 with _ | m139
   · rw [s_VarsOf_L3] at hF
     exact absurd hF (by simp)
   rw [s_VarsOf_L3] at hF
   iterate 6 refine au ?_
   refine Ai hx130 (fun k147 j148 => ?_)
   refine au ?_
   refine C_ldV (R' := (RdS 3 rdInt)) ag22.h (.tmp rfl rfl) .h lv102_1 (fun w149 => ?_)
   iterate 3 refine au ?_
   refine Cc (fun hb180 => ?_) (fun hb180 => ?_)
   · rw [if_pos hb180] at hF
     refine au ?_
     obtain ⟨o150, hio150, hO151⟩ := bind_some hF
     refine K_cut (fun f' cs' => ∃ (c177 : List Int) (v178 : Sv) (g : Fr), c177 = o150 ∧ f' = updL g [(1, (.pointer (some ⟨k1, 0, some 0⟩))), (3, v178.v), (4, (.int .i64 (k125 : Int))), (5, (.int .i64 c138))] ∧ Ent cs' [cboR k1 38 (.agg [v0_0.v, v0_1.v].toArray), crd (RdS 3 rdInt) v0_0.v a_q.Head, crd (RdS 102 rd102) v0_1.v a_q.Atoms, crd (RdS 3 rdInt) v178.v c177]) ?_ ?_
     · replace hF := hio150
       refine CW_block (K_region (C_val (V_fieldAddr (off := 1) fd38_1.h (.tmp rfl rfl)) ?_))
       iterate 2 refine au ?_
       refine Ai hx130 (fun k152 j153 => ?_)
       refine au ?_
       refine C_ldV (R' := (RdS 3 rdInt)) ag22.h (.tmp rfl rfl) .h lv102_1 (fun w154 => ?_)
       refine au ?_
       obtain ⟨x155, hx156, hF⟩ := bind_some hF
       obtain ⟨hp157, hx158⟩ := ix_some hx156
       refine Ai hx158 (fun k159 j160 => ?_)
       refine Al ls3_0 ?_
       obtain ⟨r161, hx162, hF⟩ := bind_some hF
       refine Cx0 (s_IsVar_ok _ _ hx162) (fun _ => ?_)
       refine au ?_
       refine Cc (fun hb176 => ?_) (fun hb176 => ?_)
       · rw [if_pos hb176] at hF
         iterate 5 refine au ?_
         refine Ai hx130 (fun k164 j165 => ?_)
         refine au ?_
         refine C_ldV (R' := (RdS 3 rdInt)) ag22.h (.tmp rfl rfl) .h lv102_1 (fun w166 => ?_)
         refine au ?_
         obtain ⟨x167, hx168, hF⟩ := bind_some hF
         obtain ⟨hp169, hx170⟩ := ix_some hx168
         refine Ai hx170 (fun k171 j172 => ?_)
         refine Al ls3_0 ?_
         obtain ⟨r173, hx174, hF⟩ := bind_some hF
         refine Cx1 (s_l3Put_ok _ _ _ _ hx174) (fun p175 => ?_)
         iterate 2 refine au ?_
         cases hF
         exact ⟨_, p175, _, rfl, eqA, entA⟩
       rw [if_neg (nt hb176)] at hF
       refine au ?_
       cases hF
       exact ⟨_, v137, _, rfl, eqA, entA⟩
     rintro _ _ ⟨c177, v178, g179, rfl, rfl, hE⟩
     replace hF := hO151
     clear hO151
     try dsimp only at hF
     refine K_ent hE ?_
     iterate 5 refine au ?_
     exact ⟨m139, Nat.lt_succ_self _, _, _, _, v178, eqA, entA, hF⟩
   rw [if_neg (nt hb180)] at hF
   iterate 4 refine au ?_
   cases hF
   exact ⟨_, v137, _, rfl, eqA, entA⟩
 rintro _ _ ⟨c181, v182, g184, rfl, rfl, hE⟩
 replace hF := hO135
 clear hO135
 try dsimp only at hF
 refine K_ent hE ?_
 iterate 5 refine au ?_
 rw [wk k125]
 exact ⟨_, Nat.lt_succ_self _, _, k125 + 1, rest126, _, v182, rfl, eqA, hd131, entA, hF⟩
def s_IsSchema_L1 (a_s : List Int) : List Int → Nat → Option (Bool)
 | [], k4 => (s_l1In (a_s.length : Int) 1 3).bind fun r13 =>
   some r13
 | x6 :: rest5, k4 => (s_l1In x6 1 3).bind fun r18 =>
   if (!r18) then (
     some false)
   else (
     s_IsSchema_L1 a_s rest5 (k4 + 1))
def s_IsSchema (a_s : List Int) : Option (Bool) :=
 s_IsSchema_L1 a_s a_s 0
theorem s_IsSchema_ok (a_s : List Int) (v0_0 : Sv) (R : Bool) (hF : s_IsSchema a_s = some R) :
   Fw.Spec Tryz.prog 68 [v0_0.v] [crd (RdS 3 rdInt) v0_0.v a_s] (fun _ : Unit => (.bool R)) (fun _ => []) := by
 refine Spec_enter (n := 19) Tryz.func68 rfl rfl (rs := [.tmp 2]) rfl rfl rfl ?_
 intro H0 F0
 unfold s_IsSchema at hF
 iterate 7 refine au ?_
 refine CW_block (CW_loop (m := a_s.length) (fun m2 f' cs' => ∃ (g : Fr) (k4 : Nat) (rest5 : List Int), m2 = rest5.length ∧ f' = updL g [(0, v0_0.v), (3, (.int .i64 (k4 : Int)))] ∧ List.drop k4 a_s = rest5 ∧ Ent cs' [crd (RdS 3 rdInt) v0_0.v a_s] ∧ s_IsSchema_L1 a_s rest5 k4 = some R) ⟨_, 0, _, rfl, eqA, rfl, entA, hF⟩ ?_)
 clear hF
 rintro m2 _ _ ⟨g3, k4, rest5, rfl, rfl, hd7, hE, hF⟩
 refine K_ent hE ?_
 clear hE
 refine K_pure (c := crd (RdS 3 rdInt) v0_0.v a_s) .h crd_bound (fun hbd12 => ?_)
 rcases rest5 with _ | ⟨x6, rest5⟩
 · have hk8 := List.drop_eq_nil_iff.1 hd7
   rw [s_IsSchema_L1] at hF
   iterate 7 refine au ?_
   refine CdF ?_
   iterate 7 refine au ?_
   obtain ⟨r13, hx14, hF⟩ := bind_some hF
   refine Cx0 (s_l1In_ok _ _ _ _ hx14) (fun _ => ?_)
   iterate 3 refine au ?_
   cases hF
   exact Er ()
 obtain ⟨hk8, hx9, hd10⟩ := drop_cons hd7
 rw [s_IsSchema_L1] at hF
 iterate 7 refine au ?_
 refine CdT ?_
 iterate 5 refine au ?_
 refine Ai hx9 (fun k16 j17 => ?_)
 refine Al ls3_0 ?_
 obtain ⟨r18, hx19, hF⟩ := bind_some hF
 refine Cx0 (s_l1In_ok _ _ _ _ hx19) (fun _ => ?_)
 iterate 2 refine au ?_
 refine Cc (fun hb22 => ?_) (fun hb22 => ?_)
 · rw [if_pos hb22] at hF
   iterate 4 refine au ?_
   cases hF
   exact Er ()
 rw [if_neg (nt hb22)] at hF
 iterate 6 refine au ?_
 rw [wk k4]
 exact ⟨_, Nat.lt_succ_self _, _, k4 + 1, rest5, rfl, eqA, hd10, entA, hF⟩
def s_IsTerm (a_t : Int) : Option (Bool) :=
 ((s_l1In a_t 0 9).bind fun r3 =>
   bif r3 then (some true)
   else ((s_IsVar a_t).bind fun r7 =>
     some r7)).bind fun o1 =>
 match o1 with
 | c10 => some c10
theorem s_IsTerm_ok (a_t : Int) (R : Bool) (hF : s_IsTerm a_t = some R) :
   Fw.Spec Tryz.prog 141 [(.int .i64 a_t)] [] (fun _ : Unit => (.bool R)) (fun _ => []) := by
 refine Spec_enter (n := 9) Tryz.func141 rfl rfl (rs := [.tmp 2]) rfl rfl rfl ?_
 intro H0 F0
 unfold s_IsTerm at hF
 iterate 3 refine au ?_
 obtain ⟨o1, hio1, hO2⟩ := bind_some hF
 refine au ?_
 refine C_cut (fun f' cs' => ∃ (c10 : Bool) (g : Fr), c10 = o1 ∧ f' = updL g [(2, (.bool c10))] ∧ Ent cs' []) ?_ ?_
 · replace hF := hio1
   refine au ?_
   obtain ⟨r3, hx4, hF⟩ := bind_some hF
   refine Cx0 (s_l1In_ok _ _ _ _ hx4) (fun _ => ?_)
   refine au ?_
   rcases Bool.eq_false_or_eq_true r3 with hg6 | hg6
   · rw [hg6]
     try rw [hg6] at hF; dsimp only [cond_true, cond_false] at hF
     iterate 5 refine au ?_
     cases hF
     exact ⟨_, _, rfl, eqA, entA⟩
   rw [hg6]
   try rw [hg6] at hF; dsimp only [cond_true, cond_false] at hF
   iterate 3 refine au ?_
   obtain ⟨r7, hx8, hF⟩ := bind_some hF
   refine Cx0 (s_IsVar_ok _ _ hx8) (fun _ => ?_)
   iterate 3 refine au ?_
   cases hF
   exact ⟨_, _, rfl, eqA, entA⟩
 rintro _ _ ⟨c10, g11, rfl, rfl, hE⟩
 replace hF := hO2
 clear hO2
 try dsimp only at hF
 refine K_ent hE ?_
 refine au ?_
 cases hF
 exact Er ()
def s_IsAtom_L1 : List Int → Nat → Option (Bool)
 | [], k22 => some true
 | x24 :: rest23, k22 => (s_IsTerm x24).bind fun r33 =>
   if (!r33) then (
     some false)
   else (
     s_IsAtom_L1 rest23 (k22 + 1))
def s_IsAtom (a_s : List Int) (a_a : Atom) : Option (Bool) :=
 ((s_IsSchema a_s).bind fun r4 =>
   bif (!r4) then (some true)
   else ((s_l1In a_a.Rel 0 (IntKind.i64.wrap ((a_s.length : Int) - 1))).bind fun r8 =>
     bif (!r8) then (some true)
     else ((ix a_s a_a.Rel).bind fun x12 =>
       some (((a_a.Terms.length : Int) : Int) != x12)))).bind fun o2 =>
 match o2 with
 | c18 => if c18 then (
     some false)
   else (
     s_IsAtom_L1 a_a.Terms 0)
theorem s_IsAtom_ok (a_s : List Int) (v0_0 : Sv) (a_a : Atom) (v1_1 : Sv) (R : Bool) (hF : s_IsAtom a_s a_a = some R) :
   Fw.Spec Tryz.prog 101 [v0_0.v, (.agg [(.int .i64 a_a.Rel), v1_1.v].toArray)] [crd (RdS 3 rdInt) v0_0.v a_s, crd (RdS 3 rdInt) v1_1.v a_a.Terms] (fun _ : Unit => (.bool R)) (fun _ => []) := by
 refine Spec_enter (n := 43) Tryz.func101 rfl rfl (rs := [.tmp 4]) rfl rfl rfl ?_
 intro H0 F0
 unfold s_IsAtom at hF
 refine au ?_
 refine AbR (fun k1 => ?_)
 iterate 3 refine au ?_
 obtain ⟨o2, hio2, hO3⟩ := bind_some hF
 refine K_draw [0, 1, 2, 3, 4, 5, 6, 7, 8, 9, 10, 11, 12, 13, 14, 15, 16, 17, 18, 19, 20, 21, 22] [0, 1, 3, 7, 15, 31, 15, 79, 207, 511, 1023, 2047, 4095, 8191, 16383, 32767, 8191, 8191, 139263, 466943, 991231, 2097151, 4194303] [1, 9] mixed (by decide +kernel) ?_
 refine D_cut (fun f' cs' => ∃ (c18 : Bool) (g : Fr), c18 = o2 ∧ f' = updL g [(3, (.pointer (some ⟨k1, 0, some 0⟩))), (28, (.bool c18))] ∧ Ent cs' [cboR k1 102 (.agg [(.int .i64 a_a.Rel), v1_1.v].toArray), crd (RdS 3 rdInt) v1_1.v a_a.Terms]) ?_ ?_
 · replace hF := hio2
   refine du ?_
   obtain ⟨r4, hx5, hF⟩ := bind_some hF
   refine Dx0 (s_IsSchema_ok _ _ _ hx5) (fun _ => ?_)
   iterate 2 refine du ?_
   rcases Bool.eq_false_or_eq_true (!r4) with hg7 | hg7
   · rw [hg7]
     try rw [hg7] at hF; dsimp only [cond_true, cond_false] at hF
     iterate 20 refine du ?_
     cases hF
     exact ⟨_, _, rfl, eqA, entA⟩
   rw [hg7]
   try rw [hg7] at hF; dsimp only [cond_true, cond_false] at hF
   iterate 5 refine du ?_
   obtain ⟨r8, hx9, hF⟩ := bind_some hF
   refine Dx0 (s_l1In_ok _ _ _ _ hx9) (fun _ => ?_)
   iterate 3 refine du ?_
   rcases Bool.eq_false_or_eq_true (!r8) with hg11 | hg11
   · rw [hg11]
     try rw [hg11] at hF; dsimp only [cond_true, cond_false] at hF
     iterate 11 refine du ?_
     cases hF
     exact ⟨_, _, rfl, eqA, entA⟩
   rw [hg11]
   try rw [hg11] at hF; dsimp only [cond_true, cond_false] at hF
   iterate 6 refine du ?_
   obtain ⟨x12, hx13, hF⟩ := bind_some hF
   obtain ⟨hp14, hx15⟩ := ix_some hx13
   refine Di hx15 (fun k16 j17 => ?_)
   refine Dl ls3_0 ?_
   iterate 3 refine du ?_
   cases hF
   exact ⟨_, _, rfl, eqA, entA⟩
 rintro _ _ ⟨c18, g39, rfl, rfl, hE⟩
 replace hF := hO3
 clear hO3
 try dsimp only at hF
 refine K_ent hE ?_
 refine Cc (fun hb38 => ?_) (fun hb38 => ?_)
 · rw [if_pos hb38] at hF
   iterate 4 refine au ?_
   cases hF
   exact Er ()
 rw [if_neg (nt hb38)] at hF
 iterate 5 refine au ?_
 refine CW_block (CW_loop (m := a_a.Terms.length) (fun m20 f' cs' => ∃ (g : Fr) (k22 : Nat) (rest23 : List Int), m20 = rest23.length ∧ f' = updL g [(3, (.pointer (some ⟨k1, 0, some 0⟩))), (5, (.int .i64 (k22 : Int)))] ∧ List.drop k22 a_a.Terms = rest23 ∧ Ent cs' [cboR k1 102 (.agg [(.int .i64 a_a.Rel), v1_1.v].toArray), crd (RdS 3 rdInt) v1_1.v a_a.Terms] ∧ s_IsAtom_L1 rest23 k22 = some R) ⟨_, 0, _, rfl, eqA, rfl, entA, hF⟩ ?_)
 clear hF
 rintro m20 _ _ ⟨g21, k22, rest23, rfl, rfl, hd25, hE, hF⟩
 refine K_ent hE ?_
 clear hE
 refine K_pure (c := crd (RdS 3 rdInt) v1_1.v a_a.Terms) (.t .h) crd_bound (fun hbd30 => ?_)
 rcases rest23 with _ | ⟨x24, rest23⟩
 · have hk26 := List.drop_eq_nil_iff.1 hd25
   rw [s_IsAtom_L1] at hF
   iterate 8 refine au ?_
   refine CdF ?_
   iterate 8 refine au ?_
   cases hF
   exact Er ()
 obtain ⟨hk26, hx27, hd28⟩ := drop_cons hd25
 rw [s_IsAtom_L1] at hF
 iterate 8 refine au ?_
 refine CdT ?_
 iterate 6 refine au ?_
 refine Ai hx27 (fun k31 j32 => ?_)
 refine Al ls3_0 ?_
 obtain ⟨r33, hx34, hF⟩ := bind_some hF
 refine Cx0 (s_IsTerm_ok _ _ hx34) (fun _ => ?_)
 iterate 2 refine au ?_
 refine Cc (fun hb37 => ?_) (fun hb37 => ?_)
 · rw [if_pos hb37] at hF
   iterate 4 refine au ?_
   cases hF
   exact Er ()
 rw [if_neg (nt hb37)] at hF
 iterate 6 refine au ?_
 rw [wk k22]
 exact ⟨_, Nat.lt_succ_self _, _, k22 + 1, rest23, rfl, eqA, hd28, entA, hF⟩
def s_IsQuery_L2 (a_s : List Int) (a_q : Query) (r14 : (List Int)) : List Int → Nat → Option (Bool)
 | [], k20 => ((s_IsSchema a_s).bind fun r31 =>
     bif r31 then ((s_l1In (a_q.Atoms.length : Int) 1 4).bind fun r35 =>
       bif r35 then (some (decide (((a_q.Head.length : Int) : Int) ≤ 3)))
       else (some false))
     else (some false)).bind fun o29 =>
   match o29 with
   | c39 => some c39
 | x22 :: rest21, k20 => (s_l2Has r14 x22).bind fun r43 =>
   if (!r43) then (
     some false)
   else (
     s_IsQuery_L2 a_s a_q r14 rest21 (k20 + 1))
def s_IsQuery_L1 (a_s : List Int) (a_q : Query) : List Atom → Nat → Option (Bool)
 | [], k5 => (s_VarsOf a_q).bind fun r14 =>
   s_IsQuery_L2 a_s a_q r14 a_q.Head 0
 | x7 :: rest6, k5 => (s_IsAtom a_s x7).bind fun r51 =>
   if (!r51) then (
     some false)
   else (
     s_IsQuery_L1 a_s a_q rest6 (k5 + 1))
def s_IsQuery (a_s : List Int) (a_q : Query) : Option (Bool) :=
 s_IsQuery_L1 a_s a_q a_q.Atoms 0
theorem s_IsQuery_ok (a_s : List Int) (v0_0 : Sv) (a_q : Query) (v1_0 : Sv) (v1_1 : Sv) (R : Bool) (hF : s_IsQuery a_s a_q = some R) :
   Fw.Spec Tryz.prog 65 [v0_0.v, (.agg [v1_0.v, v1_1.v].toArray)] [crd (RdS 3 rdInt) v0_0.v a_s, crd (RdS 3 rdInt) v1_0.v a_q.Head, crd (RdS 102 rd102) v1_1.v a_q.Atoms] (fun _ : Unit => (.bool R)) (fun _ => []) := by
 refine Spec_enter (n := 54) Tryz.func65 rfl rfl (rs := [.tmp 4]) rfl rfl rfl ?_
 intro H0 F0
 unfold s_IsQuery at hF
 refine au ?_
 refine AbR (fun k1 => ?_)
 iterate 6 refine au ?_
 refine CW_block (CW_loop (m := a_q.Atoms.length) (fun m3 f' cs' => ∃ (g : Fr) (k5 : Nat) (rest6 : List Atom), m3 = rest6.length ∧ f' = updL g [(0, v0_0.v), (3, (.pointer (some ⟨k1, 0, some 0⟩))), (5, (.int .i64 (k5 : Int)))] ∧ List.drop k5 a_q.Atoms = rest6 ∧ Ent cs' [crd (RdS 3 rdInt) v0_0.v a_s, cboR k1 38 (.agg [v1_0.v, v1_1.v].toArray), crd (RdS 3 rdInt) v1_0.v a_q.Head, crd (RdS 102 rd102) v1_1.v a_q.Atoms] ∧ s_IsQuery_L1 a_s a_q rest6 k5 = some R) ⟨_, 0, _, rfl, eqA, rfl, entA, hF⟩ ?_)
 clear hF
 rintro m3 _ _ ⟨g4, k5, rest6, rfl, rfl, hd8, hE, hF⟩
 refine K_ent hE ?_
 clear hE
 refine K_pure (c := crd (RdS 102 rd102) v1_1.v a_q.Atoms) (.t (.t (.t .h))) crd_bound (fun hbd13 => ?_)
 rcases rest6 with _ | ⟨x7, rest6⟩
 · have hk9 := List.drop_eq_nil_iff.1 hd8
   rw [s_IsQuery_L1] at hF
   iterate 8 refine au ?_
   refine CdF ?_
   iterate 6 refine au ?_
   obtain ⟨r14, hx15, hF⟩ := bind_some hF
   refine Cx1 (s_VarsOf_ok _ _ _ _ hx15) (fun p16 => ?_)
   iterate 6 refine au ?_
   refine CW_block (CW_loop (m := a_q.Head.length) (fun m18 f' cs' => ∃ (g : Fr) (k20 : Nat) (rest21 : List Int), m18 = rest21.length ∧ f' = updL g [(0, v0_0.v), (3, (.pointer (some ⟨k1, 0, some 0⟩))), (6, p16.v), (7, (.int .i64 (k20 : Int)))] ∧ List.drop k20 a_q.Head = rest21 ∧ Ent cs' [crd (RdS 3 rdInt) v0_0.v a_s, cboR k1 38 (.agg [v1_0.v, v1_1.v].toArray), crd (RdS 3 rdInt) v1_0.v a_q.Head, crd (RdS 102 rd102) v1_1.v a_q.Atoms, crd (RdS 3 rdInt) p16.v r14] ∧ s_IsQuery_L2 a_s a_q r14 rest21 k20 = some R) ⟨_, 0, _, rfl, eqA, rfl, entA, hF⟩ ?_)
   clear hF
   rintro m18 _ _ ⟨g19, k20, rest21, rfl, rfl, hd23, hE, hF⟩
   refine K_ent hE ?_
   clear hE
   refine K_pure (c := crd (RdS 3 rdInt) v1_0.v a_q.Head) (.t (.t .h)) crd_bound (fun hbd28 => ?_)
   rcases rest21 with _ | ⟨x22, rest21⟩
   · have hk24 := List.drop_eq_nil_iff.1 hd23
     rw [s_IsQuery_L2] at hF
     iterate 8 refine au ?_
     refine CdF ?_
     iterate 4 refine au ?_
     obtain ⟨o29, hio29, hO30⟩ := bind_some hF
     refine au ?_
     refine C_cut (fun f' cs' => ∃ (c39 : Bool) (g : Fr), c39 = o29 ∧ f' = updL g [(4, (.bool c39))] ∧ Ent cs' []) ?_ ?_
     · replace hF := hio29
       refine au ?_
       obtain ⟨r31, hx32, hF⟩ := bind_some hF
       refine Cx0 (s_IsSchema_ok _ _ _ hx32) (fun _ => ?_)
       refine au ?_
       rcases Bool.eq_false_or_eq_true r31 with hg34 | hg34
       · rw [hg34]
         try rw [hg34] at hF; dsimp only [cond_true, cond_false] at hF
         iterate 7 refine au ?_
         obtain ⟨r35, hx36, hF⟩ := bind_some hF
         refine Cx0 (s_l1In_ok _ _ _ _ hx36) (fun _ => ?_)
         iterate 2 refine au ?_
         rcases Bool.eq_false_or_eq_true r35 with hg38 | hg38
         · rw [hg38]
           try rw [hg38] at hF; dsimp only [cond_true, cond_false] at hF
           iterate 11 refine au ?_
           cases hF
           exact ⟨_, _, rfl, eqA, entA⟩
         rw [hg38]
         try rw [hg38] at hF; dsimp only [cond_true, cond_false] at hF
         iterate 7 refine au ?_
         cases hF
         exact ⟨_, _, rfl, eqA, entA⟩
       rw [hg34]
       try rw [hg34] at hF; dsimp only [cond_true, cond_false] at hF
       iterate 13 refine au ?_
       cases hF
       exact ⟨_, _, rfl, eqA, entA⟩
     rintro _ _ ⟨c39, g40, rfl, rfl, hE⟩
     replace hF := hO30
     clear hO30
     try dsimp only at hF
     refine K_ent hE ?_
     refine au ?_
     cases hF
     exact Er ()
   obtain ⟨hk24, hx25, hd26⟩ := drop_cons hd23
   rw [s_IsQuery_L2] at hF
   iterate 8 refine au ?_
   refine CdT ?_
   iterate 7 refine au ?_
   refine Ai hx25 (fun k41 j42 => ?_)
   refine Al ls3_0 ?_
   obtain ⟨r43, hx44, hF⟩ := bind_some hF
   refine Cx0 (s_l2Has_ok _ _ _ _ hx44) (fun _ => ?_)
   iterate 2 refine au ?_
   refine Cc (fun hb47 => ?_) (fun hb47 => ?_)
   · rw [if_pos hb47] at hF
     iterate 4 refine au ?_
     cases hF
     exact Er ()
   rw [if_neg (nt hb47)] at hF
   iterate 6 refine au ?_
   rw [wk k20]
   exact ⟨_, Nat.lt_succ_self _, _, k20 + 1, rest21, rfl, eqA, hd26, entA, hF⟩
 obtain ⟨hk9, hx10, hd11⟩ := drop_cons hd8
 rw [s_IsQuery_L1] at hF
 iterate 8 refine au ?_
 refine CdT ?_
 iterate 7 refine au ?_
 refine Ai hx10 (fun k48 j49 => ?_)
 refine AlA1 (ul102_0_102 x7) la102_0_102 (fun p50 => ?_)
 obtain ⟨r51, hx52, hF⟩ := bind_some hF
 refine Cx0 (s_IsAtom_ok _ _ _ _ _ hx52) (fun _ => ?_)
 iterate 2 refine au ?_
 refine Cc (fun hb55 => ?_) (fun hb55 => ?_)
 · rw [if_pos hb55] at hF
   iterate 4 refine au ?_
   cases hF
   exact Er ()
 rw [if_neg (nt hb55)] at hF
 iterate 6 refine au ?_
 rw [wk k5]
 exact ⟨_, Nat.lt_succ_self _, _, k5 + 1, rest6, rfl, eqA, hd11, entA, hF⟩
def s_IsFact_L1 : List Int → Nat → Option (Bool)
 | [], k22 => some true
 | x24 :: rest23, k22 => (s_l1In x24 0 9).bind fun r33 =>
   if (!r33) then (
     some false)
   else (
     s_IsFact_L1 rest23 (k22 + 1))
def s_IsFact (a_s : List Int) (a_f : Fact) : Option (Bool) :=
 ((s_IsSchema a_s).bind fun r4 =>
   bif (!r4) then (some true)
   else ((s_l1In a_f.Rel 0 (IntKind.i64.wrap ((a_s.length : Int) - 1))).bind fun r8 =>
     bif (!r8) then (some true)
     else ((ix a_s a_f.Rel).bind fun x12 =>
       some (((a_f.Values.length : Int) : Int) != x12)))).bind fun o2 =>
 match o2 with
 | c18 => if c18 then (
     some false)
   else (
     s_IsFact_L1 a_f.Values 0)
theorem s_IsFact_ok (a_s : List Int) (v0_0 : Sv) (a_f : Fact) (v1_1 : Sv) (R : Bool) (hF : s_IsFact a_s a_f = some R) :
   Fw.Spec Tryz.prog 66 [v0_0.v, (.agg [(.int .i64 a_f.Rel), v1_1.v].toArray)] [crd (RdS 3 rdInt) v0_0.v a_s, crd (RdS 3 rdInt) v1_1.v a_f.Values] (fun _ : Unit => (.bool R)) (fun _ => []) := by
 refine Spec_enter (n := 43) Tryz.func66 rfl rfl (rs := [.tmp 4]) rfl rfl rfl ?_
 intro H0 F0
 unfold s_IsFact at hF
 refine au ?_
 refine AbR (fun k1 => ?_)
 iterate 3 refine au ?_
 obtain ⟨o2, hio2, hO3⟩ := bind_some hF
 refine K_draw [0, 1, 2, 3, 4, 5, 6, 7, 8, 9, 10, 11, 12, 13, 14, 15, 16, 17, 18, 19, 20, 21, 22] [0, 1, 3, 7, 15, 31, 15, 79, 207, 511, 1023, 2047, 4095, 8191, 16383, 32767, 8191, 8191, 139263, 466943, 991231, 2097151, 4194303] [1, 9] mixed (by decide +kernel) ?_
 refine D_cut (fun f' cs' => ∃ (c18 : Bool) (g : Fr), c18 = o2 ∧ f' = updL g [(3, (.pointer (some ⟨k1, 0, some 0⟩))), (28, (.bool c18))] ∧ Ent cs' [cboR k1 80 (.agg [(.int .i64 a_f.Rel), v1_1.v].toArray), crd (RdS 3 rdInt) v1_1.v a_f.Values]) ?_ ?_
 · replace hF := hio2
   refine du ?_
   obtain ⟨r4, hx5, hF⟩ := bind_some hF
   refine Dx0 (s_IsSchema_ok _ _ _ hx5) (fun _ => ?_)
   iterate 2 refine du ?_
   rcases Bool.eq_false_or_eq_true (!r4) with hg7 | hg7
   · rw [hg7]
     try rw [hg7] at hF; dsimp only [cond_true, cond_false] at hF
     iterate 20 refine du ?_
     cases hF
     exact ⟨_, _, rfl, eqA, entA⟩
   rw [hg7]
   try rw [hg7] at hF; dsimp only [cond_true, cond_false] at hF
   iterate 5 refine du ?_
   obtain ⟨r8, hx9, hF⟩ := bind_some hF
   refine Dx0 (s_l1In_ok _ _ _ _ hx9) (fun _ => ?_)
   iterate 3 refine du ?_
   rcases Bool.eq_false_or_eq_true (!r8) with hg11 | hg11
   · rw [hg11]
     try rw [hg11] at hF; dsimp only [cond_true, cond_false] at hF
     iterate 11 refine du ?_
     cases hF
     exact ⟨_, _, rfl, eqA, entA⟩
   rw [hg11]
   try rw [hg11] at hF; dsimp only [cond_true, cond_false] at hF
   iterate 6 refine du ?_
   obtain ⟨x12, hx13, hF⟩ := bind_some hF
   obtain ⟨hp14, hx15⟩ := ix_some hx13
   refine Di hx15 (fun k16 j17 => ?_)
   refine Dl ls3_0 ?_
   iterate 3 refine du ?_
   cases hF
   exact ⟨_, _, rfl, eqA, entA⟩
 rintro _ _ ⟨c18, g39, rfl, rfl, hE⟩
 replace hF := hO3
 clear hO3
 try dsimp only at hF
 refine K_ent hE ?_
 refine Cc (fun hb38 => ?_) (fun hb38 => ?_)
 · rw [if_pos hb38] at hF
   iterate 4 refine au ?_
   cases hF
   exact Er ()
 rw [if_neg (nt hb38)] at hF
 iterate 5 refine au ?_
 refine CW_block (CW_loop (m := a_f.Values.length) (fun m20 f' cs' => ∃ (g : Fr) (k22 : Nat) (rest23 : List Int), m20 = rest23.length ∧ f' = updL g [(3, (.pointer (some ⟨k1, 0, some 0⟩))), (5, (.int .i64 (k22 : Int)))] ∧ List.drop k22 a_f.Values = rest23 ∧ Ent cs' [cboR k1 80 (.agg [(.int .i64 a_f.Rel), v1_1.v].toArray), crd (RdS 3 rdInt) v1_1.v a_f.Values] ∧ s_IsFact_L1 rest23 k22 = some R) ⟨_, 0, _, rfl, eqA, rfl, entA, hF⟩ ?_)
 clear hF
 rintro m20 _ _ ⟨g21, k22, rest23, rfl, rfl, hd25, hE, hF⟩
 refine K_ent hE ?_
 clear hE
 refine K_pure (c := crd (RdS 3 rdInt) v1_1.v a_f.Values) (.t .h) crd_bound (fun hbd30 => ?_)
 rcases rest23 with _ | ⟨x24, rest23⟩
 · have hk26 := List.drop_eq_nil_iff.1 hd25
   rw [s_IsFact_L1] at hF
   iterate 8 refine au ?_
   refine CdF ?_
   iterate 8 refine au ?_
   cases hF
   exact Er ()
 obtain ⟨hk26, hx27, hd28⟩ := drop_cons hd25
 rw [s_IsFact_L1] at hF
 iterate 8 refine au ?_
 refine CdT ?_
 iterate 6 refine au ?_
 refine Ai hx27 (fun k31 j32 => ?_)
 refine Al ls3_0 ?_
 obtain ⟨r33, hx34, hF⟩ := bind_some hF
 refine Cx0 (s_l1In_ok _ _ _ _ hx34) (fun _ => ?_)
 iterate 2 refine au ?_
 refine Cc (fun hb37 => ?_) (fun hb37 => ?_)
 · rw [if_pos hb37] at hF
   iterate 4 refine au ?_
   cases hF
   exact Er ()
 rw [if_neg (nt hb37)] at hF
 iterate 6 refine au ?_
 rw [wk k22]
 exact ⟨_, Nat.lt_succ_self _, _, k22 + 1, rest23, rfl, eqA, hd28, entA, hF⟩
def s_CompareFacts_L1 (a_a : Fact) (a_b : Fact) : Nat → Int → Option (Int)
 | 0, _ => none
 | m5 + 1, c4 => if ((decide ((c4 : Int) < (a_a.Values.length : Int))) && (decide ((c4 : Int) < (a_b.Values.length : Int)))) then (
     (ix a_a.Values c4).bind fun x15 =>
     (ix a_b.Values c4).bind fun x21 =>
     if (decide ((x15 : Int) < x21)) then (
       some (-1))
     else (
       (ix a_a.Values c4).bind fun x27 =>
       (ix a_b.Values c4).bind fun x33 =>
       if (decide ((x33 : Int) < x27)) then (
         some 1)
       else (
         s_CompareFacts_L1 a_a a_b m5 (IntKind.i64.wrap (c4 + 1)))))
   else (
     if (decide (((a_a.Values.length : Int) : Int) < (a_b.Values.length : Int))) then (
       some (-1))
     else (
       if (decide (((a_b.Values.length : Int) : Int) < (a_a.Values.length : Int))) then (
         some 1)
       else (
         some 0)))
def s_CompareFacts (a_a : Fact) (a_b : Fact) : Option (Int) :=
 if ((a_a.Rel : Int) != a_b.Rel) then (
   if (decide ((a_a.Rel : Int) < a_b.Rel)) then (
     some (-1))
   else (
     some 1))
 else (
   s_CompareFacts_L1 a_a a_b (((a_a.Values.length : Int) - 0).toNat + 2) 0)
theorem s_CompareFacts_ok (a_a : Fact) (v0_1 : Sv) (a_b : Fact) (v1_1 : Sv) (R : Int) (hF : s_CompareFacts a_a a_b = some R) :
   Fw.Spec Tryz.prog 67 [(.agg [(.int .i64 a_a.Rel), v0_1.v].toArray), (.agg [(.int .i64 a_b.Rel), v1_1.v].toArray)] [crd (RdS 3 rdInt) v0_1.v a_a.Values, crd (RdS 3 rdInt) v1_1.v a_b.Values] (fun _ : Unit => (.int .i64 R)) (fun _ => []) := by
 refine Spec_enter (n := 66) Tryz.func67 rfl rfl (rs := [.tmp 4]) rfl rfl rfl ?_
 intro H0 F0
 unfold s_CompareFacts at hF
 refine au ?_
 refine AbR (fun k1 => ?_)
 refine AbR (fun k2 => ?_)
 iterate 10 refine au ?_
 refine Cc (fun hb44 => ?_) (fun hb44 => ?_)
 · rw [if_pos hb44] at hF
   iterate 8 refine au ?_
   refine Cc (fun hb3 => ?_) (fun hb3 => ?_)
   · rw [if_pos hb3] at hF
     iterate 4 refine au ?_
     cases hF
     exact Er ()
   rw [if_neg (nt hb3)] at hF
   iterate 5 refine au ?_
   cases hF
   exact Er ()
 rw [if_neg (nt hb44)] at hF
 iterate 5 refine au ?_
 refine CW_block (CW_loop (m := (((a_a.Values.length : Int) - 0).toNat + 2)) (fun m5 f' cs' => ∃ (g : Fr) (c4 : Int), f' = updL g [(2, (.pointer (some ⟨k1, 0, some 0⟩))), (3, (.pointer (some ⟨k2, 0, some 0⟩))), (5, (.int .i64 c4))] ∧ Ent cs' [cboR k1 80 (.agg [(.int .i64 a_a.Rel), v0_1.v].toArray), crd (RdS 3 rdInt) v0_1.v a_a.Values, cboR k2 80 (.agg [(.int .i64 a_b.Rel), v1_1.v].toArray), crd (RdS 3 rdInt) v1_1.v a_b.Values] ∧ s_CompareFacts_L1 a_a a_b m5 c4 = some R) ⟨_, _, eqA, entA, hF⟩ ?_)
 clear hF
 rintro m5 _ _ ⟨g6, c4, rfl, hE, hF⟩
 refine K_ent hE ?_
 clear hE
 rcases m5 with _ | m5
 · rw [s_CompareFacts_L1] at hF
   exact absurd hF (by simp)
 rw [s_CompareFacts_L1] at hF
 iterate 2 refine au ?_
 refine C_cut (fun f' cs' => ∃ (g : Fr), f' = updL g [(2, (.pointer (some ⟨k1, 0, some 0⟩))), (3, (.pointer (some ⟨k2, 0, some 0⟩))), (5, (.int .i64 c4)), (27, (.bool ((decide ((c4 : Int) < (a_a.Values.length : Int))) && (decide ((c4 : Int) < (a_b.Values.length : Int))))))] ∧ Ent cs' [cboR k1 80 (.agg [(.int .i64 a_a.Rel), v0_1.v].toArray), crd (RdS 3 rdInt) v0_1.v a_a.Values, cboR k2 80 (.agg [(.int .i64 a_b.Rel), v1_1.v].toArray), crd (RdS 3 rdInt) v1_1.v a_b.Values]) ?_ ?_
 · iterate 6 refine au ?_
   rcases Bool.eq_false_or_eq_true (decide ((c4 : Int) < (a_a.Values.length : Int))) with hg13 | hg13
   · rw [hg13]
     try rw [hg13] at hF; dsimp only [cond_true, cond_false] at hF
     iterate 12 refine au ?_
     exact ⟨_, eqA, entA⟩
   rw [hg13]
   try rw [hg13] at hF; dsimp only [cond_true, cond_false] at hF
   iterate 7 refine au ?_
   exact ⟨_, eqA, entA⟩
 rintro _ _ ⟨g14, rfl, hE⟩
 refine K_ent hE ?_
 refine Cc (fun hb43 => ?_) (fun hb43 => ?_)
 · rw [if_pos hb43] at hF
   iterate 3 refine au ?_
   refine K_draw [0, 1, 2, 3, 4, 5, 6, 7, 8, 9, 10] [0, 1, 0, 7, 15, 0, 32, 0, 224, 480, 1023] [] mixed (by decide +kernel) ?_
   iterate 3 refine du ?_
   obtain ⟨x15, hx16, hF⟩ := bind_some hF
   obtain ⟨hp17, hx18⟩ := ix_some hx16
   refine Di hx18 (fun k19 j20 => ?_)
   refine Dl ls3_0 ?_
   iterate 3 refine du ?_
   obtain ⟨x21, hx22, hF⟩ := bind_some hF
   obtain ⟨hp23, hx24⟩ := ix_some hx22
   refine Di hx24 (fun k25 j26 => ?_)
   refine Dl ls3_0 ?_
   iterate 2 refine du ?_
   refine Cc (fun hb40 => ?_) (fun hb40 => ?_)
   · rw [if_pos hb40] at hF
     iterate 4 refine au ?_
     cases hF
     exact Er ()
   rw [if_neg (nt hb40)] at hF
   refine au ?_
   refine K_draw [0, 1, 2, 3, 4, 5, 6, 7, 8, 9, 10] [0, 1, 0, 7, 15, 0, 32, 0, 224, 480, 1023] [] mixed (by decide +kernel) ?_
   iterate 3 refine du ?_
   obtain ⟨x27, hx28, hF⟩ := bind_some hF
   obtain ⟨hp29, hx30⟩ := ix_some hx28
   refine Di hx30 (fun k31 j32 => ?_)
   refine Dl ls3_0 ?_
   iterate 3 refine du ?_
   obtain ⟨x33, hx34, hF⟩ := bind_some hF
   obtain ⟨hp35, hx36⟩ := ix_some hx34
   refine Di hx36 (fun k37 j38 => ?_)
   refine Dl ls3_0 ?_
   iterate 2 refine du ?_
   refine Cc (fun hb39 => ?_) (fun hb39 => ?_)
   · rw [if_pos hb39] at hF
     iterate 4 refine au ?_
     cases hF
     exact Er ()
   rw [if_neg (nt hb39)] at hF
   iterate 6 refine au ?_
   exact ⟨m5, Nat.lt_succ_self _, _, _, eqA, entA, hF⟩
 rw [if_neg (nt hb43)] at hF
 iterate 14 refine au ?_
 refine Cc (fun hb42 => ?_) (fun hb42 => ?_)
 · rw [if_pos hb42] at hF
   iterate 4 refine au ?_
   cases hF
   exact Er ()
 rw [if_neg (nt hb42)] at hF
 iterate 11 refine au ?_
 refine Cc (fun hb41 => ?_) (fun hb41 => ?_)
 · rw [if_pos hb41] at hF
   iterate 4 refine au ?_
   cases hF
   exact Er ()
 rw [if_neg (nt hb41)] at hF
 iterate 5 refine au ?_
 cases hF
 exact Er ()
def s_AreFacts_L1 (a_s : List Int) (a_l : List Fact) : List Fact → Nat → Option (Bool)
 | [], k4 => ((s_IsSchema a_s).bind fun r15 =>
     bif r15 then (some (decide (((a_l.length : Int) : Int) ≤ 24)))
     else (some false)).bind fun o13 =>
   match o13 with
   | c19 => some c19
 | x6 :: rest5, k4 => ((s_IsFact a_s x6).bind fun r26 =>
     bif (!r26) then (some true)
     else (bif (decide ((0 : Int) < (k4 : Int))) then ((ix a_l (IntKind.i64.wrap ((k4 : Int) - 1))).bind fun x31 =>
         (s_CompareFacts x31 x6).bind fun r41 =>
         some (decide ((0 : Int) ≤ r41)))
       else (some false))).bind fun o21 =>
   match o21 with
   | c44 => if c44 then (
       some false)
     else (
       s_AreFacts_L1 a_s a_l rest5 (k4 + 1))
def s_AreFacts (a_s : List Int) (a_l : List Fact) : Option (Bool) :=
 s_AreFacts_L1 a_s a_l a_l 0
theorem s_AreFacts_ok (a_s : List Int) (v0_0 : Sv) (a_l : List Fact) (v1_0 : Sv) (R : Bool) (hF : s_AreFacts a_s a_l = some R) :
   Fw.Spec Tryz.prog 38 [v0_0.v, v1_0.v] [crd (RdS 3 rdInt) v0_0.v a_s, crd (RdS 80 rd80) v1_0.v a_l] (fun _ : Unit => (.bool R)) (fun _ => []) := by
 refine Spec_enter (n := 43) Tryz.func38 rfl rfl (rs := [.tmp 4]) rfl rfl rfl ?_
 intro H0 F0
 unfold s_AreFacts at hF
 iterate 7 refine au ?_
 refine CW_block (CW_loop (m := a_l.length) (fun m2 f' cs' => ∃ (g : Fr) (k4 : Nat) (rest5 : List Fact), m2 = rest5.length ∧ f' = updL g [(0, v0_0.v), (1, v1_0.v), (5, (.int .i64 (k4 : Int)))] ∧ List.drop k4 a_l = rest5 ∧ Ent cs' [crd (RdS 3 rdInt) v0_0.v a_s, crd (RdS 80 rd80) v1_0.v a_l] ∧ s_AreFacts_L1 a_s a_l rest5 k4 = some R) ⟨_, 0, _, rfl, eqA, rfl, entA, hF⟩ ?_)
 clear hF
 rintro m2 _ _ ⟨g3, k4, rest5, rfl, rfl, hd7, hE, hF⟩
 refine K_ent hE ?_
 clear hE
 refine K_pure (c := crd (RdS 80 rd80) v1_0.v a_l) (.t .h) crd_bound (fun hbd12 => ?_)
 rcases rest5 with _ | ⟨x6, rest5⟩
 · have hk8 := List.drop_eq_nil_iff.1 hd7
   rw [s_AreFacts_L1] at hF
   iterate 7 refine au ?_
   refine CdF ?_
   iterate 4 refine au ?_
   obtain ⟨o13, hio13, hO14⟩ := bind_some hF
   refine au ?_
   refine C_cut (fun f' cs' => ∃ (c19 : Bool) (g : Fr), c19 = o13 ∧ f' = updL g [(4, (.bool c19))] ∧ Ent cs' []) ?_ ?_
   · replace hF := hio13
     refine au ?_
     obtain ⟨r15, hx16, hF⟩ := bind_some hF
     refine Cx0 (s_IsSchema_ok _ _ _ hx16) (fun _ => ?_)
     refine au ?_
     rcases Bool.eq_false_or_eq_true r15 with hg18 | hg18
     · rw [hg18]
       try rw [hg18] at hF; dsimp only [cond_true, cond_false] at hF
       iterate 9 refine au ?_
       cases hF
       exact ⟨_, _, rfl, eqA, entA⟩
     rw [hg18]
     try rw [hg18] at hF; dsimp only [cond_true, cond_false] at hF
     iterate 6 refine au ?_
     cases hF
     exact ⟨_, _, rfl, eqA, entA⟩
   rintro _ _ ⟨c19, g20, rfl, rfl, hE⟩
   replace hF := hO14
   clear hO14
   try dsimp only at hF
   refine K_ent hE ?_
   refine au ?_
   cases hF
   exact Er ()
 obtain ⟨hk8, hx9, hd10⟩ := drop_cons hd7
 rw [s_AreFacts_L1] at hF
 iterate 7 refine au ?_
 refine CdT ?_
 iterate 2 refine au ?_
 obtain ⟨o21, hio21, hO22⟩ := bind_some hF
 refine K_draw [0, 1, 2, 3, 4, 5, 6, 7, 8, 9, 10, 11, 12, 13, 14, 15, 16, 17, 18, 19, 20, 21, 22, 23] [0, 0, 0, 6, 14, 31, 63, 127, 255, 511, 1023, 2047, 2047, 6143, 16383, 32767, 2047, 2047, 198655, 460799, 1048575, 2097151, 4194303, 8388607] [5, 20] mixed (by decide +kernel) ?_
 refine D_cut (fun f' cs' => ∃ (c44 : Bool) (g : Fr), c44 = o21 ∧ f' = updL g [(0, v0_0.v), (1, v1_0.v), (5, (.int .i64 (k4 : Int))), (35, (.bool c44))] ∧ Ent cs' [crd (RdS 3 rdInt) v0_0.v a_s, crd (RdS 80 rd80) v1_0.v a_l]) ?_ ?_
 · replace hF := hio21
   iterate 3 refine du ?_
   refine Di hx9 (fun k23 j24 => ?_)
   refine DlA1 (ul80_0_80 x6) la80_0_80 (fun p25 => ?_)
   obtain ⟨r26, hx27, hF⟩ := bind_some hF
   refine Dx0 (s_IsFact_ok _ _ _ _ _ hx27) (fun _ => ?_)
   iterate 2 refine du ?_
   rcases Bool.eq_false_or_eq_true (!r26) with hg29 | hg29
   · rw [hg29]
     try rw [hg29] at hF; dsimp only [cond_true, cond_false] at hF
     iterate 17 refine du ?_
     cases hF
     exact ⟨_, _, rfl, eqA, entA⟩
   rw [hg29]
   try rw [hg29] at hF; dsimp only [cond_true, cond_false] at hF
   iterate 3 refine du ?_
   rcases Bool.eq_false_or_eq_true (decide ((0 : Int) < (k4 : Int))) with hg30 | hg30
   · rw [hg30]
     try rw [hg30] at hF; dsimp only [cond_true, cond_false] at hF
     iterate 3 refine du ?_
     obtain ⟨x31, hx32, hF⟩ := bind_some hF
     obtain ⟨hp33, hx34⟩ := ix_some hx32
     refine Di hx34 (fun k35 j36 => ?_)
     refine DlA1 (ul80_0_80 x31) la80_0_80 (fun p37 => ?_)
     iterate 2 refine du ?_
     refine Di hx9 (fun k38 j39 => ?_)
     refine DlA1 (ul80_0_80 x6) la80_0_80 (fun p40 => ?_)
     obtain ⟨r41, hx42, hF⟩ := bind_some hF
     refine Dx0 (s_CompareFacts_ok _ _ _ _ _ hx42) (fun _ => ?_)
     iterate 4 refine du ?_
     cases hF
     exact ⟨_, _, rfl, eqA, entA⟩
   rw [hg30]
   try rw [hg30] at hF; dsimp only [cond_true, cond_false] at hF
   iterate 14 refine du ?_
   cases hF
   exact ⟨_, _, rfl, eqA, entA⟩
 rintro _ _ ⟨c44, g47, rfl, rfl, hE⟩
 replace hF := hO22
 clear hO22
 try dsimp only at hF
 refine K_ent hE ?_
 refine Cc (fun hb46 => ?_) (fun hb46 => ?_)
 · rw [if_pos hb46] at hF
   iterate 4 refine au ?_
   cases hF
   exact Er ()
 rw [if_neg (nt hb46)] at hF
 iterate 6 refine au ?_
 rw [wk k4]
 exact ⟨_, Nat.lt_succ_self _, _, k4 + 1, rest5, rfl, eqA, hd10, entA, hF⟩
def s_l4Copy (a_b : Binding) : Option (Binding) :=
 (app ([] : List Int) a_b.Vars).bind fun z5 =>
 (app ([] : List Int) a_b.Values).bind fun z8 =>
 some ({ Vars := z5, Values := z8 } : Binding)
theorem s_l4Copy_ok (a_b : Binding) (v0_0 : Sv) (v0_1 : Sv) (R : Binding) (hF : s_l4Copy a_b = some R) :
   Fw.Spec Tryz.prog 184 [(.agg [v0_0.v, v0_1.v].toArray)] [crd (RdS 3 rdInt) v0_0.v a_b.Vars, crd (RdS 3 rdInt) v0_1.v a_b.Values] (fun p : Sv × List Nat × Sv × List Nat => (.agg [p.1.v, p.2.2.1.v].toArray)) (fun p => [cown (OwnS 3 (roE rdInt)) p.2.1 p.1.v R.Vars, cown (OwnS 3 (roE rdInt)) p.2.2.2 p.2.2.1.v R.Values]) := by
 refine Spec_enter (n := 12) Tryz.func184 rfl rfl (rs := [.cell 2 126]) rfl rfl rfl ?_
 intro H0 F0
 unfold s_l4Copy at hF
 refine au ?_
 refine AbR (fun k1 => ?_)
 refine AnW (fun k2 => ?_)
 refine au ?_
 refine K_draw [0, 1, 2, 4, 5, 6, 3, 7, 8, 9] [0, 0, 2, 7, 0, 0, 32, 127, 255, 511] [3, 7, 9] mixed (by decide +kernel) ?_
 refine D_new rfl .no rfl (fun ha => N_buildSliceT (g := true) (len := 0) (parts := []) sl22.h ty3.h .nil (vs := []) rfl rfl rfl (by simp)) (fun k3 => ?_)
 refine Dv1 (.cons .h .nil) (own_lit (Ro := (roE rdInt)) (E := 3) (F := []) (xs := ([] : List Int)) MkL_nil rfl rfl) ?_
 iterate 2 refine du ?_
 refine D_new rfl .no rfl (fun ha => N_buildSliceT (g := true) (len := 0) (parts := []) sl22.h ty3.h .nil (vs := []) rfl rfl rfl (by simp)) (fun k4 => ?_)
 refine Dv1 (.cons .h .nil) (own_lit (Ro := (roE rdInt)) (E := 3) (F := []) (xs := ([] : List Int)) MkL_nil rfl rfl) ?_
 iterate 2 refine du ?_
 obtain ⟨z5, hx6, hF⟩ := bind_some hF
 refine D_act1 rfl rfl .no (.cons (.t .h) (.rd (.t (.t (.t .h))) rfl .nil)) (.own .h (by simp [cown]) (.dep rfl .nil)) (fun ha => X_appendO (Ro := (roE rdInt)) sl22.h ni22 ty3.h rfl rfl rfl (EN ha (.tmp rfl rfl) rfl) (EN ha (.tmp rfl rfl) rfl) hx6 src_rd) (fun p7 => ?_)
 obtain ⟨z8, hx9, hF⟩ := bind_some hF
 refine D_act1 rfl rfl .no (.cons (.t .h) (.rd (.t (.t (.t (.t .h)))) rfl .nil)) (.dep rfl (.dep rfl .nil)) (fun ha => X_appendO (Ro := (roE rdInt)) sl22.h ni22 ty3.h rfl rfl rfl (EN ha (.tmp rfl rfl) rfl) (EN ha (.tmp rfl rfl) rfl) hx9 src_rd) (fun p10 => ?_)
 refine D_val rfl .no (fun ha => V_build ty126.h rfl (vs := [p7.1.v, p10.1.v]) (.cons (EN ha (.tmp rfl rfl) rfl) (.cons (EN ha (.tmp rfl rfl) rfl) .nil)) (cells := [p7.1.v, p10.1.v]) rfl) ?_
 refine D_act1 rfl rfl .no (.cons (.t (.t .h)) .nil) (.dep rfl (.dep rfl .nil)) (fun ha => X_storeB (e' := (.agg [p7.1.v, p10.1.v].toArray)) (v := (.agg [p7.1.v, p10.1.v].toArray)) ty126.h.sz (EN ha (.tmp rfl rfl) rfl) (EN ha (.tmp rfl rfl) rfl) rfl rfl rfl rfl rfl) (fun _ => ?_)
 refine du ?_
 refine au ?_
 cases hF
 exact Er (p7.1, p7.2, p10.1, p10.2)
def s_ValueOf_L1 (a_b : Binding) (a_term : Int) : Nat → Int → Option (Int)
 | 0, _ => none
 | m6 + 1, c5 => if ((decide ((c5 : Int) < (a_b.Vars.length : Int))) && (decide ((c5 : Int) < (a_b.Values.length : Int)))) then (
     (ix a_b.Vars c5).bind fun x16 =>
     if ((x16 : Int) == a_term) then (
       (ix a_b.Values c5).bind fun x22 =>
       some x22)
     else (
       s_ValueOf_L1 a_b a_term m6 (IntKind.i64.wrap (c5 + 1))))
   else (
     some (-1))
def s_ValueOf (a_b : Binding) (a_term : Int) : Option (Int) :=
 (s_IsVar a_term).bind fun r2 =>
 if (!r2) then (
   some a_term)
 else (
   s_ValueOf_L1 a_b a_term (((a_b.Vars.length : Int) - 0).toNat + 2) 0)
theorem s_ValueOf_ok (a_b : Binding) (v0_0 : Sv) (v0_1 : Sv) (a_term : Int) (R : Int) (hF : s_ValueOf a_b a_term = some R) :
   Fw.Spec Tryz.prog 107 [(.agg [v0_0.v, v0_1.v].toArray), (.int .i64 a_term)] [crd (RdS 3 rdInt) v0_0.v a_b.Vars, crd (RdS 3 rdInt) v0_1.v a_b.Values] (fun _ : Unit => (.int .i64 R)) (fun _ => []) := by
 refine Spec_enter (n := 36) Tryz.func107 rfl rfl (rs := [.tmp 4]) rfl rfl rfl ?_
 intro H0 F0
 unfold s_ValueOf at hF
 refine au ?_
 refine AbR (fun k1 => ?_)
 iterate 5 refine au ?_
 obtain ⟨r2, hx3, hF⟩ := bind_some hF
 refine Cx0 (s_IsVar_ok _ _ hx3) (fun _ => ?_)
 iterate 2 refine au ?_
 refine Cc (fun hb30 => ?_) (fun hb30 => ?_)
 · rw [if_pos hb30] at hF
   iterate 5 refine au ?_
   cases hF
   exact Er ()
 rw [if_neg (nt hb30)] at hF
 iterate 5 refine au ?_
 refine CW_block (CW_loop (m := (((a_b.Vars.length : Int) - 0).toNat + 2)) (fun m6 f' cs' => ∃ (g : Fr) (c5 : Int), f' = updL g [(1, (.int .i64 a_term)), (2, (.pointer (some ⟨k1, 0, some 0⟩))), (5, (.int .i64 c5))] ∧ Ent cs' [cboR k1 126 (.agg [v0_0.v, v0_1.v].toArray), crd (RdS 3 rdInt) v0_0.v a_b.Vars, crd (RdS 3 rdInt) v0_1.v a_b.Values] ∧ s_ValueOf_L1 a_b a_term m6 c5 = some R) ⟨_, _, eqA, entA, hF⟩ ?_)
 clear hF
 rintro m6 _ _ ⟨g7, c5, rfl, hE, hF⟩
 refine K_ent hE ?_
 clear hE
 rcases m6 with _ | m6
 · rw [s_ValueOf_L1] at hF
   exact absurd hF (by simp)
 rw [s_ValueOf_L1] at hF
 iterate 2 refine au ?_
 refine C_cut (fun f' cs' => ∃ (g : Fr), f' = updL g [(1, (.int .i64 a_term)), (2, (.pointer (some ⟨k1, 0, some 0⟩))), (5, (.int .i64 c5)), (21, (.bool ((decide ((c5 : Int) < (a_b.Vars.length : Int))) && (decide ((c5 : Int) < (a_b.Values.length : Int))))))] ∧ Ent cs' [cboR k1 126 (.agg [v0_0.v, v0_1.v].toArray), crd (RdS 3 rdInt) v0_0.v a_b.Vars, crd (RdS 3 rdInt) v0_1.v a_b.Values]) ?_ ?_
 · iterate 6 refine au ?_
   rcases Bool.eq_false_or_eq_true (decide ((c5 : Int) < (a_b.Vars.length : Int))) with hg14 | hg14
   · rw [hg14]
     try rw [hg14] at hF; dsimp only [cond_true, cond_false] at hF
     iterate 12 refine au ?_
     exact ⟨_, eqA, entA⟩
   rw [hg14]
   try rw [hg14] at hF; dsimp only [cond_true, cond_false] at hF
   iterate 7 refine au ?_
   exact ⟨_, eqA, entA⟩
 rintro _ _ ⟨g15, rfl, hE⟩
 refine K_ent hE ?_
 refine Cc (fun hb29 => ?_) (fun hb29 => ?_)
 · rw [if_pos hb29] at hF
   iterate 6 refine au ?_
   obtain ⟨x16, hx17, hF⟩ := bind_some hF
   obtain ⟨hp18, hx19⟩ := ix_some hx17
   refine Ai hx19 (fun k20 j21 => ?_)
   refine Al ls3_0 ?_
   iterate 3 refine au ?_
   refine Cc (fun hb28 => ?_) (fun hb28 => ?_)
   · rw [if_pos hb28] at hF
     iterate 4 refine au ?_
     obtain ⟨x22, hx23, hF⟩ := bind_some hF
     obtain ⟨hp24, hx25⟩ := ix_some hx23
     refine Ai hx25 (fun k26 j27 => ?_)
     refine Al ls3_0 ?_
     iterate 3 refine au ?_
     cases hF
     exact Er ()
   rw [if_neg (nt hb28)] at hF
   iterate 6 refine au ?_
   exact ⟨m6, Nat.lt_succ_self _, _, _, eqA, entA, hF⟩
 rw [if_neg (nt hb29)] at hF
 iterate 8 refine au ?_
 cases hF
 exact Er ()
def s_l4Bound_L1 (a_b : Binding) (a_v : Int) : Nat → Int → Option (Bool)
 | 0, _ => none
 | m3 + 1, c2 => if ((decide ((c2 : Int) < (a_b.Vars.length : Int))) && (decide ((c2 : Int) < (a_b.Values.length : Int)))) then (
     (ix a_b.Vars c2).bind fun x13 =>
     if ((x13 : Int) == a_v) then (
       some true)
     else (
       s_l4Bound_L1 a_b a_v m3 (IntKind.i64.wrap (c2 + 1))))
   else (
     some false)
def s_l4Bound (a_b : Binding) (a_v : Int) : Option (Bool) :=
 s_l4Bound_L1 a_b a_v (((a_b.Vars.length : Int) - 0).toNat + 2) 0
theorem s_l4Bound_ok (a_b : Binding) (v0_0 : Sv) (v0_1 : Sv) (a_v : Int) (R : Bool) (hF : s_l4Bound a_b a_v = some R) :
   Fw.Spec Tryz.prog 185 [(.agg [v0_0.v, v0_1.v].toArray), (.int .i64 a_v)] [crd (RdS 3 rdInt) v0_0.v a_b.Vars, crd (RdS 3 rdInt) v0_1.v a_b.Values] (fun _ : Unit => (.bool R)) (fun _ => []) := by
 refine Spec_enter (n := 27) Tryz.func185 rfl rfl (rs := [.tmp 4]) rfl rfl rfl ?_
 intro H0 F0
 unfold s_l4Bound at hF
 refine au ?_
 refine AbR (fun k1 => ?_)
 iterate 6 refine au ?_
 refine CW_block (CW_loop (m := (((a_b.Vars.length : Int) - 0).toNat + 2)) (fun m3 f' cs' => ∃ (g : Fr) (c2 : Int), f' = updL g [(1, (.int .i64 a_v)), (2, (.pointer (some ⟨k1, 0, some 0⟩))), (5, (.int .i64 c2))] ∧ Ent cs' [cboR k1 126 (.agg [v0_0.v, v0_1.v].toArray), crd (RdS 3 rdInt) v0_0.v a_b.Vars, crd (RdS 3 rdInt) v0_1.v a_b.Values] ∧ s_l4Bound_L1 a_b a_v m3 c2 = some R) ⟨_, _, eqA, entA, hF⟩ ?_)
 clear hF
 rintro m3 _ _ ⟨g4, c2, rfl, hE, hF⟩
 refine K_ent hE ?_
 clear hE
 rcases m3 with _ | m3
 · rw [s_l4Bound_L1] at hF
   exact absurd hF (by simp)
 rw [s_l4Bound_L1] at hF
 iterate 2 refine au ?_
 refine C_cut (fun f' cs' => ∃ (g : Fr), f' = updL g [(1, (.int .i64 a_v)), (2, (.pointer (some ⟨k1, 0, some 0⟩))), (5, (.int .i64 c2)), (17, (.bool ((decide ((c2 : Int) < (a_b.Vars.length : Int))) && (decide ((c2 : Int) < (a_b.Values.length : Int))))))] ∧ Ent cs' [cboR k1 126 (.agg [v0_0.v, v0_1.v].toArray), crd (RdS 3 rdInt) v0_0.v a_b.Vars, crd (RdS 3 rdInt) v0_1.v a_b.Values]) ?_ ?_
 · iterate 6 refine au ?_
   rcases Bool.eq_false_or_eq_true (decide ((c2 : Int) < (a_b.Vars.length : Int))) with hg11 | hg11
   · rw [hg11]
     try rw [hg11] at hF; dsimp only [cond_true, cond_false] at hF
     iterate 12 refine au ?_
     exact ⟨_, eqA, entA⟩
   rw [hg11]
   try rw [hg11] at hF; dsimp only [cond_true, cond_false] at hF
   iterate 7 refine au ?_
   exact ⟨_, eqA, entA⟩
 rintro _ _ ⟨g12, rfl, hE⟩
 refine K_ent hE ?_
 refine Cc (fun hb20 => ?_) (fun hb20 => ?_)
 · rw [if_pos hb20] at hF
   iterate 6 refine au ?_
   obtain ⟨x13, hx14, hF⟩ := bind_some hF
   obtain ⟨hp15, hx16⟩ := ix_some hx14
   refine Ai hx16 (fun k17 j18 => ?_)
   refine Al ls3_0 ?_
   iterate 3 refine au ?_
   refine Cc (fun hb19 => ?_) (fun hb19 => ?_)
   · rw [if_pos hb19] at hF
     iterate 4 refine au ?_
     cases hF
     exact Er ()
   rw [if_neg (nt hb19)] at hF
   iterate 6 refine au ?_
   exact ⟨m3, Nat.lt_succ_self _, _, _, eqA, entA, hF⟩
 rw [if_neg (nt hb20)] at hF
 iterate 8 refine au ?_
 cases hF
 exact Er ()
def s_l4Bind (a_b : Binding) (a_v : Int) (a_x : Int) : Option (Binding) :=
 (app ([] : List Int) a_b.Vars).bind fun z7 =>
 (app z7 ([a_v] : List Int)).bind fun z10 =>
 (app ([] : List Int) a_b.Values).bind fun z13 =>
 (app z13 ([a_x] : List Int)).bind fun z16 =>
 some ({ Vars := z10, Values := z16 } : Binding)
theorem s_l4Bind_ok (a_b : Binding) (v0_0 : Sv) (v0_1 : Sv) (a_v : Int) (a_x : Int) (R : Binding) (hF : s_l4Bind a_b a_v a_x = some R) :
   Fw.Spec Tryz.prog 186 [(.agg [v0_0.v, v0_1.v].toArray), (.int .i64 a_v), (.int .i64 a_x)] [crd (RdS 3 rdInt) v0_0.v a_b.Vars, crd (RdS 3 rdInt) v0_1.v a_b.Values] (fun p : Sv × List Nat × Sv × List Nat => (.agg [p.1.v, p.2.2.1.v].toArray)) (fun p => [cown (OwnS 3 (roE rdInt)) p.2.1 p.1.v R.Vars, cown (OwnS 3 (roE rdInt)) p.2.2.2 p.2.2.1.v R.Values]) := by
 refine Spec_enter (n := 22) Tryz.func186 rfl rfl (rs := [.cell 6 126]) rfl rfl rfl ?_
 intro H0 F0
 unfold s_l4Bind at hF
 refine au ?_
 refine AbR (fun k1 => ?_)
 refine AnW (fun k2 => ?_)
 refine au ?_
 refine K_draw [0, 1, 2, 4, 5, 7, 8, 9, 11, 12, 3, 6, 10, 13, 14, 15] [0, 0, 2, 7, 0, 16, 63, 0, 0, 256, 1023, 0, 2048, 8191, 16383, 32767] [3, 6, 10, 13, 15] mixed (by decide +kernel) ?_
 refine D_new rfl .no rfl (fun ha => N_buildSliceT (g := true) (len := 0) (parts := []) sl22.h ty3.h .nil (vs := []) rfl rfl rfl (by simp)) (fun k3 => ?_)
 refine Dv1 (.cons .h .nil) (own_lit (Ro := (roE rdInt)) (E := 3) (F := []) (xs := ([] : List Int)) MkL_nil rfl rfl) ?_
 iterate 3 refine du ?_
 refine D_new rfl .no rfl (fun ha => N_buildSliceT (g := true) (len := 1) (parts := [(0, .tmp 11)]) sl22.h ty3.h (.cons (EN ha (.tmp rfl rfl) rfl) .nil) (vs := [(.int .i64 a_v)]) rfl rfl rfl (by intro v hv; simp at hv; rcases hv with rfl <;> rfl)) (fun k4 => ?_)
 refine Dv1 (.cons .h .nil) (own_lit (Ro := (roE rdInt)) (E := 3) (F := ([] ++ [])) (xs := ([a_v] : List Int)) (MkL_cons (Mk_pure (fun _ => rfl)) MkL_nil apps) rfl rfl) ?_
 refine D_new rfl .no rfl (fun ha => N_buildSliceT (g := true) (len := 0) (parts := []) sl22.h ty3.h .nil (vs := []) rfl rfl rfl (by simp)) (fun k5 => ?_)
 refine Dv1 (.cons .h .nil) (own_lit (Ro := (roE rdInt)) (E := 3) (F := []) (xs := ([] : List Int)) MkL_nil rfl rfl) ?_
 iterate 3 refine du ?_
 refine D_new rfl .no rfl (fun ha => N_buildSliceT (g := true) (len := 1) (parts := [(0, .tmp 18)]) sl22.h ty3.h (.cons (EN ha (.tmp rfl rfl) rfl) .nil) (vs := [(.int .i64 a_x)]) rfl rfl rfl (by intro v hv; simp at hv; rcases hv with rfl <;> rfl)) (fun k6 => ?_)
 refine Dv1 (.cons .h .nil) (own_lit (Ro := (roE rdInt)) (E := 3) (F := ([] ++ [])) (xs := ([a_x] : List Int)) (MkL_cons (Mk_pure (fun _ => rfl)) MkL_nil apps) rfl rfl) ?_
 obtain ⟨z7, hx8, hF⟩ := bind_some hF
 refine D_act1 rfl rfl .no (.cons (.t (.t (.t .h))) (.rd (.t (.t (.t (.t (.t .h))))) rfl .nil)) (.own .h (by simp [cown]) (.own (.t .h) (by simp [cown]) (.own (.t (.t .h)) (by simp [cown]) (.dep rfl .nil)))) (fun ha => X_appendO (Ro := (roE rdInt)) sl22.h ni22 ty3.h rfl rfl rfl (EN ha (.tmp rfl rfl) rfl) (EN ha (.tmp rfl rfl) rfl) hx8 src_rd) (fun p9 => ?_)
 obtain ⟨z10, hx11, hF⟩ := bind_some hF
 refine D_act1 rfl rfl .no (.cons .h (.cons (.t (.t .h)) .nil)) (.own .h (by simp [cown]) (.own (.t .h) (by simp [cown]) (.dep rfl (.dep rfl .nil)))) (fun ha => X_appendO (Ro := (roE rdInt)) sl22.h ni22 ty3.h rfl rfl rfl (EN ha (.tmp rfl rfl) rfl) (EN ha (.tmp rfl rfl) rfl) hx11 src_own) (fun p12 => ?_)
 obtain ⟨z13, hx14, hF⟩ := bind_some hF
 refine D_act1 rfl rfl .no (.cons (.t (.t .h)) (.rd (.t (.t (.t (.t (.t .h))))) rfl .nil)) (.own (.t .h) (by simp [cown]) (.dep rfl (.dep rfl (.dep rfl .nil)))) (fun ha => X_appendO (Ro := (roE rdInt)) sl22.h ni22 ty3.h rfl rfl rfl (EN ha (.tmp rfl rfl) rfl) (EN ha (.tmp rfl rfl) rfl) hx14 src_rd) (fun p15 => ?_)
 obtain ⟨z16, hx17, hF⟩ := bind_some hF
 refine D_act1 rfl rfl .no (.cons .h (.cons (.t .h) .nil)) (.dep rfl (.dep rfl (.dep rfl (.dep rfl .nil)))) (fun ha => X_appendO (Ro := (roE rdInt)) sl22.h ni22 ty3.h rfl rfl rfl (EN ha (.tmp rfl rfl) rfl) (EN ha (.tmp rfl rfl) rfl) hx17 src_own) (fun p18 => ?_)
 refine D_val rfl .no (fun ha => V_build ty126.h rfl (vs := [p12.1.v, p18.1.v]) (.cons (EN ha (.tmp rfl rfl) rfl) (.cons (EN ha (.tmp rfl rfl) rfl) .nil)) (cells := [p12.1.v, p18.1.v]) rfl) ?_
 refine D_act1 rfl rfl .no (.cons (.t (.t .h)) .nil) (.dep rfl (.dep rfl (.dep rfl (.dep rfl .nil)))) (fun ha => X_storeB (e' := (.agg [p12.1.v, p18.1.v].toArray)) (v := (.agg [p12.1.v, p18.1.v].toArray)) ty126.h.sz (EN ha (.tmp rfl rfl) rfl) (EN ha (.tmp rfl rfl) rfl) rfl rfl rfl rfl rfl) (fun _ => ?_)
 refine du ?_
 refine au ?_
 cases hF
 exact Er (p12.1, p12.2, p18.1, p18.2)
def s_MatchAtom_L1 (a_f : Fact) : List Int → Nat → (List Int) → (List Int) → Option (Binding × Bool)
 | [], k80, c71, c74 => some (({ Vars := c71, Values := c74 } : Binding), true)
 | x82 :: rest81, k80, c71, c74 => (((s_ValueOf ({ Vars := c71, Values := c74 } : Binding) x82).bind fun r93 =>
     ((s_IsVar x82).bind fun r100 =>
       bif r100 then ((s_l4Bound ({ Vars := c71, Values := c74 } : Binding) x82).bind fun r106 =>
         some (!r106))
       else (some false)).bind fun o96 =>
     match o96 with
     | c109 => if c109 then (
         (ix a_f.Values (k80 : Int)).bind fun x112 =>
         (s_l4Bind ({ Vars := c71, Values := c74 } : Binding) x82 x112).bind fun r118 =>
         some (.inr (r118.Vars, r118.Values)))
       else (
         (ix a_f.Values (k80 : Int)).bind fun x121 =>
         if ((r93 : Int) != x121) then (
           some (.inl (({ Vars := [], Values := [] } : Binding), false)))
         else (
           some (.inr (c71, c74))))) : Option (Sum (Binding × Bool) ((List Int) × (List Int)))).bind fun o89 =>
   match o89 with
   | .inl r => some r
   | .inr (c130, c133) => s_MatchAtom_L1 a_f rest81 (k80 + 1) c130 c133
def s_MatchAtom (a_b : Binding) (a_a : Atom) (a_f : Fact) : Option (Binding × Bool) :=
 (s_l4Copy a_b).bind fun r5 =>
 if (((a_a.Rel : Int) != a_f.Rel) || ((((a_a.Terms.length : Int) : Int) != (a_f.Values.length : Int)) || (((a_b.Vars.length : Int) : Int) != (a_b.Values.length : Int)))) then (
   some (({ Vars := [], Values := [] } : Binding), false))
 else (
   s_MatchAtom_L1 a_f a_a.Terms 0 r5.Vars r5.Values)
theorem s_MatchAtom_ok (a_b : Binding) (v0_0 : Sv) (v0_1 : Sv) (a_a : Atom) (v1_1 : Sv) (a_f : Fact) (v2_1 : Sv) (R : Binding × Bool) (hF : s_MatchAtom a_b a_a a_f = some R) :
   Fw.Spec Tryz.prog 149 [(.agg [v0_0.v, v0_1.v].toArray), (.agg [(.int .i64 a_a.Rel), v1_1.v].toArray), (.agg [(.int .i64 a_f.Rel), v2_1.v].toArray)] [crd (RdS 3 rdInt) v0_0.v a_b.Vars, crd (RdS 3 rdInt) v0_1.v a_b.Values, crd (RdS 3 rdInt) v1_1.v a_a.Terms, crd (RdS 3 rdInt) v2_1.v a_f.Values] (fun p : Sv × List Nat × Sv × List Nat => (.tuple [(.agg [p.1.v, p.2.2.1.v].toArray), (.bool R.2)].toArray)) (fun p => [cown (OwnS 3 (roE rdInt)) p.2.1 p.1.v R.1.Vars, cown (OwnS 3 (roE rdInt)) p.2.2.2 p.2.2.1.v R.1.Values]) := by
 refine Spec_enter (n := 88) Tryz.func149 rfl rfl (rs := [.cell 6 126, .tmp 7]) rfl rfl rfl ?_
 intro H0 F0
 unfold s_MatchAtom at hF
 refine au ?_
 refine AbR (fun k1 => ?_)
 refine AbR (fun k2 => ?_)
 refine AbR (fun k3 => ?_)
 refine AnW (fun k4 => ?_)
 iterate 4 refine au ?_
 obtain ⟨r5, hx6, hF⟩ := bind_some hF
 refine Cx2 (s_l4Copy_ok _ _ _ _ hx6) (fun p7 => ?_)
 refine AnW (fun k8 => ?_)
 refine As (.agg [p7.1.v, p7.2.2.1.v].toArray) ?_
 iterate 3 refine au ?_
 refine C_cut (fun f' cs' => ∃ (g : Fr), f' = updL g [(4, (.pointer (some ⟨k2, 0, some 0⟩))), (5, (.pointer (some ⟨k3, 0, some 0⟩))), (6, (.pointer (some ⟨k4, 0, some 0⟩))), (8, (.pointer (some ⟨k8, 0, some 0⟩))), (35, (.bool (((a_a.Rel : Int) != a_f.Rel) || ((((a_a.Terms.length : Int) : Int) != (a_f.Values.length : Int)) || (((a_b.Vars.length : Int) : Int) != (a_b.Values.length : Int))))))] ∧ Ent cs' [cboR k2 102 (.agg [(.int .i64 a_a.Rel), v1_1.v].toArray), crd (RdS 3 rdInt) v1_1.v a_a.Terms, cboR k3 80 (.agg [(.int .i64 a_f.Rel), v2_1.v].toArray), crd (RdS 3 rdInt) v2_1.v a_f.Values, cbox k4 126 (.agg [(.slice none 0 0), (.slice none 0 0)].toArray), cbox k8 126 (.agg [p7.1.v, p7.2.2.1.v].toArray), cown (OwnS 3 (roE rdInt)) p7.2.1 p7.1.v r5.Vars, cown (OwnS 3 (roE rdInt)) p7.2.2.2 p7.2.2.1.v r5.Values]) ?_ ?_
 · iterate 6 refine au ?_
   rcases Bool.eq_false_or_eq_true ((a_a.Rel : Int) != a_f.Rel) with hg9 | hg9
   · rw [hg9]
     try rw [hg9] at hF; dsimp only [cond_true, cond_false] at hF
     iterate 18 refine au ?_
     exact ⟨_, eqA, entA⟩
   rw [hg9]
   try rw [hg9] at hF; dsimp only [cond_true, cond_false] at hF
   iterate 16 refine au ?_
   rcases Bool.eq_false_or_eq_true (((a_a.Terms.length : Int) : Int) != (a_f.Values.length : Int)) with hg10 | hg10
   · rw [hg10]
     try rw [hg10] at hF; dsimp only [cond_true, cond_false] at hF
     iterate 9 refine au ?_
     exact ⟨_, eqA, entA⟩
   rw [hg10]
   try rw [hg10] at hF; dsimp only [cond_true, cond_false] at hF
   iterate 16 refine au ?_
   exact ⟨_, eqA, entA⟩
 rintro _ _ ⟨g11, rfl, hE⟩
 refine K_ent hE ?_
 refine Cc (fun hb138 => ?_) (fun hb138 => ?_)
 · rw [if_pos hb138] at hF
   refine au ?_
   refine C_val (V_build ty126.h rfl (vs := []) .nil (cells := [(.slice none 0 0), (.slice none 0 0)]) rfl) ?_
   refine As (.agg [(.slice none 0 0), (.slice none 0 0)].toArray) ?_
   iterate 3 refine au ?_
   cases hF
   exact End_ret (⟨none, 0, 0⟩, [], ⟨none, 0, 0⟩, []) (.cellA rfl rfl .h rfl ag126.h ty126.h.sz rfl rfl (.tmp rfl rfl .nil)) rfl (.conv .nil (own_nil (Ro := (roE rdInt)) (E := 3)) (.cons .nil) (.conv .nil (own_nil (Ro := (roE rdInt)) (E := 3)) (.cons .nil) (.sel (.cons (.t .h) (.cons .h .nil)))))
 rw [if_neg (nt hb138)] at hF
 iterate 5 refine au ?_
 refine CW_block (CW_loop (m := a_a.Terms.length) (fun m78 f' cs' => ∃ (g : Fr) (k80 : Nat) (rest81 : List Int) (c71 : List Int) (c74 : List Int) (v72 : Sv) (F73 : List Nat) (v75 : Sv) (F76 : List Nat), m78 = rest81.length ∧ f' = updL g [(4, (.pointer (some ⟨k2, 0, some 0⟩))), (5, (.pointer (some ⟨k3, 0, some 0⟩))), (6, (.pointer (some ⟨k4, 0, some 0⟩))), (8, (.pointer (some ⟨k8, 0, some 0⟩))), (9, (.int .i64 (k80 : Int)))] ∧ List.drop k80 a_a.Terms = rest81 ∧ Ent cs' [cboR k2 102 (.agg [(.int .i64 a_a.Rel), v1_1.v].toArray), crd (RdS 3 rdInt) v1_1.v a_a.Terms, cboR k3 80 (.agg [(.int .i64 a_f.Rel), v2_1.v].toArray), crd (RdS 3 rdInt) v2_1.v a_f.Values, cbox k4 126 (.agg [(.slice none 0 0), (.slice none 0 0)].toArray), cbox k8 126 (.agg [v72.v, v75.v].toArray), cown (OwnS 3 (roE rdInt)) F73 v72.v c71, cown (OwnS 3 (roE rdInt)) F76 v75.v c74] ∧ s_MatchAtom_L1 a_f rest81 k80 c71 c74 = some R) ⟨_, 0, _, _, _, p7.1, p7.2.1, p7.2.2.1, p7.2.2.2, rfl, eqA, rfl, entA, hF⟩ ?_)
 clear hF
 rintro m78 _ _ ⟨g79, k80, rest81, c71, c74, v72, F73, v75, F76, rfl, rfl, hd83, hE, hF⟩
 refine K_ent hE ?_
 clear hE
 refine K_pure (c := crd (RdS 3 rdInt) v1_1.v a_a.Terms) (.t .h) crd_bound (fun hbd88 => ?_)
 rcases rest81 with _ | ⟨x82, rest81⟩
 · have hk84 := List.drop_eq_nil_iff.1 hd83
   rw [s_MatchAtom_L1] at hF
   iterate 8 refine au ?_
   refine CdF ?_
   iterate 6 refine au ?_
   refine As (.agg [v72.v, v75.v].toArray) ?_
   iterate 3 refine au ?_
   cases hF
   exact End_ret (v72, F73, v75, F76) (.cellA rfl rfl .h rfl ag126.h ty126.h.sz rfl rfl (.tmp rfl rfl .nil)) rfl (.sel (.cons (.t (.t (.t (.t (.t (.t .h)))))) (.cons (.t (.t (.t (.t (.t (.t .h)))))) .nil)))
 obtain ⟨hk84, hx85, hd86⟩ := drop_cons hd83
 rw [s_MatchAtom_L1] at hF
 iterate 8 refine au ?_
 refine CdT ?_
 refine au ?_
 obtain ⟨o89, hio89, hO90⟩ := bind_some hF
 refine K_cut (fun f' cs' => ∃ (c130 : List Int) (c133 : List Int) (v131 : Sv) (F132 : List Nat) (v134 : Sv) (F135 : List Nat) (g : Fr), o89 = .inr (c130, c133) ∧ f' = updL g [(4, (.pointer (some ⟨k2, 0, some 0⟩))), (5, (.pointer (some ⟨k3, 0, some 0⟩))), (6, (.pointer (some ⟨k4, 0, some 0⟩))), (8, (.pointer (some ⟨k8, 0, some 0⟩))), (9, (.int .i64 (k80 : Int)))] ∧ Ent cs' [cboR k2 102 (.agg [(.int .i64 a_a.Rel), v1_1.v].toArray), crd (RdS 3 rdInt) v1_1.v a_a.Terms, cboR k3 80 (.agg [(.int .i64 a_f.Rel), v2_1.v].toArray), crd (RdS 3 rdInt) v2_1.v a_f.Values, cbox k4 126 (.agg [(.slice none 0 0), (.slice none 0 0)].toArray), cbox k8 126 (.agg [v131.v, v134.v].toArray), cown (OwnS 3 (roE rdInt)) F132 v131.v c130, cown (OwnS 3 (roE rdInt)) F135 v134.v c133]) ?_ ?_
 · replace hF := hio89
   refine CW_block (K_draw [0, 1, 2, 3, 4, 5, 6, 7] [0, 0, 2, 0, 14, 30, 63, 127] [6] mixed (by decide +kernel) ?_)
   refine D_atO rfl .no (.t (.t (.t (.t (.t .h))))) (fun ha hp => V_loadBox ag126.h ty126.h.sz rfl (EN ha (.tmp rfl rfl) rfl) hp.2 rfl) ?_
   iterate 3 refine du ?_
   refine Di hx85 (fun k91 j92 => ?_)
   refine Dl ls3_0 ?_
   obtain ⟨r93, hx94, hF⟩ := bind_some hF
   refine D_act2 rfl rfl .no (.cons (.t (.t (.t (.t (.t (.t (.t (.t .h)))))))) (.cons (.t (.t (.t (.t (.t (.t (.t .h))))))) .nil)) (.dep rfl .nil) (fun ha => XC_borL (pre := []) (.cons frz_own (.cons frz_own .nil)) (fun _ => .nil) (X_callS cf107.h (.cons (EN ha (.tmp rfl rfl) rfl) (.cons (EN ha (.tmp rfl rfl) rfl) .nil)) (s_ValueOf_ok ({ Vars := c71, Values := c74 } : Binding) v72 v75 x82 _ hx94))) (fun _ => ?_)
   iterate 2 refine du ?_
   obtain ⟨o96, hio96, hO97⟩ := bind_some hF
   refine K_draw [0, 1, 2, 3, 4, 5, 6, 7, 8, 9, 10, 11, 12, 13, 14, 15] [0, 1, 0, 7, 15, 31, 63, 127, 127, 383, 127, 1919, 3967, 8191, 16383, 32767] [5, 13] mixed (by decide +kernel) ?_
   refine D_cut (fun f' cs' => ∃ (c109 : Bool) (g : Fr), c109 = o96 ∧ f' = updL g [(4, (.pointer (some ⟨k2, 0, some 0⟩))), (5, (.pointer (some ⟨k3, 0, some 0⟩))), (6, (.pointer (some ⟨k4, 0, some 0⟩))), (8, (.pointer (some ⟨k8, 0, some 0⟩))), (9, (.int .i64 (k80 : Int))), (10, (.int .i64 r93)), (66, (.bool c109))] ∧ Ent cs' [cboR k2 102 (.agg [(.int .i64 a_a.Rel), v1_1.v].toArray), crd (RdS 3 rdInt) v1_1.v a_a.Terms, cboR k3 80 (.agg [(.int .i64 a_f.Rel), v2_1.v].toArray), crd (RdS 3 rdInt) v2_1.v a_f.Values, cbox k4 126 (.agg [(.slice none 0 0), (.slice none 0 0)].toArray), cbox k8 126 (.agg [v72.v, v75.v].toArray), cown (OwnS 3 (roE rdInt)) F73 v72.v c71, cown (OwnS 3 (roE rdInt)) F76 v75.v c74]) ?_ ?_
   · replace hF := hio96
     iterate 3 refine du ?_
     refine Di hx85 (fun k98 j99 => ?_)
     refine Dl ls3_0 ?_
     obtain ⟨r100, hx101, hF⟩ := bind_some hF
     refine Dx0 (s_IsVar_ok _ _ hx101) (fun _ => ?_)
     refine du ?_
     rcases Bool.eq_false_or_eq_true r100 with hg103 | hg103
     · rw [hg103]
       try rw [hg103] at hF; dsimp only [cond_true, cond_false] at hF
       refine D_atO rfl (.on 57 rfl rfl rfl) (.t (.t (.t (.t (.t (.t (.t (.t (.t .h))))))))) (fun ha hp => V_loadBox ag126.h ty126.h.sz rfl (EN ha (.tmp rfl rfl) rfl) hp.2 rfl) ?_
       iterate 3 refine du ?_
       refine Di hx85 (fun k104 j105 => ?_)
       refine Dl ls3_0 ?_
       obtain ⟨r106, hx107, hF⟩ := bind_some hF
       refine D_act2 rfl rfl (.on 57 rfl rfl rfl) (.cons (.t (.t .h)) (.cons (.t (.t .h)) .nil)) (.dep rfl .nil) (fun ha => XC_borL (pre := []) (.cons frz_own (.cons frz_own .nil)) (fun _ => .nil) (X_callS cf185.h (.cons (EN ha (.tmp rfl rfl) rfl) (.cons (EN ha (.tmp rfl rfl) rfl) .nil)) (s_l4Bound_ok ({ Vars := c71, Values := c74 } : Binding) v72 v75 x82 _ hx107))) (fun _ => ?_)
       iterate 3 refine du ?_
       cases hF
       exact ⟨_, _, rfl, eqA, entA⟩
     rw [hg103]
     try rw [hg103] at hF; dsimp only [cond_true, cond_false] at hF
     iterate 10 refine du ?_
     cases hF
     exact ⟨_, _, rfl, eqA, entA⟩
   rintro _ _ ⟨c109, g129, rfl, rfl, hE⟩
   replace hF := hO97
   clear hO97
   try dsimp only at hF
   refine K_ent hE ?_
   refine Cc (fun hb128 => ?_) (fun hb128 => ?_)
   · rw [if_pos hb128] at hF
     refine CW_draw [0, 1, 2, 3, 4, 5, 6, 7, 8, 9, 10, 11, 12] [0, 0, 2, 0, 14, 30, 0, 64, 0, 448, 960, 2047, 4095] [11, 12] mixed (by decide +kernel) ?_
     refine D_atO rfl .no (.t (.t (.t (.t (.t .h))))) (fun ha hp => V_loadBox ag126.h ty126.h.sz rfl (EN ha (.tmp rfl rfl) rfl) hp.2 rfl) ?_
     iterate 3 refine du ?_
     refine Di hx85 (fun k110 j111 => ?_)
     refine Dl ls3_0 ?_
     iterate 3 refine du ?_
     obtain ⟨x112, hx113, hF⟩ := bind_some hF
     obtain ⟨hp114, hx115⟩ := ix_some hx113
     refine Di hx115 (fun k116 j117 => ?_)
     refine Dl ls3_0 ?_
     obtain ⟨r118, hx119, hF⟩ := bind_some hF
     refine D_act4 rfl rfl .no (.cons (.t (.t (.t (.t (.t (.t (.t (.t (.t .h))))))))) (.cons (.t (.t (.t (.t (.t (.t (.t (.t .h)))))))) .nil)) (.dep rfl .nil) (fun ha => XC_borL (pre := []) (.cons frz_own (.cons frz_own .nil)) (fun _ => (.cons (.cons .nil))) (X_callS cf186.h (.cons (EN ha (.tmp rfl rfl) rfl) (.cons (EN ha (.tmp rfl rfl) rfl) (.cons (EN ha (.tmp rfl rfl) rfl) .nil))) (s_l4Bind_ok ({ Vars := c71, Values := c74 } : Binding) v72 v75 x82 x112 _ hx119))) (fun p120 => ?_)
     refine D_act1 rfl rfl .no (.cons (.t (.t (.t (.t (.t (.t (.t (.t (.t (.t (.t .h))))))))))) .nil) (.dep rfl .nil) (fun ha => X_storeB (e' := (.agg [p120.1.v, p120.2.2.1.v].toArray)) (v := (.agg [p120.1.v, p120.2.2.1.v].toArray)) ty126.h.sz (EN ha (.tmp rfl rfl) rfl) (EN ha (.tmp rfl rfl) rfl) rfl rfl rfl rfl rfl) (fun _ => ?_)
     refine du ?_
     cases hF
     exact ⟨_, _, p120.1, p120.2.1, p120.2.2.1, p120.2.2.2, _, rfl, eqA, entA⟩
   rw [if_neg (nt hb128)] at hF
   iterate 5 refine au ?_
   obtain ⟨x121, hx122, hF⟩ := bind_some hF
   obtain ⟨hp123, hx124⟩ := ix_some hx122
   refine Ai hx124 (fun k125 j126 => ?_)
   refine Al ls3_0 ?_
   iterate 2 refine au ?_
   refine Cc (fun hb127 => ?_) (fun hb127 => ?_)
   · rw [if_pos hb127] at hF
     refine au ?_
     refine C_val (V_build ty126.h rfl (vs := []) .nil (cells := [(.slice none 0 0), (.slice none 0 0)]) rfl) ?_
     refine As (.agg [(.slice none 0 0), (.slice none 0 0)].toArray) ?_
     iterate 3 refine au ?_
     cases hF
     replace hF := hO90
     try dsimp only at hF
     cases hF
     exact End_ret (⟨none, 0, 0⟩, [], ⟨none, 0, 0⟩, []) (.cellA rfl rfl .h rfl ag126.h ty126.h.sz rfl rfl (.tmp rfl rfl .nil)) rfl (.conv .nil (own_nil (Ro := (roE rdInt)) (E := 3)) (.cons .nil) (.conv .nil (own_nil (Ro := (roE rdInt)) (E := 3)) (.cons .nil) (.sel (.cons (.t .h) (.cons .h .nil)))))
   rw [if_neg (nt hb127)] at hF
   refine au ?_
   cases hF
   exact ⟨_, _, v72, F73, v75, F76, _, rfl, eqA, entA⟩
 rintro _ _ ⟨c130, c133, v131, F132, v134, F135, g137, rfl, rfl, hE⟩
 replace hF := hO90
 clear hO90
 try dsimp only at hF
 refine K_ent hE ?_
 iterate 5 refine au ?_
 rw [wk k80]
 exact ⟨_, Nat.lt_succ_self _, _, k80 + 1, rest81, _, _, v131, F132, v134, F135, rfl, eqA, hd86, entA, hF⟩
def s_l4Extend_L2 (a_a : Atom) (x11 : Binding) : List Fact → Nat → (List Binding) → Option ((List Binding))
 | [], k26, c20 => some c20
 | x28 :: rest27, k26, c20 => ((s_MatchAtom x11 a_a x28).bind fun r44 =>
     if r44.2 then (
       (app c20 ([r44.1] : List Binding)).bind fun z48 =>
       some z48)
     else (
       some c20)).bind fun o35 =>
   match o35 with
   | c52 => s_l4Extend_L2 a_a x11 rest27 (k26 + 1) c52
def s_l4Extend_L1 (a_a : Atom) (a_facts : List Fact) : List Binding → Nat → (List Binding) → Option ((List Binding))
 | [], k9, c3 => some c3
 | x11 :: rest10, k9, c3 => (s_l4Extend_L2 a_a x11 a_facts 0 c3).bind fun o18 =>
   match o18 with
   | c57 => s_l4Extend_L1 a_a a_facts rest10 (k9 + 1) c57
def s_l4Extend (a_l : List Binding) (a_a : Atom) (a_facts : List Fact) : Option ((List Binding)) :=
 s_l4Extend_L1 a_a a_facts a_l 0 ([] : List Binding)
theorem s_l4Extend_ok (a_l : List Binding) (v0_0 : Sv) (a_a : Atom) (v1_1 : Sv) (a_facts : List Fact) (v2_0 : Sv) (R : (List Binding)) (hF : s_l4Extend a_l a_a a_facts = some R) :
   Fw.Spec Tryz.prog 109 [v0_0.v, (.agg [(.int .i64 a_a.Rel), v1_1.v].toArray), v2_0.v] [crd (RdS 126 rd126) v0_0.v a_l, crd (RdS 3 rdInt) v1_1.v a_a.Terms, crd (RdS 80 rd80) v2_0.v a_facts] (fun p : Sv × List Nat => p.1.v) (fun p => [cown (OwnS 126 ow126) p.2 p.1.v R]) := by
 refine Spec_enter (n := 44) Tryz.func109 rfl rfl (rs := [.tmp 6]) rfl rfl rfl ?_
 intro H0 F0
 unfold s_l4Extend at hF
 refine K_region (C_newR rfl (N_box (g := false) (v := (.agg [(.int .i64 a_a.Rel), v1_1.v].toArray)) ty102.h.sz (.tmp rfl rfl) rfl) (fun k1 => ?_))
 refine C_val (V_assign (v := (.slice none 0 0)) EV.nilSlice) ?_
 refine C_nil (K_region (C_new rfl (N_buildSliceT (g := true) sl106.h ty126.h .nil (vs := []) rfl rfl rfl (by simp)) (fun k2 => ?_)))
 refine C_conv (.cons .h .nil) (own_lit (Ro := ow126) (E := 126) (F := []) (xs := ([] : List Binding)) MkL_nil rfl rfl) apps ?_
 refine Ca (.slice (some ⟨k2, 0, none⟩) 0 1) rfl rfl ?_
 refine C_nil (K_in (K_region (C_val (V_assign (v := (.int .i64 0)) (.int _ _)) ?_)))
 refine C_nil (CW_block (CW_loop (m := a_l.length) (fun m7 f' cs' => ∃ (g : Fr) (k9 : Nat) (rest10 : List Binding) (c3 : List Binding) (v4 : Sv) (F5 : List Nat), m7 = rest10.length ∧ f' = updL g [(0, v0_0.v), (2, v2_0.v), (4, (.pointer (some ⟨k1, 0, some 0⟩))), (7, v4.v), (8, (.int .i64 (k9 : Int)))] ∧ List.drop k9 a_l = rest10 ∧ Ent cs' [crd (RdS 126 rd126) v0_0.v a_l, crd (RdS 80 rd80) v2_0.v a_facts, cboR k1 102 (.agg [(.int .i64 a_a.Rel), v1_1.v].toArray), crd (RdS 3 rdInt) v1_1.v a_a.Terms, cown (OwnS 126 ow126) F5 v4.v c3] ∧ s_l4Extend_L1 a_a a_facts rest10 k9 c3 = some R) ⟨_, 0, _, _, ⟨(some ⟨k2, 0, none⟩), 0, 1⟩, (k2 :: []), rfl, (EqL.cons rfl (EqL.cons rfl (EqL.cons rfl (EqL.cons rfl (EqL.cons rfl (EqL.nil)))))).eq, rfl, (.sel (.rd (.t (.t .h)) rfl (.rd (.t (.t (.t (.t .h)))) rfl (.rd (.t .h) rfl (.rd (.t (.t (.t .h))) rfl (.cons .h .nil)))))), hF⟩ ?_))
 clear hF
 rintro m7 _ _ ⟨g8, k9, rest10, c3, v4, F5, rfl, rfl, hd12, hE, hF⟩
 refine K_ent hE ?_
 clear hE
 refine K_pure (c := crd (RdS 126 rd126) v0_0.v a_l) .h crd_bound (fun hbd17 => ?_)
 rcases rest10 with _ | ⟨x11, rest10⟩
 · have hk13 := List.drop_eq_nil_iff.1 hd12
   have hfe16 : (decide (((k9 : Int) : Int) < (a_l.length : Int))) = false := decide_eq_false (by omega)
   rw [s_l4Extend_L1] at hF
   refine K_in (K_region (Cm (.int .i64 (k9 : Int)) rfl rfl ?_))
   refine Cm v0_0.v rfl rfl ?_
   refine C_at .h (fun hp => V_lenR (l := a_l.length) sl106.h (.tmp rfl rfl) (crd_len hp)) ?_
   refine C_val (V_lss (i := (k9 : Int)) (j := (a_l.length : Int)) (.tmp rfl rfl) (.tmp rfl rfl)) ?_
   refine C_nil (CW_cond (b := (decide (((k9 : Int) : Int) < (a_l.length : Int)))) (.tmp rfl rfl) (fun hb => absurd (hfe16.symm.trans hb) (by decide)) (fun _ => ?_))
   refine CW_exit ?_
   iterate 2 refine CThen_exit ?_
   refine CIn_self (K_region (Cm v4.v rfl rfl ?_))
   refine Ca v4.v rfl rfl ?_
   refine C_nil (CW_ret ?_)
   obtain rfl := Option.some.inj hF
   exact End_ret (v4, F5) (.tmp rfl rfl .nil) rfl (.sel (.cons (.t (.t (.t (.t .h)))) .nil))
 obtain ⟨hk13, hx14, hd15⟩ := drop_cons hd12
 have hfe16 : (decide (((k9 : Int) : Int) < (a_l.length : Int))) = true := decide_eq_true (by omega)
 rw [s_l4Extend_L1] at hF
 refine K_in (K_region (Cm (.int .i64 (k9 : Int)) rfl rfl ?_))
 refine Cm v0_0.v rfl rfl ?_
 refine C_at .h (fun hp => V_lenR (l := a_l.length) sl106.h (.tmp rfl rfl) (crd_len hp)) ?_
 refine C_val (V_lss (i := (k9 : Int)) (j := (a_l.length : Int)) (.tmp rfl rfl) (.tmp rfl rfl)) ?_
 refine C_nil (CW_cond (b := (decide (((k9 : Int) : Int) < (a_l.length : Int)))) (.tmp rfl rfl) (fun _ => ?_) (fun hb => absurd (hfe16.symm.trans hb) (by decide)))
 refine CW_skip ?_
 obtain ⟨o18, hio18, hO19⟩ := bind_some hF
 refine K_cut (fun f' cs' => ∃ (c57 : List Binding) (v58 : Sv) (F59 : List Nat) (g : Fr), c57 = o18 ∧ f' = updL g [(0, v0_0.v), (2, v2_0.v), (4, (.pointer (some ⟨k1, 0, some 0⟩))), (7, v58.v), (8, (.int .i64 (k9 : Int)))] ∧ Ent cs' [crd (RdS 126 rd126) v0_0.v a_l, crd (RdS 80 rd80) v2_0.v a_facts, cboR k1 102 (.agg [(.int .i64 a_a.Rel), v1_1.v].toArray), crd (RdS 3 rdInt) v1_1.v a_a.Terms, cown (OwnS 126 ow126) F59 v58.v c57]) ?_ ?_
 · replace hF := hio18
   refine CW_block (K_region (C_val (V_assign (v := (.int .i64 0)) (.int _ _)) ?_))
   refine C_nil (CW_block (CW_loop (m := a_facts.length) (fun m24 f' cs' => ∃ (g : Fr) (k26 : Nat) (rest27 : List Fact) (c20 : List Binding) (v21 : Sv) (F22 : List Nat), m24 = rest27.length ∧ f' = updL g [(0, v0_0.v), (2, v2_0.v), (4, (.pointer (some ⟨k1, 0, some 0⟩))), (7, v21.v), (8, (.int .i64 (k9 : Int))), (9, (.int .i64 (k26 : Int)))] ∧ List.drop k26 a_facts = rest27 ∧ Ent cs' [crd (RdS 126 rd126) v0_0.v a_l, crd (RdS 80 rd80) v2_0.v a_facts, cboR k1 102 (.agg [(.int .i64 a_a.Rel), v1_1.v].toArray), crd (RdS 3 rdInt) v1_1.v a_a.Terms, cown (OwnS 126 ow126) F22 v21.v c20] ∧ s_l4Extend_L2 a_a x11 rest27 k26 c20 = some o18) ⟨_, 0, _, _, v4, F5, rfl, (EqL.cons rfl (EqL.cons rfl (EqL.cons rfl (EqL.cons rfl (EqL.cons rfl (EqL.cons rfl (EqL.nil))))))).eq, rfl, (.sel (.rd .h rfl (.rd (.t .h) rfl (.rd (.t (.t .h)) rfl (.rd (.t (.t (.t .h))) rfl (.cons (.t (.t (.t (.t .h)))) .nil)))))), hF⟩ ?_))
   clear hF
   rintro m24 _ _ ⟨g25, k26, rest27, c20, v21, F22, rfl, rfl, hd29, hE, hF⟩
   refine K_ent hE ?_
   clear hE
   refine K_pure (c := crd (RdS 80 rd80) v2_0.v a_facts) (.t .h) crd_bound (fun hbd34 => ?_)
   rcases rest27 with _ | ⟨x28, rest27⟩
   · have hk30 := List.drop_eq_nil_iff.1 hd29
     have hfe33 : (decide (((k26 : Int) : Int) < (a_facts.length : Int))) = false := decide_eq_false (by omega)
     rw [s_l4Extend_L2] at hF
     refine K_in (K_region (Cm (.int .i64 (k26 : Int)) rfl rfl ?_))
     refine Cm v2_0.v rfl rfl ?_
     refine C_at (.t .h) (fun hp => V_lenR (l := a_facts.length) sl40.h (.tmp rfl rfl) (crd_len hp)) ?_
     refine C_val (V_lss (i := (k26 : Int)) (j := (a_facts.length : Int)) (.tmp rfl rfl) (.tmp rfl rfl)) ?_
     refine C_nil (CW_cond (b := (decide (((k26 : Int) : Int) < (a_facts.length : Int)))) (.tmp rfl rfl) (fun hb => absurd (hfe33.symm.trans hb) (by decide)) (fun _ => ?_))
     refine CW_exit ?_
     iterate 2 refine CThen_exit ?_
     refine CIn_self ?_
     obtain rfl := Option.some.inj hF
     exact ⟨_, v21, F22, _, rfl, (EqL.cons rfl (EqL.cons rfl (EqL.cons rfl (EqL.cons rfl (EqL.cons rfl (EqL.nil)))))).eq, (.sel (.rd .h rfl (.rd (.t .h) rfl (.rd (.t (.t .h)) rfl (.rd (.t (.t (.t .h))) rfl (.cons (.t (.t (.t (.t .h)))) .nil))))))⟩
   obtain ⟨hk30, hx31, hd32⟩ := drop_cons hd29
   have hfe33 : (decide (((k26 : Int) : Int) < (a_facts.length : Int))) = true := decide_eq_true (by omega)
   rw [s_l4Extend_L2] at hF
   refine K_in (K_region (Cm (.int .i64 (k26 : Int)) rfl rfl ?_))
   refine Cm v2_0.v rfl rfl ?_
   refine C_at (.t .h) (fun hp => V_lenR (l := a_facts.length) sl40.h (.tmp rfl rfl) (crd_len hp)) ?_
   refine C_val (V_lss (i := (k26 : Int)) (j := (a_facts.length : Int)) (.tmp rfl rfl) (.tmp rfl rfl)) ?_
   refine C_nil (CW_cond (b := (decide (((k26 : Int) : Int) < (a_facts.length : Int)))) (.tmp rfl rfl) (fun _ => ?_) (fun hb => absurd (hfe33.symm.trans hb) (by decide)))
   refine CW_skip ?_
   obtain ⟨o35, hio35, hO36⟩ := bind_some hF
   refine K_cut (fun f' cs' => ∃ (c52 : List Binding) (v53 : Sv) (F54 : List Nat) (g : Fr), c52 = o35 ∧ f' = updL g [(0, v0_0.v), (2, v2_0.v), (4, (.pointer (some ⟨k1, 0, some 0⟩))), (7, v53.v), (8, (.int .i64 (k9 : Int))), (9, (.int .i64 (k26 : Int)))] ∧ Ent cs' [crd (RdS 126 rd126) v0_0.v a_l, crd (RdS 80 rd80) v2_0.v a_facts, cboR k1 102 (.agg [(.int .i64 a_a.Rel), v1_1.v].toArray), crd (RdS 3 rdInt) v1_1.v a_a.Terms, cown (OwnS 126 ow126) F54 v53.v c52]) ?_ ?_
   · replace hF := hio35
     refine CW_block (K_draw [0, 1, 2, 3, 4, 5, 6, 7, 8, 13, 9, 10, 11, 12, 14, 15] [0, 0, 3, 7, 0, 0, 0, 96, 224, 511, 1023, 2047, 2047, 0, 12287, 32767] [9, 14] mixed (by decide +kernel) ?_)
     refine Dm v0_0.v rfl rfl rfl rfl ?_
     refine Dm (.int .i64 (k9 : Int)) rfl rfl rfl rfl ?_
     refine D_idx (a := x11) sl106.h ty126.h.sz rfl .no (.tmp rfl rfl) (.tmp rfl rfl) rfl rfl .h (Int.natCast_nonneg k9) hx14 (fun k37 j38 => ?_)
     refine D_ldA2 (ul126_0_126 x11) ag126.h ty126.h.sz rfl rfl .no (.tmp rfl rfl) rfl .h la126_0_126 (fun p39 => ?_)
     refine D_at rfl .no (.t (.t (.t (.t (.t .h))))) rfl (fun ha hp => V_loadBox ag102.h ty102.h.sz rfl (EN ha (.tmp rfl rfl) rfl) hp.2 rfl) ?_
     refine Dm v2_0.v rfl rfl rfl rfl ?_
     refine Dm (.int .i64 (k26 : Int)) rfl rfl rfl rfl ?_
     refine D_idx (a := x28) sl40.h ty80.h.sz rfl .no (.tmp rfl rfl) (.tmp rfl rfl) rfl rfl (.t (.t (.t (.t .h)))) (Int.natCast_nonneg k26) hx31 (fun k40 j41 => ?_)
     refine D_ldA1 (ul80_0_80 x28) ag80.h ty80.h.sz rfl rfl .no (.tmp rfl rfl) rfl .h la80_0_80 (fun p42 => ?_)
     refine D_new rfl .no rfl (fun ha => N_allocT (g := true) ty126.h rfl rfl) (fun k43 => ?_)
     obtain ⟨r44, hx45, hF⟩ := bind_some hF
     refine D_act2 rfl rfl .no (.rd (.t (.t (.t .h))) rfl (.rd (.t (.t (.t (.t .h)))) rfl (.rd (.t (.t (.t (.t (.t (.t (.t (.t (.t .h))))))))) rfl (.rd (.t .h) rfl .nil)))) (.own .h (fun _ h => h) .nil) (fun ha => X_callS cf149.h (.cons (EN ha (.tmp rfl rfl) rfl) (.cons (EN ha (.tmp rfl rfl) rfl) (.cons (EN ha (.tmp rfl rfl) rfl) .nil))) (s_MatchAtom_ok x11 p39.1 p39.2 a_a v1_1 x28 p42 _ hx45)) (fun p46 => ?_)
     refine Dm (.tuple [(.agg [p46.1.v, p46.2.2.1.v].toArray), (.bool r44.2)].toArray) rfl rfl rfl rfl ?_
     refine D_val rfl .no (fun ha => V_extract (l := [(.agg [p46.1.v, p46.2.2.1.v].toArray), (.bool r44.2)]) (v := (.agg [p46.1.v, p46.2.2.1.v].toArray)) (EN ha (.tmp rfl rfl) rfl) rfl) ?_
     refine D_val rfl .no (fun ha => V_extract (l := [(.agg [p46.1.v, p46.2.2.1.v].toArray), (.bool r44.2)]) (v := (.bool r44.2)) (EN ha (.tmp rfl rfl) rfl) rfl) ?_
     refine D_act1 rfl rfl .no (.cons (.t (.t .h)) .nil) (.dep rfl .nil) (fun ha => X_storeB (e' := (.agg [p46.1.v, p46.2.2.1.v].toArray)) (v := (.agg [p46.1.v, p46.2.2.1.v].toArray)) ty126.h.sz (EN ha (.tmp rfl rfl) rfl) (EN ha (.tmp rfl rfl) rfl) rfl rfl rfl rfl rfl) (fun _ => ?_)
     refine Da (.bool r44.2) rfl rfl rfl rfl ?_
     refine D_nil (K_region (Cm (.bool r44.2) rfl rfl ?_))
     refine C_nil (CW_cond (b := r44.2) (.tmp rfl rfl) (fun hb51 => ?_) (fun hb51 => ?_))
     · rw [if_pos hb51] at hF
       refine CW_region (Cm v21.v rfl rfl ?_)
       refine C_at .h (fun hp => V_loadBox ag126.h ty126.h.sz rfl (.tmp rfl rfl) hp.2 rfl) ?_
       refine C_new rfl (N_buildSliceT (g := true) sl106.h ty126.h (.cons (.tmp rfl rfl) .nil) (vs := [(.agg [p46.1.v, p46.2.2.1.v].toArray)]) rfl rfl rfl (by intro v hv; simp at hv; rcases hv with rfl <;> rfl)) (fun k47 => ?_)
       refine C_conv (.cons .h (.cons (.t .h) (.cons (.t .h) .nil))) (own_lit (Ro := ow126) (E := 126) (F := ((p46.2.1 ++ p46.2.2.2) ++ [])) (xs := ([r44.1] : List Binding)) (MkL_cons mk126 MkL_nil apps) rfl rfl) apps ?_
       obtain ⟨z48, hx49, hF⟩ := bind_some hF
       refine C_x1 (.cons (.t (.t (.t (.t (.t (.t (.t (.t (.t (.t (.t .h))))))))))) (.cons .h .nil)) (X_appendO (Ro := ow126) sl106.h ni106 ty126.h rfl rfl rfl (.tmp rfl rfl) (.tmp rfl rfl) hx49 src_own) (fun p50 => ?_)
       refine Ca p50.1.v rfl rfl ?_
       refine C_nil ?_
       obtain rfl := Option.some.inj hF
       exact ⟨_, p50.1, p50.2, _, rfl, (EqL.cons rfl (EqL.cons rfl (EqL.cons rfl (EqL.cons rfl (EqL.cons rfl (EqL.cons rfl (EqL.nil))))))).eq, (.sel (.rd (.t (.t (.t (.t (.t (.t (.t .h))))))) rfl (.rd (.t (.t (.t (.t (.t (.t (.t (.t .h)))))))) rfl (.rd (.t (.t (.t (.t (.t (.t (.t (.t (.t .h))))))))) rfl (.rd (.t (.t (.t (.t (.t (.t (.t (.t (.t (.t .h)))))))))) rfl (.cons .h .nil))))))⟩
     rw [if_neg (by rw [hb51]; exact Bool.false_ne_true)] at hF
     refine CW_skip ?_
     obtain rfl := Option.some.inj hF
     exact ⟨_, v21, F22, _, rfl, (EqL.cons rfl (EqL.cons rfl (EqL.cons rfl (EqL.cons rfl (EqL.cons rfl (EqL.cons rfl (EqL.nil))))))).eq, (.sel (.rd (.t (.t (.t (.t (.t (.t (.t (.t .h)))))))) rfl (.rd (.t (.t (.t (.t (.t (.t (.t (.t (.t .h))))))))) rfl (.rd (.t (.t (.t (.t (.t (.t (.t (.t (.t (.t .h)))))))))) rfl (.rd (.t (.t (.t (.t (.t (.t (.t (.t (.t (.t (.t .h))))))))))) rfl (.cons (.t (.t (.t (.t (.t (.t (.t (.t (.t (.t (.t (.t .h)))))))))))) .nil))))))⟩
   rintro _ _ ⟨c52, v53, F54, g56, rfl, rfl, hE⟩
   replace hF := hO36
   clear hO36
   try dsimp only at hF
   refine K_ent hE ?_
   refine CW_region (Cm (.int .i64 (k26 : Int)) rfl rfl ?_)
   refine C_val (V_add (i := (k26 : Int)) (j := 1) (.tmp rfl rfl) (.int _ _)) ?_
   refine Ca (.int .i64 (IntKind.i64.wrap ((k26 : Int) + 1))) rfl rfl ?_
   refine C_nil ?_
   have hw55 : IntKind.i64.wrap ((k26 : Int) + 1) = ((k26 + 1 : Nat) : Int) := by rw [wrap_in (by omega) (by omega)]; rfl
   rw [hw55]
   exact ⟨_, Nat.lt_succ_self _, _, k26 + 1, rest27, _, v53, F54, rfl, (EqL.cons rfl (EqL.cons rfl (EqL.cons rfl (EqL.cons rfl (EqL.cons rfl (EqL.cons rfl (EqL.nil))))))).eq, hd32, (.sel (.rd .h rfl (.rd (.t .h) rfl (.rd (.t (.t .h)) rfl (.rd (.t (.t (.t .h))) rfl (.cons (.t (.t (.t (.t .h)))) .nil)))))), hF⟩
 rintro _ _ ⟨c57, v58, F59, g61, rfl, rfl, hE⟩
 replace hF := hO19
 clear hO19
 try dsimp only at hF
 refine K_ent hE ?_
 refine CW_region (Cm (.int .i64 (k9 : Int)) rfl rfl ?_)
 refine C_val (V_add (i := (k9 : Int)) (j := 1) (.tmp rfl rfl) (.int _ _)) ?_
 refine Ca (.int .i64 (IntKind.i64.wrap ((k9 : Int) + 1))) rfl rfl ?_
 refine C_nil ?_
 have hw60 : IntKind.i64.wrap ((k9 : Int) + 1) = ((k9 + 1 : Nat) : Int) := by rw [wrap_in (by omega) (by omega)]; rfl
 rw [hw60]
 exact ⟨_, Nat.lt_succ_self _, _, k9 + 1, rest10, _, v58, F59, rfl, (EqL.cons rfl (EqL.cons rfl (EqL.cons rfl (EqL.cons rfl (EqL.cons rfl (EqL.nil)))))).eq, hd15, (.sel (.rd .h rfl (.rd (.t .h) rfl (.rd (.t (.t .h)) rfl (.rd (.t (.t (.t .h))) rfl (.cons (.t (.t (.t (.t .h)))) .nil)))))), hF⟩
def s_BindingsOf_L1 (a_facts : List Fact) : List Atom → Nat → (List Binding) → Option ((List Binding))
 | [], k9, c3 => some c3
 | x11 :: rest10, k9, c3 => (s_l4Extend c3 x11 a_facts).bind fun r21 =>
   s_BindingsOf_L1 a_facts rest10 (k9 + 1) r21
def s_BindingsOf (a_q : Query) (a_facts : List Fact) : Option ((List Binding)) :=
 s_BindingsOf_L1 a_facts a_q.Atoms 0 ([({ Vars := [], Values := [] } : Binding)] : List Binding)
theorem s_BindingsOf_ok (a_q : Query) (v0_0 : Sv) (v0_1 : Sv) (a_facts : List Fact) (v1_0 : Sv) (R : (List Binding)) (hF : s_BindingsOf a_q a_facts = some R) :
   Fw.Spec Tryz.prog 74 [(.agg [v0_0.v, v0_1.v].toArray), v1_0.v] [crd (RdS 3 rdInt) v0_0.v a_q.Head, crd (RdS 102 rd102) v0_1.v a_q.Atoms, crd (RdS 80 rd80) v1_0.v a_facts] (fun p : Sv × List Nat => p.1.v) (fun p => [cown (OwnS 126 ow126) p.2 p.1.v R]) := by
 refine Spec_enter (n := 25) Tryz.func74 rfl rfl (rs := [.tmp 4]) rfl rfl rfl ?_
 intro H0 F0
 unfold s_BindingsOf at hF
 refine au ?_
 refine AbR (fun k1 => ?_)
 iterate 3 refine au ?_
 refine C_val (V_build ty126.h rfl (vs := []) .nil (cells := [(.slice none 0 0), (.slice none 0 0)]) rfl) ?_
 refine C_new rfl (N_buildSliceT (g := true) sl106.h ty126.h (.cons (.tmp rfl rfl) .nil) (vs := [(.agg [(.slice none 0 0), (.slice none 0 0)].toArray)]) rfl rfl rfl (by intro v hv; simp at hv; rcases hv with rfl <;> rfl)) (fun k2 => ?_)
 iterate 2 refine C_conv .nil (own_nil (Ro := (roE rdInt)) (E := 3)) apps ?_
 refine Cv1 (.cons (.t (.t .h)) (.cons (.t .h) (.cons .h .nil))) (own_lit (Ro := ow126) (E := 126) (F := (([] ++ []) ++ [])) (xs := ([({ Vars := [], Values := [] } : Binding)] : List Binding)) (MkL_cons (mk126 (v0 := ⟨none, 0, 0⟩) (v1 := ⟨none, 0, 0⟩) (a := ({ Vars := [], Values := [] } : Binding))) MkL_nil apps) rfl rfl) ?_
 iterate 6 refine au ?_
 refine CW_block (CW_loop (m := a_q.Atoms.length) (fun m7 f' cs' => ∃ (g : Fr) (k9 : Nat) (rest10 : List Atom) (c3 : List Binding) (v4 : Sv) (F5 : List Nat), m7 = rest10.length ∧ f' = updL g [(1, v1_0.v), (2, (.pointer (some ⟨k1, 0, some 0⟩))), (5, v4.v), (6, (.int .i64 (k9 : Int)))] ∧ List.drop k9 a_q.Atoms = rest10 ∧ Ent cs' [crd (RdS 80 rd80) v1_0.v a_facts, cboR k1 38 (.agg [v0_0.v, v0_1.v].toArray), crd (RdS 3 rdInt) v0_0.v a_q.Head, crd (RdS 102 rd102) v0_1.v a_q.Atoms, cown (OwnS 126 ow126) F5 v4.v c3] ∧ s_BindingsOf_L1 a_facts rest10 k9 c3 = some R) ⟨_, 0, _, _, ⟨(some ⟨k2, 0, none⟩), 1, 1⟩, (k2 :: (([] ++ []) ++ [])), rfl, eqA, rfl, entA, hF⟩ ?_)
 clear hF
 rintro m7 _ _ ⟨g8, k9, rest10, c3, v4, F5, rfl, rfl, hd12, hE, hF⟩
 refine K_ent hE ?_
 clear hE
 refine K_pure (c := crd (RdS 102 rd102) v0_1.v a_q.Atoms) (.t (.t (.t .h))) crd_bound (fun hbd17 => ?_)
 rcases rest10 with _ | ⟨x11, rest10⟩
 · have hk13 := List.drop_eq_nil_iff.1 hd12
   rw [s_BindingsOf_L1] at hF
   iterate 8 refine au ?_
   refine CdF ?_
   iterate 9 refine au ?_
   cases hF
   exact Er (v4, F5)
 obtain ⟨hk13, hx14, hd15⟩ := drop_cons hd12
 rw [s_BindingsOf_L1] at hF
 iterate 8 refine au ?_
 refine CdT ?_
 iterate 7 refine au ?_
 refine Ai hx14 (fun k18 j19 => ?_)
 refine AlA1 (ul102_0_102 x11) la102_0_102 (fun p20 => ?_)
 refine au ?_
 obtain ⟨r21, hx22, hF⟩ := bind_some hF
 refine C_x2 (.cons (.t (.t (.t (.t (.t (.t .h)))))) (.rd .h rfl (.rd (.t (.t .h)) rfl .nil))) (XC_bor frz_own (fun _ => (.cons .nil)) (X_callS cf109.h (.cons (.tmp rfl rfl) (.cons (.tmp rfl rfl) (.cons (.tmp rfl rfl) .nil))) (s_l4Extend_ok c3 v4 x11 p20 a_facts v1_0 _ hx22))) (fun p23 => ?_)
 iterate 7 refine au ?_
 rw [wk k9]
 exact ⟨_, Nat.lt_succ_self _, _, k9 + 1, rest10, _, p23.1, p23.2, rfl, eqA, hd15, entA, hF⟩
def s_l4Less_L1 (a_a : List Int) (a_b : List Int) : Nat → Int → Option (Bool)
 | 0, _ => none
 | m2 + 1, c1 => if ((decide ((c1 : Int) < (a_a.length : Int))) && (decide ((c1 : Int) < (a_b.length : Int)))) then (
     (ix a_a c1).bind fun x12 =>
     (ix a_b c1).bind fun x18 =>
     if ((x12 : Int) != x18) then (
       (ix a_a c1).bind fun x24 =>
       (ix a_b c1).bind fun x30 =>
       some (decide ((x24 : Int) < x30)))
     else (
       s_l4Less_L1 a_a a_b m2 (IntKind.i64.wrap (c1 + 1))))
   else (
     some (decide (((a_a.length : Int) : Int) < (a_b.length : Int))))
def s_l4Less (a_a : List Int) (a_b : List Int) : Option (Bool) :=
 s_l4Less_L1 a_a a_b (((a_a.length : Int) - 0).toNat + 2) 0
theorem s_l4Less_ok (a_a : List Int) (v0_0 : Sv) (a_b : List Int) (v1_0 : Sv) (R : Bool) (hF : s_l4Less a_a a_b = some R) :
   Fw.Spec Tryz.prog 148 [v0_0.v, v1_0.v] [crd (RdS 3 rdInt) v0_0.v a_a, crd (RdS 3 rdInt) v1_0.v a_b] (fun _ : Unit => (.bool R)) (fun _ => []) := by
 refine Spec_enter (n := 41) Tryz.func148 rfl rfl (rs := [.tmp 4]) rfl rfl rfl ?_
 intro H0 F0
 unfold s_l4Less at hF
 iterate 7 refine au ?_
 refine CW_block (CW_loop (m := (((a_a.length : Int) - 0).toNat + 2)) (fun m2 f' cs' => ∃ (g : Fr) (c1 : Int), f' = updL g [(0, v0_0.v), (1, v1_0.v), (5, (.int .i64 c1))] ∧ Ent cs' [crd (RdS 3 rdInt) v0_0.v a_a, crd (RdS 3 rdInt) v1_0.v a_b] ∧ s_l4Less_L1 a_a a_b m2 c1 = some R) ⟨_, _, eqA, entA, hF⟩ ?_)
 clear hF
 rintro m2 _ _ ⟨g3, c1, rfl, hE, hF⟩
 refine K_ent hE ?_
 clear hE
 rcases m2 with _ | m2
 · rw [s_l4Less_L1] at hF
   exact absurd hF (by simp)
 rw [s_l4Less_L1] at hF
 iterate 2 refine au ?_
 refine C_cut (fun f' cs' => ∃ (g : Fr), f' = updL g [(0, v0_0.v), (1, v1_0.v), (5, (.int .i64 c1)), (15, (.bool ((decide ((c1 : Int) < (a_a.length : Int))) && (decide ((c1 : Int) < (a_b.length : Int))))))] ∧ Ent cs' [crd (RdS 3 rdInt) v0_0.v a_a, crd (RdS 3 rdInt) v1_0.v a_b]) ?_ ?_
 · iterate 5 refine au ?_
   rcases Bool.eq_false_or_eq_true (decide ((c1 : Int) < (a_a.length : Int))) with hg10 | hg10
   · rw [hg10]
     try rw [hg10] at hF; dsimp only [cond_true, cond_false] at hF
     iterate 10 refine au ?_
     exact ⟨_, eqA, entA⟩
   rw [hg10]
   try rw [hg10] at hF; dsimp only [cond_true, cond_false] at hF
   iterate 6 refine au ?_
   exact ⟨_, eqA, entA⟩
 rintro _ _ ⟨g11, rfl, hE⟩
 refine K_ent hE ?_
 refine Cc (fun hb37 => ?_) (fun hb37 => ?_)
 · rw [if_pos hb37] at hF
   iterate 2 refine au ?_
   refine K_draw [0, 1, 2, 3, 4, 5, 6, 7, 8] [0, 0, 3, 7, 0, 0, 48, 112, 255] [] mixed (by decide +kernel) ?_
   iterate 2 refine du ?_
   obtain ⟨x12, hx13, hF⟩ := bind_some hF
   obtain ⟨hp14, hx15⟩ := ix_some hx13
   refine Di hx15 (fun k16 j17 => ?_)
   refine Dl ls3_0 ?_
   iterate 2 refine du ?_
   obtain ⟨x18, hx19, hF⟩ := bind_some hF
   obtain ⟨hp20, hx21⟩ := ix_some hx19
   refine Di hx21 (fun k22 j23 => ?_)
   refine Dl ls3_0 ?_
   iterate 2 refine du ?_
   refine Cc (fun hb36 => ?_) (fun hb36 => ?_)
   · rw [if_pos hb36] at hF
     refine K_draw [0, 1, 2, 3, 4, 5, 6, 7, 8, 9] [0, 0, 3, 7, 0, 0, 48, 112, 255, 511] [] mixed (by decide +kernel) ?_
     iterate 2 refine du ?_
     obtain ⟨x24, hx25, hF⟩ := bind_some hF
     obtain ⟨hp26, hx27⟩ := ix_some hx25
     refine Di hx27 (fun k28 j29 => ?_)
     refine Dl ls3_0 ?_
     iterate 2 refine du ?_
     obtain ⟨x30, hx31, hF⟩ := bind_some hF
     obtain ⟨hp32, hx33⟩ := ix_some hx31
     refine Di hx33 (fun k34 j35 => ?_)
     refine Dl ls3_0 ?_
     iterate 3 refine du ?_
     refine au ?_
     cases hF
     exact Er ()
   rw [if_neg (nt hb36)] at hF
   iterate 6 refine au ?_
   exact ⟨m2, Nat.lt_succ_self _, _, _, eqA, entA, hF⟩
 rw [if_neg (nt hb37)] at hF
 iterate 13 refine au ?_
 cases hF
 exact Er ()
def s_l2Ints_L1 (a_b : List Int) : List Int → Nat → Option (Bool)
 | [], k4 => some true
 | x6 :: rest5, k4 => (ix a_b (k4 : Int)).bind fun x15 =>
   if ((x6 : Int) != x15) then (
     some false)
   else (
     s_l2Ints_L1 a_b rest5 (k4 + 1))
def s_l2Ints (a_a : List Int) (a_b : List Int) : Option (Bool) :=
 if (((a_a.length : Int) : Int) != (a_b.length : Int)) then (
   some false)
 else (
   s_l2Ints_L1 a_b a_a 0)
theorem s_l2Ints_ok (a_a : List Int) (v0_0 : Sv) (a_b : List Int) (v1_0 : Sv) (R : Bool) (hF : s_l2Ints a_a a_b = some R) :
   Fw.Spec Tryz.prog 60 [v0_0.v, v1_0.v] [crd (RdS 3 rdInt) v0_0.v a_a, crd (RdS 3 rdInt) v1_0.v a_b] (fun _ : Unit => (.bool R)) (fun _ => []) := by
 refine Spec_enter (n := 26) Tryz.func60 rfl rfl (rs := [.tmp 4]) rfl rfl rfl ?_
 intro H0 F0
 unfold s_l2Ints at hF
 iterate 11 refine au ?_
 refine Cc (fun hb23 => ?_) (fun hb23 => ?_)
 · rw [if_pos hb23] at hF
   iterate 4 refine au ?_
   cases hF
   exact Er ()
 rw [if_neg (nt hb23)] at hF
 iterate 5 refine au ?_
 refine CW_block (CW_loop (m := a_a.length) (fun m2 f' cs' => ∃ (g : Fr) (k4 : Nat) (rest5 : List Int), m2 = rest5.length ∧ f' = updL g [(0, v0_0.v), (1, v1_0.v), (5, (.int .i64 (k4 : Int)))] ∧ List.drop k4 a_a = rest5 ∧ Ent cs' [crd (RdS 3 rdInt) v0_0.v a_a, crd (RdS 3 rdInt) v1_0.v a_b] ∧ s_l2Ints_L1 a_b rest5 k4 = some R) ⟨_, 0, _, rfl, eqA, rfl, entA, hF⟩ ?_)
 clear hF
 rintro m2 _ _ ⟨g3, k4, rest5, rfl, rfl, hd7, hE, hF⟩
 refine K_ent hE ?_
 clear hE
 refine K_pure (c := crd (RdS 3 rdInt) v0_0.v a_a) .h crd_bound (fun hbd12 => ?_)
 rcases rest5 with _ | ⟨x6, rest5⟩
 · have hk8 := List.drop_eq_nil_iff.1 hd7
   rw [s_l2Ints_L1] at hF
   iterate 7 refine au ?_
   refine CdF ?_
   iterate 8 refine au ?_
   cases hF
   exact Er ()
 obtain ⟨hk8, hx9, hd10⟩ := drop_cons hd7
 rw [s_l2Ints_L1] at hF
 iterate 7 refine au ?_
 refine CdT ?_
 iterate 2 refine au ?_
 refine K_draw [0, 1, 2, 3, 4, 5, 6, 7, 8] [0, 0, 3, 7, 0, 0, 48, 112, 255] [] mixed (by decide +kernel) ?_
 iterate 2 refine du ?_
 refine Di hx9 (fun k13 j14 => ?_)
 refine Dl ls3_0 ?_
 iterate 2 refine du ?_
 obtain ⟨x15, hx16, hF⟩ := bind_some hF
 obtain ⟨hp17, hx18⟩ := ix_some hx16
 refine Di hx18 (fun k19 j20 => ?_)
 refine Dl ls3_0 ?_
 iterate 2 refine du ?_
 refine Cc (fun hb22 => ?_) (fun hb22 => ?_)
 · rw [if_pos hb22] at hF
   iterate 4 refine au ?_
   cases hF
   exact Er ()
 rw [if_neg (nt hb22)] at hF
 iterate 6 refine au ?_
 rw [wk k4]
 exact ⟨_, Nat.lt_succ_self _, _, k4 + 1, rest5, rfl, eqA, hd10, entA, hF⟩
def s_AddTuple_L2 (a_t : List Int) : List (List Int) → Nat → (List (List Int)) → Bool → Option ((List (List Int)))
 | [], k22, c15, c18 => if (!c18) then (
     (app ([] : List Int) a_t).bind fun z32 =>
     (app c15 ([z32] : List (List Int))).bind fun z36 =>
     some z36)
   else (
     some c15)
 | x24 :: rest23, k22, c15, c18 => ((bif (!c18) then ((s_l4Less a_t x24).bind fun r48 =>
         some r48)
       else (some false)).bind fun o42 =>
     match o42 with
     | c51 => if c51 then (
         (app ([] : List Int) a_t).bind fun z53 =>
         (app c15 ([z53] : List (List Int))).bind fun z57 =>
         (app ([] : List Int) x24).bind fun z64 =>
         (app z57 ([z64] : List (List Int))).bind fun z68 =>
         some (z68, true))
       else (
         (app ([] : List Int) x24).bind fun z75 =>
         (app c15 ([z75] : List (List Int))).bind fun z79 =>
         some (z79, c18))).bind fun o40 =>
   match o40 with
   | (c84, c87) => s_AddTuple_L2 a_t rest23 (k22 + 1) c84 c87
def s_AddTuple_L1 (a_l : List (List Int)) (a_t : List Int) : List (List Int) → Nat → Bool → Option ((List (List Int)))
 | [], k6, c2 => s_AddTuple_L2 a_t a_l 0 ([] : List (List Int)) c2
 | x8 :: rest7, k6, c2 => (bif c2 then (some true)
     else ((s_l2Ints x8 a_t).bind fun r96 =>
       some r96)).bind fun o90 =>
   match o90 with
   | c99 => s_AddTuple_L1 a_l a_t rest7 (k6 + 1) c99
def s_AddTuple (a_l : List (List Int)) (a_t : List Int) : Option ((List (List Int))) :=
 s_AddTuple_L1 a_l a_t a_l 0 false
theorem s_AddTuple_ok (a_l : List (List Int)) (v0_0 : Sv) (a_t : List Int) (v1_0 : Sv) (R : (List (List Int))) (hF : s_AddTuple a_l a_t = some R) :
   Fw.Spec Tryz.prog 108 [v0_0.v, v1_0.v] [crd (RdS 22 (RdS 3 rdInt)) v0_0.v a_l, crd (RdS 3 rdInt) v1_0.v a_t] (fun p : Sv × List Nat => p.1.v) (fun p => [cown (OwnS 22 (OwnS 3 (roE rdInt))) p.2 p.1.v R]) := by
 refine Spec_enter (n := 65) Tryz.func108 rfl rfl (rs := [.tmp 4]) rfl rfl rfl ?_
 intro H0 F0
 unfold s_AddTuple at hF
 iterate 4 refine au ?_
 refine C_new rfl (N_buildSliceT (g := true) sl31.h ty22.h .nil (vs := []) rfl rfl rfl (by simp)) (fun k1 => ?_)
 refine Cv1 (.cons .h .nil) (own_lit (Ro := (OwnS 3 (roE rdInt))) (E := 22) (F := []) (xs := ([] : List (List Int))) MkL_nil rfl rfl) ?_
 iterate 9 refine au ?_
 refine CW_block (CW_loop (m := a_l.length) (fun m4 f' cs' => ∃ (g : Fr) (k6 : Nat) (rest7 : List (List Int)) (c2 : Bool), m4 = rest7.length ∧ f' = updL g [(0, v0_0.v), (1, v1_0.v), (5, (.slice (some ⟨k1, 0, none⟩) 0 1)), (6, (.bool c2)), (7, (.int .i64 (k6 : Int)))] ∧ List.drop k6 a_l = rest7 ∧ Ent cs' [crd (RdS 22 (RdS 3 rdInt)) v0_0.v a_l, crd (RdS 3 rdInt) v1_0.v a_t, cown (OwnS 22 (OwnS 3 (roE rdInt))) (k1 :: []) (.slice (some ⟨k1, 0, none⟩) 0 1) ([] : List (List Int))] ∧ s_AddTuple_L1 a_l a_t rest7 k6 c2 = some R) ⟨_, 0, _, _, rfl, eqA, rfl, entA, hF⟩ ?_)
 clear hF
 rintro m4 _ _ ⟨g5, k6, rest7, c2, rfl, rfl, hd9, hE, hF⟩
 refine K_ent hE ?_
 clear hE
 refine K_pure (c := crd (RdS 22 (RdS 3 rdInt)) v0_0.v a_l) .h crd_bound (fun hbd14 => ?_)
 rcases rest7 with _ | ⟨x8, rest7⟩
 · have hk10 := List.drop_eq_nil_iff.1 hd9
   rw [s_AddTuple_L1] at hF
   iterate 7 refine au ?_
   refine CdF ?_
   iterate 8 refine au ?_
   refine CW_block (CW_loop (m := a_l.length) (fun m20 f' cs' => ∃ (g : Fr) (k22 : Nat) (rest23 : List (List Int)) (c15 : List (List Int)) (c18 : Bool) (v16 : Sv) (F17 : List Nat), m20 = rest23.length ∧ f' = updL g [(0, v0_0.v), (1, v1_0.v), (5, v16.v), (6, (.bool c18)), (8, (.int .i64 (k22 : Int)))] ∧ List.drop k22 a_l = rest23 ∧ Ent cs' [crd (RdS 22 (RdS 3 rdInt)) v0_0.v a_l, crd (RdS 3 rdInt) v1_0.v a_t, cown (OwnS 22 (OwnS 3 (roE rdInt))) F17 v16.v c15] ∧ s_AddTuple_L2 a_t rest23 k22 c15 c18 = some R) ⟨_, 0, _, _, _, ⟨(some ⟨k1, 0, none⟩), 0, 1⟩, (k1 :: []), rfl, eqA, rfl, entA, hF⟩ ?_)
   clear hF
   rintro m20 _ _ ⟨g21, k22, rest23, c15, c18, v16, F17, rfl, rfl, hd25, hE, hF⟩
   refine K_ent hE ?_
   clear hE
   refine K_pure (c := crd (RdS 22 (RdS 3 rdInt)) v0_0.v a_l) .h crd_bound (fun hbd30 => ?_)
   rcases rest23 with _ | ⟨x24, rest23⟩
   · have hk26 := List.drop_eq_nil_iff.1 hd25
     rw [s_AddTuple_L2] at hF
     iterate 7 refine au ?_
     refine CdF ?_
     iterate 9 refine au ?_
     refine Cc (fun hb39 => ?_) (fun hb39 => ?_)
     · rw [if_pos hb39] at hF
       iterate 2 refine au ?_
       refine C_new rfl (N_buildSliceT (g := true) sl22.h ty3.h .nil (vs := []) rfl rfl rfl (by simp)) (fun k31 => ?_)
       refine Cv1 (.cons .h .nil) (own_lit (Ro := (roE rdInt)) (E := 3) (F := []) (xs := ([] : List Int)) MkL_nil rfl rfl) ?_
       refine au ?_
       obtain ⟨z32, hx33, hF⟩ := bind_some hF
       refine C_x1 (.cons .h (.rd (.t .h) rfl .nil)) (X_appendO (Ro := (roE rdInt)) sl22.h ni22 ty3.h rfl rfl rfl (.tmp rfl rfl) (.tmp rfl rfl) hx33 src_rd) (fun p34 => ?_)
       refine C_new rfl (N_buildSliceT (g := true) sl31.h ty22.h (.cons (.tmp rfl rfl) .nil) (vs := [p34.1.v]) rfl rfl rfl (by intro v hv; simp at hv; rcases hv with rfl <;> rfl)) (fun k35 => ?_)
       refine Cv1 (.cons .h (.cons .h .nil)) (own_lit (Ro := (OwnS 3 (roE rdInt))) (E := 22) (F := (p34.2 ++ [])) (xs := ([z32] : List (List Int))) (MkL_cons Mk_own MkL_nil apps) rfl rfl) ?_
       obtain ⟨z36, hx37, hF⟩ := bind_some hF
       refine C_x1 (.cons (.t (.t (.t .h))) (.cons .h .nil)) (X_appendO (Ro := (OwnS 3 (roE rdInt))) sl31.h ni31 ty22.h rfl rfl rfl (.tmp rfl rfl) (.tmp rfl rfl) hx37 src_own) (fun p38 => ?_)
       iterate 7 refine au ?_
       cases hF
       exact Er (p38.1, p38.2)
     rw [if_neg (nt hb39)] at hF
     iterate 6 refine au ?_
     cases hF
     exact Er (v16, F17)
   obtain ⟨hk26, hx27, hd28⟩ := drop_cons hd25
   rw [s_AddTuple_L2] at hF
   iterate 7 refine au ?_
   refine CdT ?_
   refine au ?_
   obtain ⟨o40, hio40, hO41⟩ := bind_some hF
   refine K_cut (fun f' cs' => ∃ (c84 : List (List Int)) (c87 : Bool) (v85 : Sv) (F86 : List Nat) (g : Fr), o40 = (c84, c87) ∧ f' = updL g [(0, v0_0.v), (1, v1_0.v), (5, v85.v), (6, (.bool c87)), (8, (.int .i64 (k22 : Int)))] ∧ Ent cs' [crd (RdS 22 (RdS 3 rdInt)) v0_0.v a_l, crd (RdS 3 rdInt) v1_0.v a_t, cown (OwnS 22 (OwnS 3 (roE rdInt))) F86 v85.v c84]) ?_ ?_
   · replace hF := hio40
     refine CW_block (K_in ?_)
     obtain ⟨o42, hio42, hO43⟩ := bind_some hF
     refine au ?_
     refine C_cut (fun f' cs' => ∃ (c51 : Bool) (g : Fr), c51 = o42 ∧ f' = updL g [(0, v0_0.v), (1, v1_0.v), (5, v16.v), (6, (.bool c18)), (8, (.int .i64 (k22 : Int))), (40, (.bool c51))] ∧ Ent cs' [crd (RdS 22 (RdS 3 rdInt)) v0_0.v a_l, crd (RdS 3 rdInt) v1_0.v a_t, cown (OwnS 22 (OwnS 3 (roE rdInt))) F17 v16.v c15]) ?_ ?_
     · replace hF := hio42
       iterate 3 refine au ?_
       rcases Bool.eq_false_or_eq_true (!c18) with hg44 | hg44
       · rw [hg44]
         try rw [hg44] at hF; dsimp only [cond_true, cond_false] at hF
         iterate 7 refine au ?_
         refine Ai hx27 (fun k45 j46 => ?_)
         refine au ?_
         refine C_ldV (R' := (RdS 3 rdInt)) ag22.h (.tmp rfl rfl) .h lv22_0 (fun w47 => ?_)
         refine au ?_
         obtain ⟨r48, hx49, hF⟩ := bind_some hF
         refine Cx0 (s_l4Less_ok _ _ _ _ _ hx49) (fun _ => ?_)
         iterate 2 refine au ?_
         cases hF
         exact ⟨_, _, rfl, eqA, entA⟩
       rw [hg44]
       try rw [hg44] at hF; dsimp only [cond_true, cond_false] at hF
       iterate 8 refine au ?_
       cases hF
       exact ⟨_, _, rfl, eqA, entA⟩
     rintro _ _ ⟨c51, g83, rfl, rfl, hE⟩
     replace hF := hO43
     clear hO43
     try dsimp only at hF
     refine K_ent hE ?_
     refine Cc (fun hb82 => ?_) (fun hb82 => ?_)
     · rw [if_pos hb82] at hF
       iterate 2 refine au ?_
       refine C_new rfl (N_buildSliceT (g := true) sl22.h ty3.h .nil (vs := []) rfl rfl rfl (by simp)) (fun k52 => ?_)
       refine Cv1 (.cons .h .nil) (own_lit (Ro := (roE rdInt)) (E := 3) (F := []) (xs := ([] : List Int)) MkL_nil rfl rfl) ?_
       refine au ?_
       obtain ⟨z53, hx54, hF⟩ := bind_some hF
       refine C_x1 (.cons .h (.rd (.t .h) rfl .nil)) (X_appendO (Ro := (roE rdInt)) sl22.h ni22 ty3.h rfl rfl rfl (.tmp rfl rfl) (.tmp rfl rfl) hx54 src_rd) (fun p55 => ?_)
       refine C_new rfl (N_buildSliceT (g := true) sl31.h ty22.h (.cons (.tmp rfl rfl) .nil) (vs := [p55.1.v]) rfl rfl rfl (by intro v hv; simp at hv; rcases hv with rfl <;> rfl)) (fun k56 => ?_)
       refine Cv1 (.cons .h (.cons .h .nil)) (own_lit (Ro := (OwnS 3 (roE rdInt))) (E := 22) (F := (p55.2 ++ [])) (xs := ([z53] : List (List Int))) (MkL_cons Mk_own MkL_nil apps) rfl rfl) ?_
       obtain ⟨z57, hx58, hF⟩ := bind_some hF
       refine C_x1 (.cons (.t (.t (.t .h))) (.cons .h .nil)) (X_appendO (Ro := (OwnS 3 (roE rdInt))) sl31.h ni31 ty22.h rfl rfl rfl (.tmp rfl rfl) (.tmp rfl rfl) hx58 src_own) (fun p59 => ?_)
       iterate 7 refine au ?_
       refine C_new rfl (N_buildSliceT (g := true) sl22.h ty3.h .nil (vs := []) rfl rfl rfl (by simp)) (fun k60 => ?_)
       refine Cv1 (.cons .h .nil) (own_lit (Ro := (roE rdInt)) (E := 3) (F := []) (xs := ([] : List Int)) MkL_nil rfl rfl) ?_
       iterate 2 refine au ?_
       refine Ai hx27 (fun k61 j62 => ?_)
       refine C_ldV (R' := (RdS 3 rdInt)) ag22.h (.tmp rfl rfl) .h lv22_0 (fun w63 => ?_)
       obtain ⟨z64, hx65, hF⟩ := bind_some hF
       refine C_x1 (.cons (.t (.t .h)) (.rd .h rfl .nil)) (X_appendO (Ro := (roE rdInt)) sl22.h ni22 ty3.h rfl rfl rfl (.tmp rfl rfl) (.tmp rfl rfl) hx65 src_rd) (fun p66 => ?_)
       refine C_new rfl (N_buildSliceT (g := true) sl31.h ty22.h (.cons (.tmp rfl rfl) .nil) (vs := [p66.1.v]) rfl rfl rfl (by intro v hv; simp at hv; rcases hv with rfl <;> rfl)) (fun k67 => ?_)
       refine Cv1 (.cons .h (.cons .h .nil)) (own_lit (Ro := (OwnS 3 (roE rdInt))) (E := 22) (F := (p66.2 ++ [])) (xs := ([z64] : List (List Int))) (MkL_cons Mk_own MkL_nil apps) rfl rfl) ?_
       obtain ⟨z68, hx69, hF⟩ := bind_some hF
       refine C_x1 (.cons (.t (.t (.t .h))) (.cons .h .nil)) (X_appendO (Ro := (OwnS 3 (roE rdInt))) sl31.h ni31 ty22.h rfl rfl rfl (.tmp rfl rfl) (.tmp rfl rfl) hx69 src_own) (fun p70 => ?_)
       iterate 2 refine au ?_
       cases hF
       exact ⟨_, _, p70.1, p70.2, _, rfl, eqA, entA⟩
     rw [if_neg (nt hb82)] at hF
     iterate 3 refine au ?_
     refine C_new rfl (N_buildSliceT (g := true) sl22.h ty3.h .nil (vs := []) rfl rfl rfl (by simp)) (fun k71 => ?_)
     refine Cv1 (.cons .h .nil) (own_lit (Ro := (roE rdInt)) (E := 3) (F := []) (xs := ([] : List Int)) MkL_nil rfl rfl) ?_
     iterate 2 refine au ?_
     refine Ai hx27 (fun k72 j73 => ?_)
     refine C_ldV (R' := (RdS 3 rdInt)) ag22.h (.tmp rfl rfl) .h lv22_0 (fun w74 => ?_)
     obtain ⟨z75, hx76, hF⟩ := bind_some hF
     refine C_x1 (.cons (.t (.t .h)) (.rd .h rfl .nil)) (X_appendO (Ro := (roE rdInt)) sl22.h ni22 ty3.h rfl rfl rfl (.tmp rfl rfl) (.tmp rfl rfl) hx76 src_rd) (fun p77 => ?_)
     refine C_new rfl (N_buildSliceT (g := true) sl31.h ty22.h (.cons (.tmp rfl rfl) .nil) (vs := [p77.1.v]) rfl rfl rfl (by intro v hv; simp at hv; rcases hv with rfl <;> rfl)) (fun k78 => ?_)
     refine Cv1 (.cons .h (.cons .h .nil)) (own_lit (Ro := (OwnS 3 (roE rdInt))) (E := 22) (F := (p77.2 ++ [])) (xs := ([z75] : List (List Int))) (MkL_cons Mk_own MkL_nil apps) rfl rfl) ?_
     obtain ⟨z79, hx80, hF⟩ := bind_some hF
     refine C_x1 (.cons (.t (.t (.t (.t (.t .h))))) (.cons .h .nil)) (X_appendO (Ro := (OwnS 3 (roE rdInt))) sl31.h ni31 ty22.h rfl rfl rfl (.tmp rfl rfl) (.tmp rfl rfl) hx80 src_own) (fun p81 => ?_)
     iterate 2 refine au ?_
     cases hF
     exact ⟨_, _, p81.1, p81.2, _, rfl, eqA, entA⟩
   rintro _ _ ⟨c84, c87, v85, F86, g89, rfl, rfl, hE⟩
   replace hF := hO41
   clear hO41
   try dsimp only at hF
   refine K_ent hE ?_
   iterate 5 refine au ?_
   rw [wk k22]
   exact ⟨_, Nat.lt_succ_self _, _, k22 + 1, rest23, _, _, v85, F86, rfl, eqA, hd28, entA, hF⟩
 obtain ⟨hk10, hx11, hd12⟩ := drop_cons hd9
 rw [s_AddTuple_L1] at hF
 iterate 7 refine au ?_
 refine CdT ?_
 iterate 2 refine au ?_
 obtain ⟨o90, hio90, hO91⟩ := bind_some hF
 refine au ?_
 refine C_cut (fun f' cs' => ∃ (c99 : Bool) (g : Fr), c99 = o90 ∧ f' = updL g [(0, v0_0.v), (1, v1_0.v), (5, (.slice (some ⟨k1, 0, none⟩) 0 1)), (6, (.bool c99)), (7, (.int .i64 (k6 : Int)))] ∧ Ent cs' [crd (RdS 22 (RdS 3 rdInt)) v0_0.v a_l, crd (RdS 3 rdInt) v1_0.v a_t, cown (OwnS 22 (OwnS 3 (roE rdInt))) (k1 :: []) (.slice (some ⟨k1, 0, none⟩) 0 1) ([] : List (List Int))]) ?_ ?_
 · replace hF := hio90
   iterate 2 refine au ?_
   rcases Bool.eq_false_or_eq_true c2 with hg92 | hg92
   · rw [hg92]
     try rw [hg92] at hF; dsimp only [cond_true, cond_false] at hF
     iterate 9 refine au ?_
     cases hF
     exact ⟨_, _, rfl, eqA, entA⟩
   rw [hg92]
   try rw [hg92] at hF; dsimp only [cond_true, cond_false] at hF
   iterate 5 refine au ?_
   refine Ai hx11 (fun k93 j94 => ?_)
   refine au ?_
   refine C_ldV (R' := (RdS 3 rdInt)) ag22.h (.tmp rfl rfl) .h lv22_0 (fun w95 => ?_)
   iterate 3 refine au ?_
   obtain ⟨r96, hx97, hF⟩ := bind_some hF
   refine Cx0 (s_l2Ints_ok _ _ _ _ _ hx97) (fun _ => ?_)
   iterate 3 refine au ?_
   cases hF
   exact ⟨_, _, rfl, eqA, entA⟩
 rintro _ _ ⟨c99, g101, rfl, rfl, hE⟩
 replace hF := hO91
 clear hO91
 try dsimp only at hF
 refine K_ent hE ?_
 iterate 5 refine au ?_
 rw [wk k6]
 exact ⟨_, Nat.lt_succ_self _, _, k6 + 1, rest7, _, rfl, eqA, hd12, entA, hF⟩
def s_l4Tuples_L2 (c3 : List (List Int)) (x11 : Binding) : List Int → Nat → (List Int) → Option ((List (List Int)))
 | [], k27, c21 => (s_AddTuple c3 c21).bind fun r36 =>
   some r36
 | x29 :: rest28, k27, c21 => (s_ValueOf x11 x29).bind fun r44 =>
   (app c21 ([r44] : List Int)).bind fun z48 =>
   s_l4Tuples_L2 c3 x11 rest28 (k27 + 1) z48
def s_l4Tuples_L1 (a_q : Query) : List Binding → Nat → (List (List Int)) → Option ((List (List Int)))
 | [], k9, c3 => some c3
 | x11 :: rest10, k9, c3 => (s_l4Tuples_L2 c3 x11 a_q.Head 0 ([] : List Int)).bind fun o18 =>
   match o18 with
   | c52 => s_l4Tuples_L1 a_q rest10 (k9 + 1) c52
def s_l4Tuples (a_q : Query) (a_l : List Binding) : Option ((List (List Int))) :=
 s_l4Tuples_L1 a_q a_l 0 ([] : List (List Int))
theorem s_l4Tuples_ok (a_q : Query) (v0_0 : Sv) (v0_1 : Sv) (a_l : List Binding) (v1_0 : Sv) (R : (List (List Int))) (hF : s_l4Tuples a_q a_l = some R) :
   Fw.Spec Tryz.prog 73 [(.agg [v0_0.v, v0_1.v].toArray), v1_0.v] [crd (RdS 3 rdInt) v0_0.v a_q.Head, crd (RdS 102 rd102) v0_1.v a_q.Atoms, crd (RdS 126 rd126) v1_0.v a_l] (fun p : Sv × List Nat => p.1.v) (fun p => [cown (OwnS 22 (OwnS 3 (roE rdInt))) p.2 p.1.v R]) := by
 refine Spec_enter (n := 41) Tryz.func73 rfl rfl (rs := [.tmp 4]) rfl rfl rfl ?_
 intro H0 F0
 unfold s_l4Tuples at hF
 refine au ?_
 refine AbR (fun k1 => ?_)
 iterate 3 refine au ?_
 refine C_new rfl (N_buildSliceT (g := true) sl31.h ty22.h .nil (vs := []) rfl rfl rfl (by simp)) (fun k2 => ?_)
 refine Cv1 (.cons .h .nil) (own_lit (Ro := (OwnS 3 (roE rdInt))) (E := 22) (F := []) (xs := ([] : List (List Int))) MkL_nil rfl rfl) ?_
 iterate 6 refine au ?_
 refine CW_block (CW_loop (m := a_l.length) (fun m7 f' cs' => ∃ (g : Fr) (k9 : Nat) (rest10 : List Binding) (c3 : List (List Int)) (v4 : Sv) (F5 : List Nat), m7 = rest10.length ∧ f' = updL g [(1, v1_0.v), (2, (.pointer (some ⟨k1, 0, some 0⟩))), (5, v4.v), (6, (.int .i64 (k9 : Int)))] ∧ List.drop k9 a_l = rest10 ∧ Ent cs' [crd (RdS 126 rd126) v1_0.v a_l, cboR k1 38 (.agg [v0_0.v, v0_1.v].toArray), crd (RdS 3 rdInt) v0_0.v a_q.Head, crd (RdS 102 rd102) v0_1.v a_q.Atoms, cown (OwnS 22 (OwnS 3 (roE rdInt))) F5 v4.v c3] ∧ s_l4Tuples_L1 a_q rest10 k9 c3 = some R) ⟨_, 0, _, _, ⟨(some ⟨k2, 0, none⟩), 0, 1⟩, (k2 :: []), rfl, eqA, rfl, entA, hF⟩ ?_)
 clear hF
 rintro m7 _ _ ⟨g8, k9, rest10, c3, v4, F5, rfl, rfl, hd12, hE, hF⟩
 refine K_ent hE ?_
 clear hE
 refine K_pure (c := crd (RdS 126 rd126) v1_0.v a_l) .h crd_bound (fun hbd17 => ?_)
 rcases rest10 with _ | ⟨x11, rest10⟩
 · have hk13 := List.drop_eq_nil_iff.1 hd12
   rw [s_l4Tuples_L1] at hF
   iterate 7 refine au ?_
   refine CdF ?_
   iterate 9 refine au ?_
   cases hF
   exact Er (v4, F5)
 obtain ⟨hk13, hx14, hd15⟩ := drop_cons hd12
 rw [s_l4Tuples_L1] at hF
 iterate 7 refine au ?_
 refine CdT ?_
 refine au ?_
 obtain ⟨o18, hio18, hO19⟩ := bind_some hF
 refine K_cut (fun f' cs' => ∃ (c52 : List (List Int)) (v53 : Sv) (F54 : List Nat) (g : Fr), c52 = o18 ∧ f' = updL g [(1, v1_0.v), (2, (.pointer (some ⟨k1, 0, some 0⟩))), (5, v53.v), (6, (.int .i64 (k9 : Int)))] ∧ Ent cs' [crd (RdS 126 rd126) v1_0.v a_l, cboR k1 38 (.agg [v0_0.v, v0_1.v].toArray), crd (RdS 3 rdInt) v0_0.v a_q.Head, crd (RdS 102 rd102) v0_1.v a_q.Atoms, cown (OwnS 22 (OwnS 3 (roE rdInt))) F54 v53.v c52]) ?_ ?_
 · replace hF := hio18
   refine CW_block (K_region (C_new rfl (N_buildSliceT (g := true) sl22.h ty3.h .nil (vs := []) rfl rfl rfl (by simp)) (fun k20 => ?_)))
   refine Cv1 (.cons .h .nil) (own_lit (Ro := (roE rdInt)) (E := 3) (F := []) (xs := ([] : List Int)) MkL_nil rfl rfl) ?_
   iterate 6 refine au ?_
   refine CW_block (CW_loop (m := a_q.Head.length) (fun m25 f' cs' => ∃ (g : Fr) (k27 : Nat) (rest28 : List Int) (c21 : List Int) (v22 : Sv) (F23 : List Nat), m25 = rest28.length ∧ f' = updL g [(1, v1_0.v), (2, (.pointer (some ⟨k1, 0, some 0⟩))), (5, v4.v), (6, (.int .i64 (k9 : Int))), (7, v22.v), (8, (.int .i64 (k27 : Int)))] ∧ List.drop k27 a_q.Head = rest28 ∧ Ent cs' [crd (RdS 126 rd126) v1_0.v a_l, cboR k1 38 (.agg [v0_0.v, v0_1.v].toArray), crd (RdS 3 rdInt) v0_0.v a_q.Head, crd (RdS 102 rd102) v0_1.v a_q.Atoms, cown (OwnS 22 (OwnS 3 (roE rdInt))) F5 v4.v c3, cown (OwnS 3 (roE rdInt)) F23 v22.v c21] ∧ s_l4Tuples_L2 c3 x11 rest28 k27 c21 = some o18) ⟨_, 0, _, _, ⟨(some ⟨k20, 0, none⟩), 0, 1⟩, (k20 :: []), rfl, eqA, rfl, entA, hF⟩ ?_)
   clear hF
   rintro m25 _ _ ⟨g26, k27, rest28, c21, v22, F23, rfl, rfl, hd30, hE, hF⟩
   refine K_ent hE ?_
   clear hE
   refine K_pure (c := crd (RdS 3 rdInt) v0_0.v a_q.Head) (.t (.t .h)) crd_bound (fun hbd35 => ?_)
   rcases rest28 with _ | ⟨x29, rest28⟩
   · have hk31 := List.drop_eq_nil_iff.1 hd30
     rw [s_l4Tuples_L2] at hF
     iterate 8 refine au ?_
     refine CdF ?_
     iterate 7 refine au ?_
     obtain ⟨r36, hx37, hF⟩ := bind_some hF
     refine C_x3 (.cons (.t (.t (.t (.t (.t .h))))) (.cons (.t (.t (.t (.t .h)))) .nil)) (XC_borL (pre := []) (.cons frz_own (.cons frz_own .nil)) (fun _ => (.cons .nil)) (X_callS cf108.h (.cons (.tmp rfl rfl) (.cons (.tmp rfl rfl) .nil)) (s_AddTuple_ok c3 v4 c21 v22 _ hx37))) (fun p38 => ?_)
     iterate 2 refine au ?_
     cases hF
     exact ⟨_, p38.1, p38.2, _, rfl, eqA, entA⟩
   obtain ⟨hk31, hx32, hd33⟩ := drop_cons hd30
   rw [s_l4Tuples_L2] at hF
   iterate 8 refine au ?_
   refine CdT ?_
   iterate 2 refine au ?_
   refine CW_draw [0, 1, 2, 3, 4, 5, 6, 7, 8, 9, 10, 11, 12, 13] [0, 0, 0, 6, 14, 0, 32, 0, 224, 480, 1022, 2046, 4095, 8191] [10, 12] mixed (by decide +kernel) ?_
   iterate 3 refine du ?_
   refine Di hx14 (fun k39 j40 => ?_)
   refine DlA2 (ul126_0_126 x11) la126_0_126 (fun p41 => ?_)
   iterate 3 refine du ?_
   refine Di hx32 (fun k42 j43 => ?_)
   refine Dl ls3_0 ?_
   obtain ⟨r44, hx45, hF⟩ := bind_some hF
   refine Dx0 (s_ValueOf_ok _ _ _ _ _ hx45) (fun _ => ?_)
   refine D_new rfl .no rfl (fun ha => N_buildSliceT (g := true) (len := 1) (parts := [(0, .tmp 34)]) sl22.h ty3.h (.cons (EN ha (.tmp rfl rfl) rfl) .nil) (vs := [(.int .i64 r44)]) rfl rfl rfl (by intro v hv; simp at hv; rcases hv with rfl <;> rfl)) (fun k47 => ?_)
   refine Dv1 (.cons .h .nil) (own_lit (Ro := (roE rdInt)) (E := 3) (F := ([] ++ [])) (xs := ([r44] : List Int)) (MkL_cons (Mk_pure (fun _ => rfl)) MkL_nil apps) rfl rfl) ?_
   obtain ⟨z48, hx49, hF⟩ := bind_some hF
   refine D_act1 rfl rfl .no (.cons (.t (.t (.t (.t (.t (.t (.t (.t (.t (.t .h)))))))))) (.cons .h .nil)) (.dep rfl .nil) (fun ha => X_appendO (Ro := (roE rdInt)) sl22.h ni22 ty3.h rfl rfl rfl (EN ha (.tmp rfl rfl) rfl) (EN ha (.tmp rfl rfl) rfl) hx49 src_own) (fun p50 => ?_)
   iterate 2 refine du ?_
   iterate 5 refine au ?_
   rw [wk k27]
   exact ⟨_, Nat.lt_succ_self _, _, k27 + 1, rest28, _, p50.1, p50.2, rfl, eqA, hd33, entA, hF⟩
 rintro _ _ ⟨c52, v53, F54, g56, rfl, rfl, hE⟩
 replace hF := hO19
 clear hO19
 try dsimp only at hF
 refine K_ent hE ?_
 iterate 5 refine au ?_
 rw [wk k9]
 exact ⟨_, Nat.lt_succ_self _, _, k9 + 1, rest10, _, v53, F54, rfl, eqA, hd15, entA, hF⟩
def s_AnswersOf (a_s : List Int) (a_q : Query) (a_facts : List Fact) : Option ((List (List Int))) :=
 ((s_IsQuery a_s a_q).bind fun r4 =>
   bif (!r4) then (some true)
   else ((s_AreFacts a_s a_facts).bind fun r8 =>
     some (!r8))).bind fun o2 =>
 match o2 with
 | c11 => if c11 then (
     some ([] : List (List Int)))
   else (
     (s_BindingsOf a_q a_facts).bind fun r13 =>
     (s_l4Tuples a_q r13).bind fun r16 =>
     some r16)
theorem s_AnswersOf_ok (a_s : List Int) (v0_0 : Sv) (a_q : Query) (v1_0 : Sv) (v1_1 : Sv) (a_facts : List Fact) (v2_0 : Sv) (R : (List (List Int))) (hF : s_AnswersOf a_s a_q a_facts = some R) :
   Fw.Spec Tryz.prog 41 [v0_0.v, (.agg [v1_0.v, v1_1.v].toArray), v2_0.v] [crd (RdS 3 rdInt) v0_0.v a_s, crd (RdS 3 rdInt) v1_0.v a_q.Head, crd (RdS 102 rd102) v1_1.v a_q.Atoms, crd (RdS 80 rd80) v2_0.v a_facts] (fun p : Sv × List Nat => p.1.v) (fun p => [cown (OwnS 22 (OwnS 3 (roE rdInt))) p.2 p.1.v R]) := by
 refine Spec_enter (n := 23) Tryz.func41 rfl rfl (rs := [.tmp 6]) rfl rfl rfl ?_
 intro H0 F0
 unfold s_AnswersOf at hF
 refine K_region (C_newR rfl (N_box (g := false) (v := (.agg [v1_0.v, v1_1.v].toArray)) ty38.h.sz (.tmp rfl rfl) rfl) (fun k1 => ?_))
 refine C_val (V_assign (v := (.slice none 0 0)) EV.nilSlice) ?_
 refine C_nil (K_in ?_)
 obtain ⟨o2, hio2, hO3⟩ := bind_some hF
 refine K_region (C_cut (fun f' cs' => ∃ (c11 : Bool) (g : Fr), c11 = o2 ∧ f' = updL g [(2, v2_0.v), (4, (.pointer (some ⟨k1, 0, some 0⟩))), (16, (.bool c11))] ∧ Ent cs' [crd (RdS 80 rd80) v2_0.v a_facts, cboR k1 38 (.agg [v1_0.v, v1_1.v].toArray), crd (RdS 3 rdInt) v1_0.v a_q.Head, crd (RdS 102 rd102) v1_1.v a_q.Atoms]) ?_ ?_)
 · replace hF := hio2
   refine Cm v0_0.v rfl rfl ?_
   refine C_at .h (fun hp => V_loadBox ag38.h ty38.h.sz rfl (.tmp rfl rfl) hp.2 rfl) ?_
   obtain ⟨r4, hx5, hF⟩ := bind_some hF
   refine C_x0 (.rd (.t .h) rfl (.rd (.t (.t .h)) rfl (.rd (.t (.t (.t .h))) rfl .nil))) (X_callS cf65.h (.cons (.tmp rfl rfl) (.cons (.tmp rfl rfl) .nil)) (s_IsQuery_ok a_s v0_0 a_q v1_0 v1_1 _ hx5)) (fun _ => ?_)
   refine C_val (V_not (b := r4) (.tmp rfl rfl)) ?_
   refine Cm (.bool (!r4)) rfl rfl ?_
   rcases Bool.eq_false_or_eq_true (!r4) with hg7 | hg7
   · rw [hg7]
     try rw [hg7] at hF; dsimp only [cond_true, cond_false] at hF
     iterate 4 refine C_off (t := 11) rfl rfl rfl ?_
     refine C_val (V_pick (b := true) (u := (.bool true)) (v := undef) (.tmp rfl rfl) (.bool _) (.tmp rfl rfl)) ?_
     refine C_nil ?_
     obtain rfl := Option.some.inj hF
     exact ⟨_, _, rfl, (EqL.cons rfl (EqL.cons rfl (EqL.cons rfl (EqL.nil)))).eq, (.sel (.rd (.t (.t (.t (.t .h)))) rfl (.rd .h rfl (.rd (.t (.t .h)) rfl (.rd (.t (.t (.t .h))) rfl .nil)))))⟩
   rw [hg7]
   try rw [hg7] at hF; dsimp only [cond_true, cond_false] at hF
   refine C_on (t := 11) rfl rfl rfl ?_
   refine Cm v0_0.v rfl rfl ?_
   refine C_on (t := 11) rfl rfl rfl ?_
   refine Cm v2_0.v rfl rfl ?_
   refine C_on (t := 11) rfl rfl rfl ?_
   obtain ⟨r8, hx9, hF⟩ := bind_some hF
   refine C_x0 (.rd (.t .h) rfl (.rd (.t (.t (.t (.t .h)))) rfl .nil)) (X_callS cf38.h (.cons (.tmp rfl rfl) (.cons (.tmp rfl rfl) .nil)) (s_AreFacts_ok a_s v0_0 a_facts v2_0 _ hx9)) (fun _ => ?_)
   refine C_on (t := 11) rfl rfl rfl ?_
   refine C_val (V_not (b := r8) (.tmp rfl rfl)) ?_
   refine C_val (V_pick (b := false) (u := (.bool true)) (v := (.bool (!r8))) (.tmp rfl rfl) (.bool _) (.tmp rfl rfl)) ?_
   refine C_nil ?_
   obtain rfl := Option.some.inj hF
   exact ⟨_, _, rfl, (EqL.cons rfl (EqL.cons rfl (EqL.cons rfl (EqL.nil)))).eq, (.sel (.rd (.t (.t (.t (.t .h)))) rfl (.rd .h rfl (.rd (.t (.t .h)) rfl (.rd (.t (.t (.t .h))) rfl .nil)))))⟩
 rintro _ _ ⟨c11, g20, rfl, rfl, hE⟩
 replace hF := hO3
 clear hO3
 try dsimp only at hF
 refine K_ent hE ?_
 refine CW_cond (b := c11) (.tmp rfl rfl) (fun hb19 => ?_) (fun hb19 => ?_)
 · rw [if_pos hb19] at hF
   refine K_region (C_new rfl (N_buildSliceT (g := true) sl31.h ty22.h .nil (vs := []) rfl rfl rfl (by simp)) (fun k12 => ?_))
   refine C_conv (.cons .h .nil) (own_lit (Ro := (OwnS 3 (roE rdInt))) (E := 22) (F := []) (xs := ([] : List (List Int))) MkL_nil rfl rfl) apps ?_
   refine Ca (.slice (some ⟨k12, 0, none⟩) 0 1) rfl rfl ?_
   refine C_nil (CW_ret ?_)
   obtain rfl := Option.some.inj hF
   exact End_ret (⟨(some ⟨k12, 0, none⟩), 0, 1⟩, (k12 :: [])) (.tmp rfl rfl .nil) rfl (.sel (.cons .h .nil))
 rw [if_neg (by rw [hb19]; exact Bool.false_ne_true)] at hF
 refine CW_skip (K_draw [0, 1, 2, 3, 4, 5] [0, 0, 0, 6, 15, 31] [3, 4] mixed (by decide +kernel) ?_)
 iterate 2 refine D_at rfl .no (.t .h) rfl (fun ha hp => V_loadBox ag38.h ty38.h.sz rfl (EN ha (.tmp rfl rfl) rfl) hp.2 rfl) ?_
 refine Dm v2_0.v rfl rfl rfl rfl ?_
 obtain ⟨r13, hx14, hF⟩ := bind_some hF
 refine D_act1 rfl rfl .no (.rd (.t (.t .h)) rfl (.rd (.t (.t (.t .h))) rfl (.rd .h rfl .nil))) .nil (fun ha => X_callS cf74.h (.cons (EN ha (.tmp rfl rfl) rfl) (.cons (EN ha (.tmp rfl rfl) rfl) .nil)) (s_BindingsOf_ok a_q v1_0 v1_1 a_facts v2_0 _ hx14)) (fun p15 => ?_)
 obtain ⟨r16, hx17, hF⟩ := bind_some hF
 refine D_act2 rfl rfl .no (.cons .h (.rd (.t (.t .h)) rfl (.rd (.t (.t (.t .h))) rfl .nil))) .nil (fun ha => XC_bor frz_own (fun _ => (.cons .nil)) (XC_pre (.rd (.t .h) rfl (.rd (.t (.t .h)) rfl (.rd .h rfl .nil))) (X_callS cf73.h (.cons (EN ha (.tmp rfl rfl) rfl) (.cons (EN ha (.tmp rfl rfl) rfl) .nil)) (s_l4Tuples_ok a_q v1_0 v1_1 r13 p15.1 _ hx17)))) (fun p18 => ?_)
 refine Da p18.1.v rfl rfl rfl rfl ?_
 refine D_nil (CW_ret ?_)
 obtain rfl := Option.some.inj hF
 exact End_ret (p18.1, p18.2) (.tmp rfl rfl .nil) rfl (.sel (.cons (.t .h) .nil))
def s_IsMethod_L1 (a_s : List Int) (a_m : Method) : List Int → Nat → Option (Bool)
 | [], k27 => some true
 | x29 :: rest28, k27 => ((ix a_s a_m.Rel).bind fun x40 =>
     (s_l1In x29 0 (IntKind.i64.wrap (x40 - 1))).bind fun r46 =>
     bif (!r46) then (some true)
     else (bif (decide ((0 : Int) < (k27 : Int))) then ((ix a_m.Inputs (IntKind.i64.wrap ((k27 : Int) - 1))).bind fun x53 =>
         some (decide ((x29 : Int) ≤ x53)))
       else (some false))).bind fun o36 =>
   match o36 with
   | c59 => if c59 then (
       some false)
     else (
       s_IsMethod_L1 a_s a_m rest28 (k27 + 1))
def s_IsMethod (a_s : List Int) (a_m : Method) : Option (Bool) :=
 ((s_IsSchema a_s).bind fun r4 =>
   bif (!r4) then (some true)
   else ((s_l1In a_m.Rel 0 (IntKind.i64.wrap ((a_s.length : Int) - 1))).bind fun r8 =>
     bif (!r8) then (some true)
     else ((s_l1In a_m.Limit 0 9).bind fun r12 =>
       bif (!r12) then (some true)
       else ((s_l1In a_m.Cost 0 99).bind fun r16 =>
         bif (!r16) then (some true)
         else ((s_l1In a_m.Quota 1 99).bind fun r20 =>
           some (!r20)))))).bind fun o2 =>
 match o2 with
 | c23 => if c23 then (
     some false)
   else (
     s_IsMethod_L1 a_s a_m a_m.Inputs 0)
theorem s_IsMethod_ok (a_s : List Int) (v0_0 : Sv) (a_m : Method) (v1_1 : Sv) (R : Bool) (hF : s_IsMethod a_s a_m = some R) :
   Fw.Spec Tryz.prog 94 [v0_0.v, (.agg [(.int .i64 a_m.Rel), v1_1.v, (.int .i64 a_m.Limit), (.int .i64 a_m.Cost), (.int .i64 a_m.Quota)].toArray)] [crd (RdS 3 rdInt) v0_0.v a_s, crd (RdS 3 rdInt) v1_1.v a_m.Inputs] (fun _ : Unit => (.bool R)) (fun _ => []) := by
 refine Spec_enter (n := 74) Tryz.func94 rfl rfl (rs := [.tmp 4]) rfl rfl rfl ?_
 intro H0 F0
 unfold s_IsMethod at hF
 refine au ?_
 refine AbR (fun k1 => ?_)
 iterate 3 refine au ?_
 obtain ⟨o2, hio2, hO3⟩ := bind_some hF
 refine au ?_
 refine C_cut (fun f' cs' => ∃ (c23 : Bool) (g : Fr), c23 = o2 ∧ f' = updL g [(0, v0_0.v), (3, (.pointer (some ⟨k1, 0, some 0⟩))), (35, (.bool c23))] ∧ Ent cs' [crd (RdS 3 rdInt) v0_0.v a_s, cboR k1 77 (.agg [(.int .i64 a_m.Rel), v1_1.v, (.int .i64 a_m.Limit), (.int .i64 a_m.Cost), (.int .i64 a_m.Quota)].toArray), crd (RdS 3 rdInt) v1_1.v a_m.Inputs]) ?_ ?_
 · replace hF := hio2
   refine au ?_
   obtain ⟨r4, hx5, hF⟩ := bind_some hF
   refine Cx0 (s_IsSchema_ok _ _ _ hx5) (fun _ => ?_)
   iterate 2 refine au ?_
   rcases Bool.eq_false_or_eq_true (!r4) with hg7 | hg7
   · rw [hg7]
     try rw [hg7] at hF; dsimp only [cond_true, cond_false] at hF
     iterate 27 refine au ?_
     cases hF
     exact ⟨_, _, rfl, eqA, entA⟩
   rw [hg7]
   try rw [hg7] at hF; dsimp only [cond_true, cond_false] at hF
   iterate 11 refine au ?_
   obtain ⟨r8, hx9, hF⟩ := bind_some hF
   refine Cx0 (s_l1In_ok _ _ _ _ hx9) (fun _ => ?_)
   iterate 4 refine au ?_
   rcases Bool.eq_false_or_eq_true (!r8) with hg11 | hg11
   · rw [hg11]
     try rw [hg11] at hF; dsimp only [cond_true, cond_false] at hF
     iterate 18 refine au ?_
     cases hF
     exact ⟨_, _, rfl, eqA, entA⟩
   rw [hg11]
   try rw [hg11] at hF; dsimp only [cond_true, cond_false] at hF
   iterate 5 refine au ?_
   obtain ⟨r12, hx13, hF⟩ := bind_some hF
   refine Cx0 (s_l1In_ok _ _ _ _ hx13) (fun _ => ?_)
   iterate 4 refine au ?_
   rcases Bool.eq_false_or_eq_true (!r12) with hg15 | hg15
   · rw [hg15]
     try rw [hg15] at hF; dsimp only [cond_true, cond_false] at hF
     iterate 12 refine au ?_
     cases hF
     exact ⟨_, _, rfl, eqA, entA⟩
   rw [hg15]
   try rw [hg15] at hF; dsimp only [cond_true, cond_false] at hF
   iterate 5 refine au ?_
   obtain ⟨r16, hx17, hF⟩ := bind_some hF
   refine Cx0 (s_l1In_ok _ _ _ _ hx17) (fun _ => ?_)
   iterate 4 refine au ?_
   rcases Bool.eq_false_or_eq_true (!r16) with hg19 | hg19
   · rw [hg19]
     try rw [hg19] at hF; dsimp only [cond_true, cond_false] at hF
     iterate 6 refine au ?_
     cases hF
     exact ⟨_, _, rfl, eqA, entA⟩
   rw [hg19]
   try rw [hg19] at hF; dsimp only [cond_true, cond_false] at hF
   iterate 5 refine au ?_
   obtain ⟨r20, hx21, hF⟩ := bind_some hF
   refine Cx0 (s_l1In_ok _ _ _ _ hx21) (fun _ => ?_)
   iterate 4 refine au ?_
   cases hF
   exact ⟨_, _, rfl, eqA, entA⟩
 rintro _ _ ⟨c23, g64, rfl, rfl, hE⟩
 replace hF := hO3
 clear hO3
 try dsimp only at hF
 refine K_ent hE ?_
 refine Cc (fun hb63 => ?_) (fun hb63 => ?_)
 · rw [if_pos hb63] at hF
   iterate 4 refine au ?_
   cases hF
   exact Er ()
 rw [if_neg (nt hb63)] at hF
 iterate 5 refine au ?_
 refine CW_block (CW_loop (m := a_m.Inputs.length) (fun m25 f' cs' => ∃ (g : Fr) (k27 : Nat) (rest28 : List Int), m25 = rest28.length ∧ f' = updL g [(0, v0_0.v), (3, (.pointer (some ⟨k1, 0, some 0⟩))), (5, (.int .i64 (k27 : Int)))] ∧ List.drop k27 a_m.Inputs = rest28 ∧ Ent cs' [crd (RdS 3 rdInt) v0_0.v a_s, cboR k1 77 (.agg [(.int .i64 a_m.Rel), v1_1.v, (.int .i64 a_m.Limit), (.int .i64 a_m.Cost), (.int .i64 a_m.Quota)].toArray), crd (RdS 3 rdInt) v1_1.v a_m.Inputs] ∧ s_IsMethod_L1 a_s a_m rest28 k27 = some R) ⟨_, 0, _, rfl, eqA, rfl, entA, hF⟩ ?_)
 clear hF
 rintro m25 _ _ ⟨g26, k27, rest28, rfl, rfl, hd30, hE, hF⟩
 refine K_ent hE ?_
 clear hE
 refine K_pure (c := crd (RdS 3 rdInt) v1_1.v a_m.Inputs) (.t (.t .h)) crd_bound (fun hbd35 => ?_)
 rcases rest28 with _ | ⟨x29, rest28⟩
 · have hk31 := List.drop_eq_nil_iff.1 hd30
   rw [s_IsMethod_L1] at hF
   iterate 8 refine au ?_
   refine CdF ?_
   iterate 8 refine au ?_
   cases hF
   exact Er ()
 obtain ⟨hk31, hx32, hd33⟩ := drop_cons hd30
 rw [s_IsMethod_L1] at hF
 iterate 8 refine au ?_
 refine CdT ?_
 iterate 2 refine au ?_
 obtain ⟨o36, hio36, hO37⟩ := bind_some hF
 refine K_draw [0, 1, 2, 3, 4, 5, 6, 7, 8, 9, 10, 11, 12, 13, 14, 15, 16, 17, 18, 19, 20, 21, 22, 23, 24, 25, 26, 27, 28, 29, 30] [0, 1, 0, 7, 15, 0, 0, 64, 224, 480, 992, 2047, 4095, 8191, 16383, 32767, 65535, 131071, 262143, 131071, 1048575, 2097151, 131071, 4325375, 131071, 16908287, 63045631, 130154495, 268435455, 536870911, 1073741823] [11] mixed (by decide +kernel) ?_
 refine D_cut (fun f' cs' => ∃ (c59 : Bool) (g : Fr), c59 = o36 ∧ f' = updL g [(0, v0_0.v), (3, (.pointer (some ⟨k1, 0, some 0⟩))), (5, (.int .i64 (k27 : Int))), (73, (.bool c59))] ∧ Ent cs' [crd (RdS 3 rdInt) v0_0.v a_s, cboR k1 77 (.agg [(.int .i64 a_m.Rel), v1_1.v, (.int .i64 a_m.Limit), (.int .i64 a_m.Cost), (.int .i64 a_m.Quota)].toArray), crd (RdS 3 rdInt) v1_1.v a_m.Inputs]) ?_ ?_
 · replace hF := hio36
   iterate 3 refine du ?_
   refine Di hx32 (fun k38 j39 => ?_)
   refine Dl ls3_0 ?_
   iterate 3 refine du ?_
   obtain ⟨x40, hx41, hF⟩ := bind_some hF
   obtain ⟨hp42, hx43⟩ := ix_some hx41
   refine Di hx43 (fun k44 j45 => ?_)
   refine Dl ls3_0 ?_
   refine du ?_
   obtain ⟨r46, hx47, hF⟩ := bind_some hF
   refine Dx0 (s_l1In_ok _ _ _ _ hx47) (fun _ => ?_)
   iterate 2 refine du ?_
   rcases Bool.eq_false_or_eq_true (!r46) with hg49 | hg49
   · rw [hg49]
     try rw [hg49] at hF; dsimp only [cond_true, cond_false] at hF
     iterate 18 refine du ?_
     cases hF
     exact ⟨_, _, rfl, eqA, entA⟩
   rw [hg49]
   try rw [hg49] at hF; dsimp only [cond_true, cond_false] at hF
   iterate 3 refine du ?_
   rcases Bool.eq_false_or_eq_true (decide ((0 : Int) < (k27 : Int))) with hg50 | hg50
   · rw [hg50]
     try rw [hg50] at hF; dsimp only [cond_true, cond_false] at hF
     iterate 3 refine du ?_
     refine Di hx32 (fun k51 j52 => ?_)
     refine Dl ls3_0 ?_
     iterate 4 refine du ?_
     obtain ⟨x53, hx54, hF⟩ := bind_some hF
     obtain ⟨hp55, hx56⟩ := ix_some hx54
     refine Di hx56 (fun k57 j58 => ?_)
     refine Dl ls3_0 ?_
     iterate 4 refine du ?_
     cases hF
     exact ⟨_, _, rfl, eqA, entA⟩
   rw [hg50]
   try rw [hg50] at hF; dsimp only [cond_true, cond_false] at hF
   iterate 15 refine du ?_
   cases hF
   exact ⟨_, _, rfl, eqA, entA⟩
 rintro _ _ ⟨c59, g62, rfl, rfl, hE⟩
 replace hF := hO37
 clear hO37
 try dsimp only at hF
 refine K_ent hE ?_
 refine Cc (fun hb61 => ?_) (fun hb61 => ?_)
 · rw [if_pos hb61] at hF
   iterate 4 refine au ?_
   cases hF
   exact Er ()
 rw [if_neg (nt hb61)] at hF
 iterate 6 refine au ?_
 rw [wk k27]
 exact ⟨_, Nat.lt_succ_self _, _, k27 + 1, rest28, rfl, eqA, hd33, entA, hF⟩
def s_AreMethods_L1 (a_s : List Int) (a_l : List Method) : List Method → Nat → Option (Bool)
 | [], k4 => ((s_IsSchema a_s).bind fun r15 =>
     bif r15 then (some (decide (((a_l.length : Int) : Int) ≤ 5)))
     else (some false)).bind fun o13 =>
   match o13 with
   | c19 => some c19
 | x6 :: rest5, k4 => (s_IsMethod a_s x6).bind fun r24 =>
   if (!r24) then (
     some false)
   else (
     s_AreMethods_L1 a_s a_l rest5 (k4 + 1))
def s_AreMethods (a_s : List Int) (a_l : List Method) : Option (Bool) :=
 s_AreMethods_L1 a_s a_l a_l 0
theorem s_AreMethods_ok (a_s : List Int) (v0_0 : Sv) (a_l : List Method) (v1_0 : Sv) (R : Bool) (hF : s_AreMethods a_s a_l = some R) :
   Fw.Spec Tryz.prog 59 [v0_0.v, v1_0.v] [crd (RdS 3 rdInt) v0_0.v a_s, crd (RdS 77 rd77) v1_0.v a_l] (fun _ : Unit => (.bool R)) (fun _ => []) := by
 refine Spec_enter (n := 26) Tryz.func59 rfl rfl (rs := [.tmp 4]) rfl rfl rfl ?_
 intro H0 F0
 unfold s_AreMethods at hF
 iterate 7 refine au ?_
 refine CW_block (CW_loop (m := a_l.length) (fun m2 f' cs' => ∃ (g : Fr) (k4 : Nat) (rest5 : List Method), m2 = rest5.length ∧ f' = updL g [(0, v0_0.v), (1, v1_0.v), (5, (.int .i64 (k4 : Int)))] ∧ List.drop k4 a_l = rest5 ∧ Ent cs' [crd (RdS 3 rdInt) v0_0.v a_s, crd (RdS 77 rd77) v1_0.v a_l] ∧ s_AreMethods_L1 a_s a_l rest5 k4 = some R) ⟨_, 0, _, rfl, eqA, rfl, entA, hF⟩ ?_)
 clear hF
 rintro m2 _ _ ⟨g3, k4, rest5, rfl, rfl, hd7, hE, hF⟩
 refine K_ent hE ?_
 clear hE
 refine K_pure (c := crd (RdS 77 rd77) v1_0.v a_l) (.t .h) crd_bound (fun hbd12 => ?_)
 rcases rest5 with _ | ⟨x6, rest5⟩
 · have hk8 := List.drop_eq_nil_iff.1 hd7
   rw [s_AreMethods_L1] at hF
   iterate 7 refine au ?_
   refine CdF ?_
   iterate 4 refine au ?_
   obtain ⟨o13, hio13, hO14⟩ := bind_some hF
   refine au ?_
   refine C_cut (fun f' cs' => ∃ (c19 : Bool) (g : Fr), c19 = o13 ∧ f' = updL g [(4, (.bool c19))] ∧ Ent cs' []) ?_ ?_
   · replace hF := hio13
     refine au ?_
     obtain ⟨r15, hx16, hF⟩ := bind_some hF
     refine Cx0 (s_IsSchema_ok _ _ _ hx16) (fun _ => ?_)
     refine au ?_
     rcases Bool.eq_false_or_eq_true r15 with hg18 | hg18
     · rw [hg18]
       try rw [hg18] at hF; dsimp only [cond_true, cond_false] at hF
       iterate 9 refine au ?_
       cases hF
       exact ⟨_, _, rfl, eqA, entA⟩
     rw [hg18]
     try rw [hg18] at hF; dsimp only [cond_true, cond_false] at hF
     iterate 6 refine au ?_
     cases hF
     exact ⟨_, _, rfl, eqA, entA⟩
   rintro _ _ ⟨c19, g20, rfl, rfl, hE⟩
   replace hF := hO14
   clear hO14
   try dsimp only at hF
   refine K_ent hE ?_
   refine au ?_
   cases hF
   exact Er ()
 obtain ⟨hk8, hx9, hd10⟩ := drop_cons hd7
 rw [s_AreMethods_L1] at hF
 iterate 7 refine au ?_
 refine CdT ?_
 iterate 6 refine au ?_
 refine Ai hx9 (fun k21 j22 => ?_)
 refine AlA1 (ul77_0_77 x6) la77_0_77 (fun p23 => ?_)
 obtain ⟨r24, hx25, hF⟩ := bind_some hF
 refine Cx0 (s_IsMethod_ok _ _ _ _ _ hx25) (fun _ => ?_)
 iterate 2 refine au ?_
 refine Cc (fun hb28 => ?_) (fun hb28 => ?_)
 · rw [if_pos hb28] at hF
   iterate 4 refine au ?_
   cases hF
   exact Er ()
 rw [if_neg (nt hb28)] at hF
 iterate 6 refine au ?_
 rw [wk k4]
 exact ⟨_, Nat.lt_succ_self _, _, k4 + 1, rest5, rfl, eqA, hd10, entA, hF⟩
def s_l6Fine (a_s : List Int) (a_l : List Method) (a_q : Query) : Option (Bool) :=
 ((s_AreMethods a_s a_l).bind fun r4 =>
   bif r4 then ((s_IsQuery a_s a_q).bind fun r8 =>
     some r8)
   else (some false)).bind fun o2 =>
 match o2 with
 | c11 => some c11
theorem s_l6Fine_ok (a_s : List Int) (v0_0 : Sv) (a_l : List Method) (v1_0 : Sv) (a_q : Query) (v2_0 : Sv) (v2_1 : Sv) (R : Bool) (hF : s_l6Fine a_s a_l a_q = some R) :
   Fw.Spec Tryz.prog 37 [v0_0.v, v1_0.v, (.agg [v2_0.v, v2_1.v].toArray)] [crd (RdS 3 rdInt) v0_0.v a_s, crd (RdS 77 rd77) v1_0.v a_l, crd (RdS 3 rdInt) v2_0.v a_q.Head, crd (RdS 102 rd102) v2_1.v a_q.Atoms] (fun _ : Unit => (.bool R)) (fun _ => []) := by
 refine Spec_enter (n := 15) Tryz.func37 rfl rfl (rs := [.tmp 6]) rfl rfl rfl ?_
 intro H0 F0
 unfold s_l6Fine at hF
 refine au ?_
 refine AbR (fun k1 => ?_)
 iterate 2 refine au ?_
 obtain ⟨o2, hio2, hO3⟩ := bind_some hF
 refine au ?_
 refine C_cut (fun f' cs' => ∃ (c11 : Bool) (g : Fr), c11 = o2 ∧ f' = updL g [(6, (.bool c11))] ∧ Ent cs' []) ?_ ?_
 · replace hF := hio2
   iterate 2 refine au ?_
   obtain ⟨r4, hx5, hF⟩ := bind_some hF
   refine Cx0 (s_AreMethods_ok _ _ _ _ _ hx5) (fun _ => ?_)
   refine au ?_
   rcases Bool.eq_false_or_eq_true r4 with hg7 | hg7
   · rw [hg7]
     try rw [hg7] at hF; dsimp only [cond_true, cond_false] at hF
     iterate 5 refine au ?_
     obtain ⟨r8, hx9, hF⟩ := bind_some hF
     refine Cx0 (s_IsQuery_ok _ _ _ _ _ _ hx9) (fun _ => ?_)
     iterate 3 refine au ?_
     cases hF
     exact ⟨_, _, rfl, eqA, entA⟩
   rw [hg7]
   try rw [hg7] at hF; dsimp only [cond_true, cond_false] at hF
   iterate 6 refine au ?_
   cases hF
   exact ⟨_, _, rfl, eqA, entA⟩
 rintro _ _ ⟨c11, g12, rfl, rfl, hE⟩
 replace hF := hO3
 clear hO3
 try dsimp only at hF
 refine K_ent hE ?_
 refine au ?_
 cases hF
 exact Er ()
def s_ConstantsOf_L3 (x127 : Atom) : Nat → (List Int) → Int → Option ((List Int))
 | 0, _, _ => none
 | m139 + 1, c136, c138 => if (decide ((c138 : Int) < (x127.Terms.length : Int))) then (
     ((ix x127.Terms c138).bind fun x155 =>
       (s_l1In x155 0 9).bind fun r161 =>
       if r161 then (
         (ix x127.Terms c138).bind fun x167 =>
         (s_l3Put c136 x167).bind fun r173 =>
         some r173)
       else (
         some c136)).bind fun o150 =>
     match o150 with
     | c177 => s_ConstantsOf_L3 x127 m139 c177 (IntKind.i64.wrap (c138 + 1)))
   else (
     some c136)
def s_ConstantsOf_L1 : List Atom → Nat → (List Int) → Option ((List Int))
 | [], k125, c120 => some c120
 | x127 :: rest126, k125, c120 => (s_ConstantsOf_L3 x127 (((x127.Terms.length : Int) - 0).toNat + 2) c120 0).bind fun o134 =>
   match o134 with
   | c181 => s_ConstantsOf_L1 rest126 (k125 + 1) c181
def s_ConstantsOf (a_q : Query) : Option ((List Int)) :=
 s_ConstantsOf_L1 a_q.Atoms 0 ([] : List Int)
theorem s_ConstantsOf_ok (a_q : Query) (v0_0 : Sv) (v0_1 : Sv) (R : (List Int)) (hF : s_ConstantsOf a_q = some R) :
   Fw.Spec Tryz.prog 40 [(.agg [v0_0.v, v0_1.v].toArray)] [crd (RdS 3 rdInt) v0_0.v a_q.Head, crd (RdS 102 rd102) v0_1.v a_q.Atoms] (fun p : Sv => p.v) (fun p => [crd (RdS 3 rdInt) p.v R]) := by
 refine Spec_enter (n := 47) Tryz.func40 rfl rfl (rs := [.tmp 2]) rfl rfl rfl ?_
 intro H0 F0
 unfold s_ConstantsOf at hF
 refine au ?_
 refine AbR (fun k1 => ?_)
 iterate 3 refine au ?_
 refine C_new rfl (N_buildSliceT (g := true) sl22.h ty3.h .nil (vs := []) rfl rfl rfl (by simp)) (fun k2 => ?_)
 refine Cv1 (.cons .h .nil) (own_lit (Ro := (roE rdInt)) (E := 3) (F := []) (xs := ([] : List Int)) MkL_nil rfl rfl) ?_
 iterate 6 refine au ?_
 refine CW_block (CW_loop (m := a_q.Atoms.length) (fun m123 f' cs' => ∃ (g : Fr) (k125 : Nat) (rest126 : List Atom) (c120 : List Int) (v121 : Sv), m123 = rest126.length ∧ f' = updL g [(1, (.pointer (some ⟨k1, 0, some 0⟩))), (3, v121.v), (4, (.int .i64 (k125 : Int)))] ∧ List.drop k125 a_q.Atoms = rest126 ∧ Ent cs' [cboR k1 38 (.agg [v0_0.v, v0_1.v].toArray), crd (RdS 3 rdInt) v0_0.v a_q.Head, crd (RdS 102 rd102) v0_1.v a_q.Atoms, crd (RdS 3 rdInt) v121.v c120] ∧ s_ConstantsOf_L1 rest126 k125 c120 = some R) ⟨_, 0, _, _, ⟨(some ⟨k2, 0, none⟩), 0, 1⟩, rfl, eqA, rfl, (.frz .h frz_own entA), hF⟩ ?_)
 clear hF
 rintro m123 _ _ ⟨g124, k125, rest126, c120, v121, rfl, rfl, hd128, hE, hF⟩
 refine K_ent hE ?_
 clear hE
 refine K_pure (c := crd (RdS 102 rd102) v0_1.v a_q.Atoms) (.t (.t .h)) crd_bound (fun hbd133 => ?_)
 rcases rest126 with _ | ⟨x127, rest126⟩
 · have hk129 := List.drop_eq_nil_iff.1 hd128
   rw [s_ConstantsOf_L1] at hF
   iterate 8 refine au ?_
   refine CdF ?_
   iterate 9 refine au ?_
   cases hF
   exact Er v121
 obtain ⟨hk129, hx130, hd131⟩ := drop_cons hd128
 rw [s_ConstantsOf_L1] at hF
 iterate 8 refine au ?_
 refine CdT ?_
 refine au ?_
 obtain ⟨o134, hio134, hO135⟩ := bind_some hF
 refine K_cut (fun f' cs' => ∃ (c181 : List Int) (v182 : Sv) (g : Fr), c181 = o134 ∧ f' = updL g [(1, (.pointer (some ⟨k1, 0, some 0⟩))), (3, v182.v), (4, (.int .i64 (k125 : Int)))] ∧ Ent cs' [cboR k1 38 (.agg [v0_0.v, v0_1.v].toArray), crd (RdS 3 rdInt) v0_0.v a_q.Head, crd (RdS 102 rd102) v0_1.v a_q.Atoms, crd (RdS 3 rdInt) v182.v c181]) ?_ ?_
 · replace hF := hio134
   refine CW_block (K_region (C_val (V_assign (v := (.int .i64 0)) (.int _ _)) ?_))
   refine au ?_
   refine CW_block (CW_loop (m := (((x127.Terms.length : Int) - 0).toNat + 2)) (fun m139 f' cs' => ∃ (g : Fr) (c136 : List Int) (c138 : Int) (v137 : Sv), f' = updL g [(1, (.pointer (some ⟨k1, 0, some 0⟩))), (3, v137.v), (4, (.int .i64 (k125 : Int))), (5, (.int .i64 c138))] ∧ Ent cs' [cboR k1 38 (.agg [v0_0.v, v0_1.v].toArray), crd (RdS 3 rdInt) v0_0.v a_q.Head, crd (RdS 102 rd102) v0_1.v a_q.Atoms, crd (RdS 3 rdInt) v137.v c136] ∧ s_ConstantsOf_L3 x127 m139 c136 c138 = some o134) ⟨_, _, _, v121, eqA, entA, hF⟩ ?_)
   clear hF
   rintro m139 _ _ ⟨g140, c136, c138, v137, rfl, hE, hF⟩
   refine K_ent hE ?_
   clear hE
   rcases m139 with _ | m139
   · rw [s_ConstantsOf_L3] at hF
     exact absurd hF (by simp)
   rw [s_ConstantsOf_L3] at hF
   iterate 6 refine au ?_
   refine Ai hx130 (fun k147 j148 => ?_)
   refine au ?_
   refine C_ldV (R' := (RdS 3 rdInt)) ag22.h (.tmp rfl rfl) .h lv102_1 (fun w149 => ?_)
   iterate 3 refine au ?_
   refine Cc (fun hb180 => ?_) (fun hb180 => ?_)
   · rw [if_pos hb180] at hF
     refine au ?_
     obtain ⟨o150, hio150, hO151⟩ := bind_some hF
     refine K_cut (fun f' cs' => ∃ (c177 : List Int) (v178 : Sv) (g : Fr), c177 = o150 ∧ f' = updL g [(1, (.pointer (some ⟨k1, 0, some 0⟩))), (3, v178.v), (4, (.int .i64 (k125 : Int))), (5, (.int .i64 c138))] ∧ Ent cs' [cboR k1 38 (.agg [v0_0.v, v0_1.v].toArray), crd (RdS 3 rdInt) v0_0.v a_q.Head, crd (RdS 102 rd102) v0_1.v a_q.Atoms, crd (RdS 3 rdInt) v178.v c177]) ?_ ?_
     · replace hF := hio150
       refine CW_block (K_region (C_val (V_fieldAddr (off := 1) fd38_1.h (.tmp rfl rfl)) ?_))
       iterate 2 refine au ?_
       refine Ai hx130 (fun k152 j153 => ?_)
       refine au ?_
       refine C_ldV (R' := (RdS 3 rdInt)) ag22.h (.tmp rfl rfl) .h lv102_1 (fun w154 => ?_)
       refine au ?_
       obtain ⟨x155, hx156, hF⟩ := bind_some hF
       obtain ⟨hp157, hx158⟩ := ix_some hx156
       refine Ai hx158 (fun k159 j160 => ?_)
       refine Al ls3_0 ?_
       obtain ⟨r161, hx162, hF⟩ := bind_some hF
       refine Cx0 (s_l1In_ok _ _ _ _ hx162) (fun _ => ?_)
       refine au ?_
       refine Cc (fun hb176 => ?_) (fun hb176 => ?_)
       · rw [if_pos hb176] at hF
         iterate 5 refine au ?_
         refine Ai hx130 (fun k164 j165 => ?_)
         refine au ?_
         refine C_ldV (R' := (RdS 3 rdInt)) ag22.h (.tmp rfl rfl) .h lv102_1 (fun w166 => ?_)
         refine au ?_
         obtain ⟨x167, hx168, hF⟩ := bind_some hF
         obtain ⟨hp169, hx170⟩ := ix_some hx168
         refine Ai hx170 (fun k171 j172 => ?_)
         refine Al ls3_0 ?_
         obtain ⟨r173, hx174, hF⟩ := bind_some hF
         refine Cx1 (s_l3Put_ok _ _ _ _ hx174) (fun p175 => ?_)
         iterate 2 refine au ?_
         cases hF
         exact ⟨_, p175, _, rfl, eqA, entA⟩
       rw [if_neg (nt hb176)] at hF
       refine au ?_
       cases hF
       exact ⟨_, v137, _, rfl, eqA, entA⟩
     rintro _ _ ⟨c177, v178, g179, rfl, rfl, hE⟩
     replace hF := hO151
     clear hO151
     try dsimp only at hF
     refine K_ent hE ?_
     iterate 5 refine au ?_
     exact ⟨m139, Nat.lt_succ_self _, _, _, _, v178, eqA, entA, hF⟩
   rw [if_neg (nt hb180)] at hF
   iterate 4 refine au ?_
   cases hF
   exact ⟨_, v137, _, rfl, eqA, entA⟩
 rintro _ _ ⟨c181, v182, g184, rfl, rfl, hE⟩
 replace hF := hO135
 clear hO135
 try dsimp only at hF
 refine K_ent hE ?_
 iterate 5 refine au ?_
 rw [wk k125]
 exact ⟨_, Nat.lt_succ_self _, _, k125 + 1, rest126, _, v182, rfl, eqA, hd131, entA, hF⟩
end Go.Proofs.YtlfebfhfgfjceabGreat
