/-
  Functions of the program as Lean functions, and that the calls return what these say: part 1. No conditions.
-/
import Derived.Test.YtlfebfhfgfjceabGreatFcCheckCertificate
import Derived.Shelf.Sort.Plain
import Derived.Shelf.Slices.In.SortNone
import Derived.Shelf.Slices.CompactI
import Derived.Test.YtlfebfhfgfjceabGreatProg
import Derived.KernelRfl
set_option maxRecDepth 100000
set_option maxHeartbeats 1000000
set_option linter.unusedVariables false
namespace Go.Proofs.YtlfebfhfgfjceabGreat
open Go Go.Fw

instance : LaidP Tryz.prog := ⟨fun _ => True⟩

structure Method where
  Rel : Int
  Inputs : List Int
  Limit : Int
  Cost : Int
  Quota : Int
structure Atom where
  Rel : Int
  Terms : List Int
structure Query where
  Head : List Int
  Atoms : List Atom
structure Fact where
  Rel : Int
  Values : List Int
structure Certificate where
  All : List Fact
  Some : List Fact
  Tuple : List Int
instance ty26 : ITY Tryz.prog 26 2 48 (.agg [(.slice none 0 0), (.slice none 0 0)].toArray) := ⟨by unfold TY; kernel_rfl⟩
instance ty54 : ITY Tryz.prog 54 3 72 (.agg [(.slice none 0 0), (.slice none 0 0), (.slice none 0 0)].toArray) := ⟨by unfold TY; kernel_rfl⟩
instance sl22 : ISL Tryz.prog 22 3 := ⟨by unfold SL; kernel_rfl⟩
instance cf6 : ICF Tryz.prog 6 := ⟨fun _ _ => Tryz.call6 _ _⟩
instance sl23 : ISL Tryz.prog 23 64 := ⟨by unfold SL; kernel_rfl⟩
def rd64 (H : AHeap) (v : Value) (a : Method) : Prop := ∃ v0 : Sv, v = .agg [(.int .i64 a.Rel), v0.v, (.int .i64 a.Limit), (.int .i64 a.Cost), (.int .i64 a.Quota)].toArray ∧ (RdS 3 rdInt) H v0.v a.Inputs
instance : Mono rd64 := ⟨fun h hi => by
  obtain ⟨v0, h, h0⟩ := h
  exact ⟨v0, h, Mono.up h0 hi⟩⟩
instance : Cells rd64 5 := ⟨fun h => by
  obtain ⟨v0, rfl, h0⟩ := h
  exact ⟨rfl, rfl⟩⟩
instance ty64 : ITY Tryz.prog 64 5 56 (.agg [(.int .i64 0), (.slice none 0 0), (.int .i64 0), (.int .i64 0), (.int .i64 0)].toArray) := ⟨by unfold TY; kernel_rfl⟩
def ul64_0_64 (a : Method) (p : Sv) : List Value := [(.int .i64 a.Rel), p.v, (.int .i64 a.Limit), (.int .i64 a.Cost), (.int .i64 a.Quota)]
theorem la64_0_64 {a : Method} : ∀ H e, rd64 H e a → ∃ i : Sv, 0 + 5 ≤ e.cells.size ∧ (e.cells.toList.drop 0).take 5 = ul64_0_64 a i ∧ ∀ c ∈ ([crd (RdS 3 rdInt) i.v a.Inputs] : List Comp), c.P H ∧ c.F = [] := by
  intro H e h
  obtain ⟨v0, rfl, h0⟩ := h
  refine ⟨v0, Nat.le_of_ble_eq_true rfl, rfl, fun c hc => by
    simp only [List.mem_cons, List.not_mem_nil, or_false] at hc
    rcases hc with rfl
    · exact ⟨h0, rfl⟩
⟩
instance ag64 : IAG Tryz.prog 64 true := ⟨by unfold AG; kernel_rfl⟩
instance cf33 : ICF Tryz.prog 33 := ⟨fun _ _ => Tryz.call33 _ _⟩
instance fd64_1 : IFD Tryz.prog 64 1 1 := ⟨by unfold FD; kernel_rfl⟩
instance ag22 : IAG Tryz.prog 22 false := ⟨by unfold AG; kernel_rfl⟩
instance cf34 : ICF Tryz.prog 34 := ⟨fun _ _ => Tryz.call34 _ _⟩
instance ag26 : IAG Tryz.prog 26 true := ⟨by unfold AG; kernel_rfl⟩
instance cf7 : ICF Tryz.prog 7 := ⟨fun _ _ => Tryz.call7 _ _⟩
instance fd26_0 : IFD Tryz.prog 26 0 0 := ⟨by unfold FD; kernel_rfl⟩
instance fd26_1 : IFD Tryz.prog 26 1 1 := ⟨by unfold FD; kernel_rfl⟩
instance ag24 : IAG Tryz.prog 24 false := ⟨by unfold AG; kernel_rfl⟩
instance cf35 : ICF Tryz.prog 35 := ⟨fun _ _ => Tryz.call35 _ _⟩
instance sl24 : ISL Tryz.prog 24 94 := ⟨by unfold SL; kernel_rfl⟩
def rd94 (H : AHeap) (v : Value) (a : Atom) : Prop := ∃ v0 : Sv, v = .agg [(.int .i64 a.Rel), v0.v].toArray ∧ (RdS 3 rdInt) H v0.v a.Terms
instance : Mono rd94 := ⟨fun h hi => by
  obtain ⟨v0, h, h0⟩ := h
  exact ⟨v0, h, Mono.up h0 hi⟩⟩
instance : Cells rd94 2 := ⟨fun h => by
  obtain ⟨v0, rfl, h0⟩ := h
  exact ⟨rfl, rfl⟩⟩
instance ty94 : ITY Tryz.prog 94 2 32 (.agg [(.int .i64 0), (.slice none 0 0)].toArray) := ⟨by unfold TY; kernel_rfl⟩
def ul94_0_94 (a : Atom) (p : Sv) : List Value := [(.int .i64 a.Rel), p.v]
theorem la94_0_94 {a : Atom} : ∀ H e, rd94 H e a → ∃ i : Sv, 0 + 2 ≤ e.cells.size ∧ (e.cells.toList.drop 0).take 2 = ul94_0_94 a i ∧ ∀ c ∈ ([crd (RdS 3 rdInt) i.v a.Terms] : List Comp), c.P H ∧ c.F = [] := by
  intro H e h
  obtain ⟨v0, rfl, h0⟩ := h
  refine ⟨v0, Nat.le_of_ble_eq_true rfl, rfl, fun c hc => by
    simp only [List.mem_cons, List.not_mem_nil, or_false] at hc
    rcases hc with rfl
    · exact ⟨h0, rfl⟩
⟩
instance ag94 : IAG Tryz.prog 94 true := ⟨by unfold AG; kernel_rfl⟩
instance cf64 : ICF Tryz.prog 64 := ⟨fun _ _ => Tryz.call64 _ _⟩
instance fd94_1 : IFD Tryz.prog 94 1 1 := ⟨by unfold FD; kernel_rfl⟩
instance ag54 : IAG Tryz.prog 54 true := ⟨by unfold AG; kernel_rfl⟩
instance cf26 : ICF Tryz.prog 26 := ⟨fun _ _ => Tryz.call26 _ _⟩
instance fd54_0 : IFD Tryz.prog 54 0 0 := ⟨by unfold FD; kernel_rfl⟩
instance ag27 : IAG Tryz.prog 27 false := ⟨by unfold AG; kernel_rfl⟩
instance cf8 : ICF Tryz.prog 8 := ⟨fun _ _ => Tryz.call8 _ _⟩
instance sl27 : ISL Tryz.prog 27 68 := ⟨by unfold SL; kernel_rfl⟩
def rd68 (H : AHeap) (v : Value) (a : Fact) : Prop := ∃ v0 : Sv, v = .agg [(.int .i64 a.Rel), v0.v].toArray ∧ (RdS 3 rdInt) H v0.v a.Values
instance : Mono rd68 := ⟨fun h hi => by
  obtain ⟨v0, h, h0⟩ := h
  exact ⟨v0, h, Mono.up h0 hi⟩⟩
instance : Cells rd68 2 := ⟨fun h => by
  obtain ⟨v0, rfl, h0⟩ := h
  exact ⟨rfl, rfl⟩⟩
instance ty68 : ITY Tryz.prog 68 2 32 (.agg [(.int .i64 0), (.slice none 0 0)].toArray) := ⟨by unfold TY; kernel_rfl⟩
def ul68_0_68 (a : Fact) (p : Sv) : List Value := [(.int .i64 a.Rel), p.v]
theorem la68_0_68 {a : Fact} : ∀ H e, rd68 H e a → ∃ i : Sv, 0 + 2 ≤ e.cells.size ∧ (e.cells.toList.drop 0).take 2 = ul68_0_68 a i ∧ ∀ c ∈ ([crd (RdS 3 rdInt) i.v a.Values] : List Comp), c.P H ∧ c.F = [] := by
  intro H e h
  obtain ⟨v0, rfl, h0⟩ := h
  refine ⟨v0, Nat.le_of_ble_eq_true rfl, rfl, fun c hc => by
    simp only [List.mem_cons, List.not_mem_nil, or_false] at hc
    rcases hc with rfl
    · exact ⟨h0, rfl⟩
⟩
instance ag68 : IAG Tryz.prog 68 true := ⟨by unfold AG; kernel_rfl⟩
instance cf36 : ICF Tryz.prog 36 := ⟨fun _ _ => Tryz.call36 _ _⟩
instance fd68_1 : IFD Tryz.prog 68 1 1 := ⟨by unfold FD; kernel_rfl⟩
instance fd54_1 : IFD Tryz.prog 54 1 1 := ⟨by unfold FD; kernel_rfl⟩
instance fd54_2 : IFD Tryz.prog 54 2 2 := ⟨by unfold FD; kernel_rfl⟩
theorem mixed : Tryz.prog.follows .mixedOrders = true := by kernel_rfl
instance cf10 : ICF Tryz.prog 10 := ⟨fun _ _ => Tryz.call10 _ _⟩
instance ty3 : ITY Tryz.prog 3 1 8 (.int .i64 0) := ⟨by unfold TY; kernel_rfl⟩
theorem ls3_0 {a : Int} : ∀ H e, rdInt H e a → e.cells.toList[0]? = some (.int .i64 a) := by
  intro H e h
  subst h
  rfl
instance ag3 : IAG Tryz.prog 3 false := ⟨by unfold AG; kernel_rfl⟩
instance cf11 : ICF Tryz.prog 11 := ⟨fun _ _ => Tryz.call11 _ _⟩
instance sl34 : ISL Tryz.prog 34 77 := ⟨by unfold SL; kernel_rfl⟩
instance ty77 : ITY Tryz.prog 77 5 56 (.agg [(.int .i64 0), (.slice none 0 0), (.int .i64 0), (.int .i64 0), (.int .i64 0)].toArray) := ⟨by unfold TY; kernel_rfl⟩
def rd77 (H : AHeap) (v : Value) (a : Method) : Prop := ∃ v0 : Sv, v = .agg [(.int .i64 a.Rel), v0.v, (.int .i64 a.Limit), (.int .i64 a.Cost), (.int .i64 a.Quota)].toArray ∧ (RdS 3 rdInt) H v0.v a.Inputs
instance : Mono rd77 := ⟨fun h hi => by
  obtain ⟨v0, h, h0⟩ := h
  exact ⟨v0, h, Mono.up h0 hi⟩⟩
instance : Cells rd77 5 := ⟨fun h => by
  obtain ⟨v0, rfl, h0⟩ := h
  exact ⟨rfl, rfl⟩⟩
def ow77 : ORel Method := fun F H v a => ∃ (v0 : Sv) (F0 : List Nat), v = .agg [(.int .i64 a.Rel), v0.v, (.int .i64 a.Limit), (.int .i64 a.Cost), (.int .i64 a.Quota)].toArray ∧ F0 = F ∧ (OwnS 3 (roE rdInt)) F0 H v0.v a.Inputs
instance : Keep ow77 := ⟨fun h hi hg => by
  obtain ⟨v0, F0, rfl, rfl, h0⟩ := h
  exact ⟨v0, F0, rfl, rfl, Keep.keep h0 hi (fun k hk => hg k (by simp [hk]))⟩⟩
instance : Local ow77 := ⟨fun h hg => by
  obtain ⟨v0, F0, rfl, rfl, h0⟩ := h
  exact ⟨v0, F0, rfl, rfl, Local.keep h0 (fun k hk => hg k (by simp [hk]))⟩⟩
instance : Owns ow77 := ⟨fun h k hk => by
  obtain ⟨v0, F0, rfl, rfl, h0⟩ := h
  exact Owns.owns h0 k hk
⟩
instance : OCells ow77 5 := ⟨fun h => by
  obtain ⟨v0, F0, rfl, rfl, h0⟩ := h
  exact ⟨rfl, rfl⟩⟩
instance : Frz ow77 rd77 := ⟨fun h hg => by
  obtain ⟨v0, F0, rfl, rfl, h0⟩ := h
  exact ⟨v0, rfl, Frz.frz h0 (fun k hk => hg k (by simp [hk]))⟩⟩
instance cf42 : ICF Tryz.prog 42 := ⟨fun _ _ => Tryz.call42 _ _⟩
instance fd64_0 : IFD Tryz.prog 64 0 0 := ⟨by unfold FD; kernel_rfl⟩
instance fd77_0 : IFD Tryz.prog 77 0 0 := ⟨by unfold FD; kernel_rfl⟩
instance fd77_1 : IFD Tryz.prog 77 1 1 := ⟨by unfold FD; kernel_rfl⟩
instance ty22 : ITY Tryz.prog 22 1 24 (.slice none 0 0) := ⟨by unfold TY; kernel_rfl⟩
instance fd64_2 : IFD Tryz.prog 64 2 2 := ⟨by unfold FD; kernel_rfl⟩
instance fd77_2 : IFD Tryz.prog 77 2 2 := ⟨by unfold FD; kernel_rfl⟩
instance fd64_3 : IFD Tryz.prog 64 3 3 := ⟨by unfold FD; kernel_rfl⟩
instance fd77_3 : IFD Tryz.prog 77 3 3 := ⟨by unfold FD; kernel_rfl⟩
instance fd64_4 : IFD Tryz.prog 64 4 4 := ⟨by unfold FD; kernel_rfl⟩
instance fd77_4 : IFD Tryz.prog 77 4 4 := ⟨by unfold FD; kernel_rfl⟩
instance ag77 : IAG Tryz.prog 77 true := ⟨by unfold AG; kernel_rfl⟩
theorem mk77 {a : Method} {v0 : Sv} {F0 : List Nat} : Mk ow77 F0 (.agg [(.int .i64 a.Rel), v0.v, (.int .i64 a.Limit), (.int .i64 a.Cost), (.int .i64 a.Quota)].toArray) a [cown (OwnS 3 (roE rdInt)) F0 v0.v a.Inputs] :=
  ⟨fun H h => ⟨v0, F0, rfl, rfl, h (cown (OwnS 3 (roE rdInt)) F0 v0.v a.Inputs) (by simp)⟩, by simp [cown]⟩
instance cf12 : ICF Tryz.prog 12 := ⟨fun _ _ => Tryz.call12 _ _⟩
instance ty38 : ITY Tryz.prog 38 2 48 (.agg [(.slice none 0 0), (.slice none 0 0)].toArray) := ⟨by unfold TY; kernel_rfl⟩
instance fd38_0 : IFD Tryz.prog 38 0 0 := ⟨by unfold FD; kernel_rfl⟩
instance cf43 : ICF Tryz.prog 43 := ⟨fun _ _ => Tryz.call43 _ _⟩
instance sl36 : ISL Tryz.prog 36 102 := ⟨by unfold SL; kernel_rfl⟩
instance ty102 : ITY Tryz.prog 102 2 32 (.agg [(.int .i64 0), (.slice none 0 0)].toArray) := ⟨by unfold TY; kernel_rfl⟩
def rd102 (H : AHeap) (v : Value) (a : Atom) : Prop := ∃ v0 : Sv, v = .agg [(.int .i64 a.Rel), v0.v].toArray ∧ (RdS 3 rdInt) H v0.v a.Terms
instance : Mono rd102 := ⟨fun h hi => by
  obtain ⟨v0, h, h0⟩ := h
  exact ⟨v0, h, Mono.up h0 hi⟩⟩
instance : Cells rd102 2 := ⟨fun h => by
  obtain ⟨v0, rfl, h0⟩ := h
  exact ⟨rfl, rfl⟩⟩
def ow102 : ORel Atom := fun F H v a => ∃ (v0 : Sv) (F0 : List Nat), v = .agg [(.int .i64 a.Rel), v0.v].toArray ∧ F0 = F ∧ (OwnS 3 (roE rdInt)) F0 H v0.v a.Terms
instance : Keep ow102 := ⟨fun h hi hg => by
  obtain ⟨v0, F0, rfl, rfl, h0⟩ := h
  exact ⟨v0, F0, rfl, rfl, Keep.keep h0 hi (fun k hk => hg k (by simp [hk]))⟩⟩
instance : Local ow102 := ⟨fun h hg => by
  obtain ⟨v0, F0, rfl, rfl, h0⟩ := h
  exact ⟨v0, F0, rfl, rfl, Local.keep h0 (fun k hk => hg k (by simp [hk]))⟩⟩
instance : Owns ow102 := ⟨fun h k hk => by
  obtain ⟨v0, F0, rfl, rfl, h0⟩ := h
  exact Owns.owns h0 k hk
⟩
instance : OCells ow102 2 := ⟨fun h => by
  obtain ⟨v0, F0, rfl, rfl, h0⟩ := h
  exact ⟨rfl, rfl⟩⟩
instance : Frz ow102 rd102 := ⟨fun h hg => by
  obtain ⟨v0, F0, rfl, rfl, h0⟩ := h
  exact ⟨v0, rfl, Frz.frz h0 (fun k hk => hg k (by simp [hk]))⟩⟩
instance cf75 : ICF Tryz.prog 75 := ⟨fun _ _ => Tryz.call75 _ _⟩
instance fd94_0 : IFD Tryz.prog 94 0 0 := ⟨by unfold FD; kernel_rfl⟩
instance fd102_0 : IFD Tryz.prog 102 0 0 := ⟨by unfold FD; kernel_rfl⟩
instance fd102_1 : IFD Tryz.prog 102 1 1 := ⟨by unfold FD; kernel_rfl⟩
instance ag102 : IAG Tryz.prog 102 true := ⟨by unfold AG; kernel_rfl⟩
theorem mk102 {a : Atom} {v0 : Sv} {F0 : List Nat} : Mk ow102 F0 (.agg [(.int .i64 a.Rel), v0.v].toArray) a [cown (OwnS 3 (roE rdInt)) F0 v0.v a.Terms] :=
  ⟨fun H h => ⟨v0, F0, rfl, rfl, h (cown (OwnS 3 (roE rdInt)) F0 v0.v a.Terms) (by simp)⟩, by simp [cown]⟩
instance fd38_1 : IFD Tryz.prog 38 1 1 := ⟨by unfold FD; kernel_rfl⟩
instance ty36 : ITY Tryz.prog 36 1 24 (.slice none 0 0) := ⟨by unfold TY; kernel_rfl⟩
instance ag38 : IAG Tryz.prog 38 true := ⟨by unfold AG; kernel_rfl⟩
instance cf28 : ICF Tryz.prog 28 := ⟨fun _ _ => Tryz.call28 _ _⟩
instance ty58 : ITY Tryz.prog 58 3 72 (.agg [(.slice none 0 0), (.slice none 0 0), (.slice none 0 0)].toArray) := ⟨by unfold TY; kernel_rfl⟩
instance cf13 : ICF Tryz.prog 13 := ⟨fun _ _ => Tryz.call13 _ _⟩
instance sl40 : ISL Tryz.prog 40 80 := ⟨by unfold SL; kernel_rfl⟩
instance ty80 : ITY Tryz.prog 80 2 32 (.agg [(.int .i64 0), (.slice none 0 0)].toArray) := ⟨by unfold TY; kernel_rfl⟩
def rd80 (H : AHeap) (v : Value) (a : Fact) : Prop := ∃ v0 : Sv, v = .agg [(.int .i64 a.Rel), v0.v].toArray ∧ (RdS 3 rdInt) H v0.v a.Values
instance : Mono rd80 := ⟨fun h hi => by
  obtain ⟨v0, h, h0⟩ := h
  exact ⟨v0, h, Mono.up h0 hi⟩⟩
instance : Cells rd80 2 := ⟨fun h => by
  obtain ⟨v0, rfl, h0⟩ := h
  exact ⟨rfl, rfl⟩⟩
def ow80 : ORel Fact := fun F H v a => ∃ (v0 : Sv) (F0 : List Nat), v = .agg [(.int .i64 a.Rel), v0.v].toArray ∧ F0 = F ∧ (OwnS 3 (roE rdInt)) F0 H v0.v a.Values
instance : Keep ow80 := ⟨fun h hi hg => by
  obtain ⟨v0, F0, rfl, rfl, h0⟩ := h
  exact ⟨v0, F0, rfl, rfl, Keep.keep h0 hi (fun k hk => hg k (by simp [hk]))⟩⟩
instance : Local ow80 := ⟨fun h hg => by
  obtain ⟨v0, F0, rfl, rfl, h0⟩ := h
  exact ⟨v0, F0, rfl, rfl, Local.keep h0 (fun k hk => hg k (by simp [hk]))⟩⟩
instance : Owns ow80 := ⟨fun h k hk => by
  obtain ⟨v0, F0, rfl, rfl, h0⟩ := h
  exact Owns.owns h0 k hk
⟩
instance : OCells ow80 2 := ⟨fun h => by
  obtain ⟨v0, F0, rfl, rfl, h0⟩ := h
  exact ⟨rfl, rfl⟩⟩
instance : Frz ow80 rd80 := ⟨fun h hg => by
  obtain ⟨v0, F0, rfl, rfl, h0⟩ := h
  exact ⟨v0, rfl, Frz.frz h0 (fun k hk => hg k (by simp [hk]))⟩⟩
instance cf44 : ICF Tryz.prog 44 := ⟨fun _ _ => Tryz.call44 _ _⟩
instance fd68_0 : IFD Tryz.prog 68 0 0 := ⟨by unfold FD; kernel_rfl⟩
instance fd80_0 : IFD Tryz.prog 80 0 0 := ⟨by unfold FD; kernel_rfl⟩
instance fd80_1 : IFD Tryz.prog 80 1 1 := ⟨by unfold FD; kernel_rfl⟩
instance ag80 : IAG Tryz.prog 80 true := ⟨by unfold AG; kernel_rfl⟩
theorem mk80 {a : Fact} {v0 : Sv} {F0 : List Nat} : Mk ow80 F0 (.agg [(.int .i64 a.Rel), v0.v].toArray) a [cown (OwnS 3 (roE rdInt)) F0 v0.v a.Values] :=
  ⟨fun H h => ⟨v0, F0, rfl, rfl, h (cown (OwnS 3 (roE rdInt)) F0 v0.v a.Values) (by simp)⟩, by simp [cown]⟩
instance fd58_0 : IFD Tryz.prog 58 0 0 := ⟨by unfold FD; kernel_rfl⟩
instance ty40 : ITY Tryz.prog 40 1 24 (.slice none 0 0) := ⟨by unfold TY; kernel_rfl⟩
instance fd58_1 : IFD Tryz.prog 58 1 1 := ⟨by unfold FD; kernel_rfl⟩
instance fd58_2 : IFD Tryz.prog 58 2 2 := ⟨by unfold FD; kernel_rfl⟩
instance ag58 : IAG Tryz.prog 58 true := ⟨by unfold AG; kernel_rfl⟩
instance cf27 : ICF Tryz.prog 27 := ⟨fun _ _ => Tryz.call27 _ _⟩
instance cf37 : ICF Tryz.prog 37 := ⟨fun _ _ => Tryz.call37 _ _⟩
instance cf59 : ICF Tryz.prog 59 := ⟨fun _ _ => Tryz.call59 _ _⟩
instance cf68 : ICF Tryz.prog 68 := ⟨fun _ _ => Tryz.call68 _ _⟩
instance cf71 : ICF Tryz.prog 71 := ⟨fun _ _ => Tryz.call71 _ _⟩
def ul77_0_77 (a : Method) (p : Sv) : List Value := [(.int .i64 a.Rel), p.v, (.int .i64 a.Limit), (.int .i64 a.Cost), (.int .i64 a.Quota)]
theorem la77_0_77 {a : Method} : ∀ H e, rd77 H e a → ∃ i : Sv, 0 + 5 ≤ e.cells.size ∧ (e.cells.toList.drop 0).take 5 = ul77_0_77 a i ∧ ∀ c ∈ ([crd (RdS 3 rdInt) i.v a.Inputs] : List Comp), c.P H ∧ c.F = [] := by
  intro H e h
  obtain ⟨v0, rfl, h0⟩ := h
  refine ⟨v0, Nat.le_of_ble_eq_true rfl, rfl, fun c hc => by
    simp only [List.mem_cons, List.not_mem_nil, or_false] at hc
    rcases hc with rfl
    · exact ⟨h0, rfl⟩
⟩
instance cf94 : ICF Tryz.prog 94 := ⟨fun _ _ => Tryz.call94 _ _⟩
instance cf65 : ICF Tryz.prog 65 := ⟨fun _ _ => Tryz.call65 _ _⟩
instance ag36 : IAG Tryz.prog 36 false := ⟨by unfold AG; kernel_rfl⟩
instance cf102 : ICF Tryz.prog 102 := ⟨fun _ _ => Tryz.call102 _ _⟩
theorem lv102_1 {a : Atom} : ∀ H e, rd102 H e a → ∃ w : Sv, e.cells.toList[1]? = some w.v ∧ (RdS 3 rdInt) H w.v a.Terms := by
  intro H e h
  obtain ⟨v0, rfl, h0⟩ := h
  exact ⟨v0, rfl, h0⟩
instance cf142 : ICF Tryz.prog 142 := ⟨fun _ _ => Tryz.call142 _ _⟩
instance cf72 : ICF Tryz.prog 72 := ⟨fun _ _ => Tryz.call72 _ _⟩
instance cf103 : ICF Tryz.prog 103 := ⟨fun _ _ => Tryz.call103 _ _⟩
theorem ni22 : NotInt Tryz.prog 22 := .inr ⟨3, by kernel_rfl⟩
def ul102_0_102 (a : Atom) (p : Sv) : List Value := [(.int .i64 a.Rel), p.v]
theorem la102_0_102 {a : Atom} : ∀ H e, rd102 H e a → ∃ i : Sv, 0 + 2 ≤ e.cells.size ∧ (e.cells.toList.drop 0).take 2 = ul102_0_102 a i ∧ ∀ c ∈ ([crd (RdS 3 rdInt) i.v a.Terms] : List Comp), c.P H ∧ c.F = [] := by
  intro H e h
  obtain ⟨v0, rfl, h0⟩ := h
  refine ⟨v0, Nat.le_of_ble_eq_true rfl, rfl, fun c hc => by
    simp only [List.mem_cons, List.not_mem_nil, or_false] at hc
    rcases hc with rfl
    · exact ⟨h0, rfl⟩
⟩
instance cf101 : ICF Tryz.prog 101 := ⟨fun _ _ => Tryz.call101 _ _⟩
instance cf141 : ICF Tryz.prog 141 := ⟨fun _ _ => Tryz.call141 _ _⟩
instance ag40 : IAG Tryz.prog 40 false := ⟨by unfold AG; kernel_rfl⟩
instance cf38 : ICF Tryz.prog 38 := ⟨fun _ _ => Tryz.call38 _ _⟩
def ul80_0_80 (a : Fact) (p : Sv) : List Value := [(.int .i64 a.Rel), p.v]
theorem la80_0_80 {a : Fact} : ∀ H e, rd80 H e a → ∃ i : Sv, 0 + 2 ≤ e.cells.size ∧ (e.cells.toList.drop 0).take 2 = ul80_0_80 a i ∧ ∀ c ∈ ([crd (RdS 3 rdInt) i.v a.Values] : List Comp), c.P H ∧ c.F = [] := by
  intro H e h
  obtain ⟨v0, rfl, h0⟩ := h
  refine ⟨v0, Nat.le_of_ble_eq_true rfl, rfl, fun c hc => by
    simp only [List.mem_cons, List.not_mem_nil, or_false] at hc
    rcases hc with rfl
    · exact ⟨h0, rfl⟩
⟩
instance cf66 : ICF Tryz.prog 66 := ⟨fun _ _ => Tryz.call66 _ _⟩
instance cf67 : ICF Tryz.prog 67 := ⟨fun _ _ => Tryz.call67 _ _⟩
structure Access where
  Method : Int
  Values : List Int
structure Reached where
  Facts : List Fact
  Values : List Int
  Log : List Access
  Rounds : Int
instance ty73 : ITY Tryz.prog 73 4 80 (.agg [(.slice none 0 0), (.slice none 0 0), (.slice none 0 0), (.int .i64 0)].toArray) := ⟨by unfold TY; kernel_rfl⟩
instance cf40 : ICF Tryz.prog 40 := ⟨fun _ _ => Tryz.call40 _ _⟩
instance cf39 : ICF Tryz.prog 39 := ⟨fun _ _ => Tryz.call39 _ _⟩
instance cf69 : ICF Tryz.prog 69 := ⟨fun _ _ => Tryz.call69 _ _⟩
instance ag73 : IAG Tryz.prog 73 true := ⟨by unfold AG; kernel_rfl⟩
def rd141 (H : AHeap) (v : Value) (a : Access) : Prop := ∃ v0 : Sv, v = .agg [(.int .i64 a.Method), v0.v].toArray ∧ (RdS 3 rdInt) H v0.v a.Values
instance : Mono rd141 := ⟨fun h hi => by
  obtain ⟨v0, h, h0⟩ := h
  exact ⟨v0, h, Mono.up h0 hi⟩⟩
instance : Cells rd141 2 := ⟨fun h => by
  obtain ⟨v0, rfl, h0⟩ := h
  exact ⟨rfl, rfl⟩⟩
def ow141 : ORel Access := fun F H v a => ∃ (v0 : Sv) (F0 : List Nat), v = .agg [(.int .i64 a.Method), v0.v].toArray ∧ F0 = F ∧ (OwnS 3 (roE rdInt)) F0 H v0.v a.Values
instance : Keep ow141 := ⟨fun h hi hg => by
  obtain ⟨v0, F0, rfl, rfl, h0⟩ := h
  exact ⟨v0, F0, rfl, rfl, Keep.keep h0 hi (fun k hk => hg k (by simp [hk]))⟩⟩
instance : Local ow141 := ⟨fun h hg => by
  obtain ⟨v0, F0, rfl, rfl, h0⟩ := h
  exact ⟨v0, F0, rfl, rfl, Local.keep h0 (fun k hk => hg k (by simp [hk]))⟩⟩
instance : Owns ow141 := ⟨fun h k hk => by
  obtain ⟨v0, F0, rfl, rfl, h0⟩ := h
  exact Owns.owns h0 k hk
⟩
instance : OCells ow141 2 := ⟨fun h => by
  obtain ⟨v0, F0, rfl, rfl, h0⟩ := h
  exact ⟨rfl, rfl⟩⟩
instance : Frz ow141 rd141 := ⟨fun h hg => by
  obtain ⟨v0, F0, rfl, rfl, h0⟩ := h
  exact ⟨v0, rfl, Frz.frz h0 (fun k hk => hg k (by simp [hk]))⟩⟩
instance fd73_1 : IFD Tryz.prog 73 1 1 := ⟨by unfold FD; kernel_rfl⟩
instance cf70 : ICF Tryz.prog 70 := ⟨fun _ _ => Tryz.call70 _ _⟩
instance cf104 : ICF Tryz.prog 104 := ⟨fun _ _ => Tryz.call104 _ _⟩
instance fd73_0 : IFD Tryz.prog 73 0 0 := ⟨by unfold FD; kernel_rfl⟩
instance fd73_3 : IFD Tryz.prog 73 3 3 := ⟨by unfold FD; kernel_rfl⟩
instance cf105 : ICF Tryz.prog 105 := ⟨fun _ _ => Tryz.call105 _ _⟩
instance cf143 : ICF Tryz.prog 143 := ⟨fun _ _ => Tryz.call143 _ _⟩
theorem ls80_0 {a : Fact} : ∀ H e, rd80 H e a → e.cells.toList[0]? = some (.int .i64 a.Rel) := by
  intro H e h
  obtain ⟨_, rfl, _⟩ := h
  rfl
theorem lv80_1 {a : Fact} : ∀ H e, rd80 H e a → ∃ w : Sv, e.cells.toList[1]? = some w.v ∧ (RdS 3 rdInt) H w.v a.Values := by
  intro H e h
  obtain ⟨v0, rfl, h0⟩ := h
  exact ⟨v0, rfl, h0⟩
instance cf178 : ICF Tryz.prog 178 := ⟨fun _ _ => Tryz.call178 _ _⟩
theorem ni40 : NotInt Tryz.prog 40 := .inr ⟨80, by kernel_rfl⟩
instance fd73_2 : IFD Tryz.prog 73 2 2 := ⟨by unfold FD; kernel_rfl⟩
instance ag71 : IAG Tryz.prog 71 false := ⟨by unfold AG; kernel_rfl⟩
instance cf144 : ICF Tryz.prog 144 := ⟨fun _ _ => Tryz.call144 _ _⟩
instance sl71 : ISL Tryz.prog 71 141 := ⟨by unfold SL; kernel_rfl⟩
instance ty141 : ITY Tryz.prog 141 2 32 (.agg [(.int .i64 0), (.slice none 0 0)].toArray) := ⟨by unfold TY; kernel_rfl⟩
instance fd141_0 : IFD Tryz.prog 141 0 0 := ⟨by unfold FD; kernel_rfl⟩
theorem ls141_0 {a : Access} : ∀ H e, rd141 H e a → e.cells.toList[0]? = some (.int .i64 a.Method) := by
  intro H e h
  obtain ⟨_, rfl, _⟩ := h
  rfl
instance fd141_1 : IFD Tryz.prog 141 1 1 := ⟨by unfold FD; kernel_rfl⟩
theorem lv141_1 {a : Access} : ∀ H e, rd141 H e a → ∃ w : Sv, e.cells.toList[1]? = some w.v ∧ (RdS 3 rdInt) H w.v a.Values := by
  intro H e h
  obtain ⟨v0, rfl, h0⟩ := h
  exact ⟨v0, rfl, h0⟩
instance cf179 : ICF Tryz.prog 179 := ⟨fun _ _ => Tryz.call179 _ _⟩
instance ag141 : IAG Tryz.prog 141 true := ⟨by unfold AG; kernel_rfl⟩
theorem mk141 {a : Access} {v0 : Sv} {F0 : List Nat} : Mk ow141 F0 (.agg [(.int .i64 a.Method), v0.v].toArray) a [cown (OwnS 3 (roE rdInt)) F0 v0.v a.Values] :=
  ⟨fun H h => ⟨v0, F0, rfl, rfl, h (cown (OwnS 3 (roE rdInt)) F0 v0.v a.Values) (by simp)⟩, by simp [cown]⟩
theorem ni71 : NotInt Tryz.prog 71 := .inr ⟨141, by kernel_rfl⟩
instance ty71 : ITY Tryz.prog 71 1 24 (.slice none 0 0) := ⟨by unfold TY; kernel_rfl⟩
instance cf106 : ICF Tryz.prog 106 := ⟨fun _ _ => Tryz.call106 _ _⟩
instance cf145 : ICF Tryz.prog 145 := ⟨fun _ _ => Tryz.call145 _ _⟩
theorem ls77_2 {a : Method} : ∀ H e, rd77 H e a → e.cells.toList[2]? = some (.int .i64 a.Limit) := by
  intro H e h
  obtain ⟨_, rfl, _⟩ := h
  rfl
theorem lv77_1 {a : Method} : ∀ H e, rd77 H e a → ∃ w : Sv, e.cells.toList[1]? = some w.v ∧ (RdS 3 rdInt) H w.v a.Inputs := by
  intro H e h
  obtain ⟨v0, rfl, h0⟩ := h
  exact ⟨v0, rfl, h0⟩
instance cf180 : ICF Tryz.prog 180 := ⟨fun _ _ => Tryz.call180 _ _⟩
instance sl31 : ISL Tryz.prog 31 22 := ⟨by unfold SL; kernel_rfl⟩
theorem lv22_0 {a : List Int} : ∀ H e, (RdS 3 rdInt) H e a → ∃ w : Sv, e.cells.toList[0]? = some w.v ∧ (RdS 3 rdInt) H w.v a := by
  intro H e h
  obtain ⟨a0, m, rfl⟩ := RdS.len h
  exact ⟨⟨a0, _, m⟩, rfl, h⟩
theorem ni31 : NotInt Tryz.prog 31 := .inr ⟨22, by kernel_rfl⟩
instance cf181 : ICF Tryz.prog 181 := ⟨fun _ _ => Tryz.call181 _ _⟩
def ul141_0_141 (a : Access) (p : Sv) : List Value := [(.int .i64 a.Method), p.v]
theorem la141_0_141 {a : Access} : ∀ H e, rd141 H e a → ∃ i : Sv, 0 + 2 ≤ e.cells.size ∧ (e.cells.toList.drop 0).take 2 = ul141_0_141 a i ∧ ∀ c ∈ ([crd (RdS 3 rdInt) i.v a.Values] : List Comp), c.P H ∧ c.F = [] := by
  intro H e h
  obtain ⟨v0, rfl, h0⟩ := h
  refine ⟨v0, Nat.le_of_ble_eq_true rfl, rfl, fun c hc => by
    simp only [List.mem_cons, List.not_mem_nil, or_false] at hc
    rcases hc with rfl
    · exact ⟨h0, rfl⟩
⟩
instance cf132 : ICF Tryz.prog 132 := ⟨fun _ _ => Tryz.call132 _ _⟩
instance cf60 : ICF Tryz.prog 60 := ⟨fun _ _ => Tryz.call60 _ _⟩
theorem mr141 {a : Access} {v0 : Sv} : Mk (roE rd141) [] (.agg [(.int .i64 a.Method), v0.v].toArray) a [crd (RdS 3 rdInt) v0.v a.Values] :=
  ⟨fun H h => ⟨rfl, v0, rfl, h (crd (RdS 3 rdInt) v0.v a.Values) (by simp)⟩, by simp [crd]⟩
instance cf146 : ICF Tryz.prog 146 := ⟨fun _ _ => Tryz.call146 _ _⟩
instance cf182 : ICF Tryz.prog 182 := ⟨fun _ _ => Tryz.call182 _ _⟩
instance cf147 : ICF Tryz.prog 147 := ⟨fun _ _ => Tryz.call147 _ _⟩
instance cf183 : ICF Tryz.prog 183 := ⟨fun _ _ => Tryz.call183 _ _⟩
instance cf55 : ICF Tryz.prog 55 := ⟨fun _ _ => Tryz.call55 _ _⟩
instance cf87 : ICF Tryz.prog 87 := ⟨fun _ _ => Tryz.call87 _ _⟩
instance cf88 : ICF Tryz.prog 88 := ⟨fun _ _ => Tryz.call88 _ _⟩
instance cf41 : ICF Tryz.prog 41 := ⟨fun _ _ => Tryz.call41 _ _⟩
instance cf74 : ICF Tryz.prog 74 := ⟨fun _ _ => Tryz.call74 _ _⟩
structure Binding where
  Vars : List Int
  Values : List Int
instance ty126 : ITY Tryz.prog 126 2 48 (.agg [(.slice none 0 0), (.slice none 0 0)].toArray) := ⟨by unfold TY; kernel_rfl⟩
instance sl106 : ISL Tryz.prog 106 126 := ⟨by unfold SL; kernel_rfl⟩
def rd126 (H : AHeap) (v : Value) (a : Binding) : Prop := ∃ v0 v1 : Sv, v = .agg [v0.v, v1.v].toArray ∧ (RdS 3 rdInt) H v0.v a.Vars ∧ (RdS 3 rdInt) H v1.v a.Values
instance : Mono rd126 := ⟨fun h hi => by
  obtain ⟨v0, v1, h, h0, h1⟩ := h
  exact ⟨v0, v1, h, Mono.up h0 hi, Mono.up h1 hi⟩⟩
instance : Cells rd126 2 := ⟨fun h => by
  obtain ⟨v0, v1, rfl, h0, h1⟩ := h
  exact ⟨rfl, rfl⟩⟩
def ow126 : ORel Binding := fun F H v a => ∃ (v0 v1 : Sv) (F0 F1 : List Nat), v = .agg [v0.v, v1.v].toArray ∧ F = (F0 ++ F1) ∧ (OwnS 3 (roE rdInt)) F0 H v0.v a.Vars ∧ (OwnS 3 (roE rdInt)) F1 H v1.v a.Values
instance : Keep ow126 := ⟨fun h hi hg => by
  obtain ⟨v0, v1, F0, F1, rfl, rfl, h0, h1⟩ := h
  exact ⟨v0, v1, F0, F1, rfl, rfl, Keep.keep h0 hi (fun k hk => hg k (by simp [hk])), Keep.keep h1 hi (fun k hk => hg k (by simp [hk]))⟩⟩
instance : Local ow126 := ⟨fun h hg => by
  obtain ⟨v0, v1, F0, F1, rfl, rfl, h0, h1⟩ := h
  exact ⟨v0, v1, F0, F1, rfl, rfl, Local.keep h0 (fun k hk => hg k (by simp [hk])), Local.keep h1 (fun k hk => hg k (by simp [hk]))⟩⟩
instance : Owns ow126 := ⟨fun h k hk => by
  obtain ⟨v0, v1, F0, F1, rfl, rfl, h0, h1⟩ := h
  simp only [List.mem_append] at hk
  rcases hk with hk | hk
  · exact Owns.owns h0 k hk
  · exact Owns.owns h1 k hk
⟩
instance : OCells ow126 2 := ⟨fun h => by
  obtain ⟨v0, v1, F0, F1, rfl, rfl, h0, h1⟩ := h
  exact ⟨rfl, rfl⟩⟩
instance : Frz ow126 rd126 := ⟨fun h hg => by
  obtain ⟨v0, v1, F0, F1, rfl, rfl, h0, h1⟩ := h
  exact ⟨v0, v1, rfl, Frz.frz h0 (fun k hk => hg k (by simp [hk])), Frz.frz h1 (fun k hk => hg k (by simp [hk]))⟩⟩
theorem mk126 {a : Binding} {v0 v1 : Sv} {F0 F1 : List Nat} : Mk ow126 (F0 ++ F1) (.agg [v0.v, v1.v].toArray) a [cown (OwnS 3 (roE rdInt)) F0 v0.v a.Vars, cown (OwnS 3 (roE rdInt)) F1 v1.v a.Values] :=
  ⟨fun H h => ⟨v0, v1, F0, F1, rfl, rfl, h (cown (OwnS 3 (roE rdInt)) F0 v0.v a.Vars) (by simp), h (cown (OwnS 3 (roE rdInt)) F1 v1.v a.Values) (by simp)⟩, by simp [cown]⟩
instance cf109 : ICF Tryz.prog 109 := ⟨fun _ _ => Tryz.call109 _ _⟩
def ul126_0_126 (a : Binding) (p : Sv × Sv) : List Value := [p.1.v, p.2.v]
theorem la126_0_126 {a : Binding} : ∀ H e, rd126 H e a → ∃ i : Sv × Sv, 0 + 2 ≤ e.cells.size ∧ (e.cells.toList.drop 0).take 2 = ul126_0_126 a i ∧ ∀ c ∈ ([crd (RdS 3 rdInt) i.1.v a.Vars, crd (RdS 3 rdInt) i.2.v a.Values] : List Comp), c.P H ∧ c.F = [] := by
  intro H e h
  obtain ⟨v0, v1, rfl, h0, h1⟩ := h
  refine ⟨(v0, v1), Nat.le_of_ble_eq_true rfl, rfl, fun c hc => by
    simp only [List.mem_cons, List.not_mem_nil, or_false] at hc
    rcases hc with rfl | rfl
    · exact ⟨h0, rfl⟩
    · exact ⟨h1, rfl⟩
⟩
instance ag126 : IAG Tryz.prog 126 true := ⟨by unfold AG; kernel_rfl⟩
instance cf149 : ICF Tryz.prog 149 := ⟨fun _ _ => Tryz.call149 _ _⟩
instance cf184 : ICF Tryz.prog 184 := ⟨fun _ _ => Tryz.call184 _ _⟩
instance fd126_0 : IFD Tryz.prog 126 0 0 := ⟨by unfold FD; kernel_rfl⟩
instance fd126_1 : IFD Tryz.prog 126 1 1 := ⟨by unfold FD; kernel_rfl⟩
instance cf107 : ICF Tryz.prog 107 := ⟨fun _ _ => Tryz.call107 _ _⟩
instance cf185 : ICF Tryz.prog 185 := ⟨fun _ _ => Tryz.call185 _ _⟩
instance cf186 : ICF Tryz.prog 186 := ⟨fun _ _ => Tryz.call186 _ _⟩
theorem ni106 : NotInt Tryz.prog 106 := .inr ⟨126, by kernel_rfl⟩
instance cf73 : ICF Tryz.prog 73 := ⟨fun _ _ => Tryz.call73 _ _⟩
instance cf108 : ICF Tryz.prog 108 := ⟨fun _ _ => Tryz.call108 _ _⟩
instance cf148 : ICF Tryz.prog 148 := ⟨fun _ _ => Tryz.call148 _ _⟩
instance cf56 : ICF Tryz.prog 56 := ⟨fun _ _ => Tryz.call56 _ _⟩
instance cf29 : ICF Tryz.prog 29 := ⟨fun _ _ => Tryz.call29 _ _⟩
instance cf45 : ICF Tryz.prog 45 := ⟨fun _ _ => Tryz.call45 _ _⟩
instance cf61 : ICF Tryz.prog 61 := ⟨fun _ _ => Tryz.call61 _ _⟩
instance cf79 : ICF Tryz.prog 79 := ⟨fun _ _ => Tryz.call79 _ _⟩
instance cf110 : ICF Tryz.prog 110 := ⟨fun _ _ => Tryz.call110 _ _⟩
instance cf120 : ICF Tryz.prog 120 := ⟨fun _ _ => Tryz.call120 _ _⟩
instance cf157 : ICF Tryz.prog 157 := ⟨fun _ _ => Tryz.call157 _ _⟩
instance cf121 : ICF Tryz.prog 121 := ⟨fun _ _ => Tryz.call121 _ _⟩
instance cf95 : ICF Tryz.prog 95 := ⟨fun _ _ => Tryz.call95 _ _⟩
instance cf138 : ICF Tryz.prog 138 := ⟨fun _ _ => Tryz.call138 _ _⟩
instance cf96 : ICF Tryz.prog 96 := ⟨fun _ _ => Tryz.call96 _ _⟩
instance cf97 : ICF Tryz.prog 97 := ⟨fun _ _ => Tryz.call97 _ _⟩
instance cf115 : ICF Tryz.prog 115 := ⟨fun _ _ => Tryz.call115 _ _⟩
instance cf139 : ICF Tryz.prog 139 := ⟨fun _ _ => Tryz.call139 _ _⟩
instance cf175 : ICF Tryz.prog 175 := ⟨fun _ _ => Tryz.call175 _ _⟩
instance cf176 : ICF Tryz.prog 176 := ⟨fun _ _ => Tryz.call176 _ _⟩
instance cf177 : ICF Tryz.prog 177 := ⟨fun _ _ => Tryz.call177 _ _⟩
instance cf76 : ICF Tryz.prog 76 := ⟨fun _ _ => Tryz.call76 _ _⟩
instance cf111 : ICF Tryz.prog 111 := ⟨fun _ _ => Tryz.call111 _ _⟩
instance cf150 : ICF Tryz.prog 150 := ⟨fun _ _ => Tryz.call150 _ _⟩
instance cf112 : ICF Tryz.prog 112 := ⟨fun _ _ => Tryz.call112 _ _⟩
instance cf113 : ICF Tryz.prog 113 := ⟨fun _ _ => Tryz.call113 _ _⟩
instance cf151 : ICF Tryz.prog 151 := ⟨fun _ _ => Tryz.call151 _ _⟩
instance cf187 : ICF Tryz.prog 187 := ⟨fun _ _ => Tryz.call187 _ _⟩
instance cf188 : ICF Tryz.prog 188 := ⟨fun _ _ => Tryz.call188 _ _⟩
instance cf85 : ICF Tryz.prog 85 := ⟨fun _ _ => Tryz.call85 _ _⟩
instance cf189 : ICF Tryz.prog 189 := ⟨fun _ _ => Tryz.call189 _ _⟩
instance cf114 : ICF Tryz.prog 114 := ⟨fun _ _ => Tryz.call114 _ _⟩
instance cf152 : ICF Tryz.prog 152 := ⟨fun _ _ => Tryz.call152 _ _⟩
instance cf84 : ICF Tryz.prog 84 := ⟨fun _ _ => Tryz.call84 _ _⟩
instance cf130 : ICF Tryz.prog 130 := ⟨fun _ _ => Tryz.call130 _ _⟩
def lays189_ren : Go.Shelf.Ren := ⟨fun | 189 => 130 | 125 => 174 | 257 => 173 | 128 => 211 | 129 => 212 | 294 => 202 | 295 => 203 | 296 => 204 | 297 => 205 | 298 => 206 | 299 => 207 | 216 => 208 | 300 => 209 | 301 => 210 | 328 => 216 | 329 => 217 | 330 => 218 | 331 => 219 | 332 => 220 | 215 => 156 | 343 => 223 | n => n, fun | 28 => 22 | 3 => 3 | 46 => 171 | 0 => 0 | 51 => 194 | 53 => 196 | 4 => 4 | 183 => 186 | 182 => 185 | 131 => 191 | 5 => 5 | 9 => 9 | 218 => 198 | 222 => 202 | 228 => 206 | 229 => 207 | n => n, fun | n => n⟩
theorem lays189 : Go.Proofs.Lays.n189 Tryz.prog lays189_ren := {
  mixed := by kernel_rfl
  f125 := Tryz.func174.trans (congrArg some (by kernel_rfl))
  f128 := Tryz.func211.trans (congrArg some (by kernel_rfl))
  f129 := Tryz.func212.trans (congrArg some (by kernel_rfl))
  f189 := Tryz.func130.trans (congrArg some (by kernel_rfl))
  f215 := Tryz.func156.trans (congrArg some (by kernel_rfl))
  f216 := Tryz.func208.trans (congrArg some (by kernel_rfl))
  f257 := Tryz.func173.trans (congrArg some (by kernel_rfl))
  f294 := Tryz.func202.trans (congrArg some (by kernel_rfl))
  f295 := Tryz.func203.trans (congrArg some (by kernel_rfl))
  f296 := Tryz.func204.trans (congrArg some (by kernel_rfl))
  f297 := Tryz.func205.trans (congrArg some (by kernel_rfl))
  f298 := Tryz.func206.trans (congrArg some (by kernel_rfl))
  f299 := Tryz.func207.trans (congrArg some (by kernel_rfl))
  f300 := Tryz.func209.trans (congrArg some (by kernel_rfl))
  f301 := Tryz.func210.trans (congrArg some (by kernel_rfl))
  f328 := Tryz.func216.trans (congrArg some (by kernel_rfl))
  f329 := Tryz.func217.trans (congrArg some (by kernel_rfl))
  f330 := Tryz.func218.trans (congrArg some (by kernel_rfl))
  f331 := Tryz.func219.trans (congrArg some (by kernel_rfl))
  f332 := Tryz.func220.trans (congrArg some (by kernel_rfl))
  f343 := Tryz.func223.trans (congrArg some (by kernel_rfl))
  t0 := Tryz.underlying0
  a0 := Tryz.isAgg0
  z0 := Tryz.sizeOf0
  v0 := Tryz.zeroValue0
  t3 := Tryz.underlying3
  a3 := Tryz.isAgg3
  z3 := Tryz.sizeOf3
  v3 := Tryz.zeroValue3
  t4 := Tryz.underlying4
  a4 := Tryz.isAgg4
  z4 := Tryz.sizeOf4
  v4 := Tryz.zeroValue4
  t5 := Tryz.underlying5
  a5 := Tryz.isAgg5
  z5 := Tryz.sizeOf5
  v5 := Tryz.zeroValue5
  t9 := Tryz.underlying9
  a9 := Tryz.isAgg9
  z9 := Tryz.sizeOf9
  v9 := Tryz.zeroValue9
  t28 := Tryz.underlying22
  a28 := Tryz.isAgg22
  z28 := Tryz.sizeOf22
  v28 := Tryz.zeroValue22
  t46 := Tryz.underlying171
  a46 := Tryz.isAgg171
  z46 := Tryz.sizeOf171
  v46 := Tryz.zeroValue171
  t51 := Tryz.underlying194
  a51 := Tryz.isAgg194
  z51 := Tryz.sizeOf194
  v51 := Tryz.zeroValue194
  t53 := Tryz.underlying196
  a53 := Tryz.isAgg196
  z53 := Tryz.sizeOf196
  v53 := Tryz.zeroValue196
  t131 := Tryz.underlying191
  a131 := Tryz.isAgg191
  z131 := Tryz.sizeOf191
  v131 := Tryz.zeroValue191
  t182 := Tryz.underlying185
  a182 := Tryz.isAgg185
  z182 := Tryz.sizeOf185
  v182 := Tryz.zeroValue185
  t183 := Tryz.underlying186
  a183 := Tryz.isAgg186
  z183 := Tryz.sizeOf186
  v183 := Tryz.zeroValue186
  t218 := Tryz.underlying198
  a218 := Tryz.isAgg198
  z218 := Tryz.sizeOf198
  v218 := Tryz.zeroValue198
  t222 := Tryz.underlying202
  a222 := Tryz.isAgg202
  z222 := Tryz.sizeOf202
  v222 := Tryz.zeroValue202
  t228 := Tryz.underlying206
  a228 := Tryz.isAgg206
  z228 := Tryz.sizeOf206
  v228 := Tryz.zeroValue206
  t229 := Tryz.underlying207
  a229 := Tryz.isAgg207
  z229 := Tryz.sizeOf207
  v229 := Tryz.zeroValue207 }
instance cf131 : ICF Tryz.prog 131 := ⟨fun _ _ => Tryz.call131 _ _⟩
def lays2020_ren : Go.Shelf.Ren := ⟨fun | 20 => 131 | n => n, fun | 22 => 22 | 3 => 3 | 4 => 4 | 0 => 0 | n => n, fun | n => n⟩
theorem lays2020 : Go.Proofs.Lays2.n20 Tryz.prog lays2020_ren := {
  mixed := by kernel_rfl
  f20 := Tryz.func131.trans (congrArg some (by kernel_rfl))
  t0 := Tryz.underlying0
  a0 := Tryz.isAgg0
  z0 := Tryz.sizeOf0
  v0 := Tryz.zeroValue0
  t3 := Tryz.underlying3
  a3 := Tryz.isAgg3
  z3 := Tryz.sizeOf3
  v3 := Tryz.zeroValue3
  t4 := Tryz.underlying4
  a4 := Tryz.isAgg4
  z4 := Tryz.sizeOf4
  v4 := Tryz.zeroValue4
  t22 := Tryz.underlying22
  a22 := Tryz.isAgg22
  z22 := Tryz.sizeOf22
  v22 := Tryz.zeroValue22
  i3 := by kernel_rfl }
instance cf153 : ICF Tryz.prog 153 := ⟨fun _ _ => Tryz.call153 _ _⟩
instance cf154 : ICF Tryz.prog 154 := ⟨fun _ _ => Tryz.call154 _ _⟩
instance cf190 : ICF Tryz.prog 190 := ⟨fun _ _ => Tryz.call190 _ _⟩
instance cf46 : ICF Tryz.prog 46 := ⟨fun _ _ => Tryz.call46 _ _⟩
instance cf77 : ICF Tryz.prog 77 := ⟨fun _ _ => Tryz.call77 _ _⟩
instance cf116 : ICF Tryz.prog 116 := ⟨fun _ _ => Tryz.call116 _ _⟩
instance cf155 : ICF Tryz.prog 155 := ⟨fun _ _ => Tryz.call155 _ _⟩
instance cf78 : ICF Tryz.prog 78 := ⟨fun _ _ => Tryz.call78 _ _⟩
instance cf118 : ICF Tryz.prog 118 := ⟨fun _ _ => Tryz.call118 _ _⟩
instance cf156 : ICF Tryz.prog 156 := ⟨fun _ _ => Tryz.call156 _ _⟩
instance cf119 : ICF Tryz.prog 119 := ⟨fun _ _ => Tryz.call119 _ _⟩
instance cf117 : ICF Tryz.prog 117 := ⟨fun _ _ => Tryz.call117 _ _⟩
instance cf49 : ICF Tryz.prog 49 := ⟨fun _ _ => Tryz.call49 _ _⟩
instance cf48 : ICF Tryz.prog 48 := ⟨fun _ _ => Tryz.call48 _ _⟩
instance cf82 : ICF Tryz.prog 82 := ⟨fun _ _ => Tryz.call82 _ _⟩
instance cf125 : ICF Tryz.prog 125 := ⟨fun _ _ => Tryz.call125 _ _⟩
instance cf162 : ICF Tryz.prog 162 := ⟨fun _ _ => Tryz.call162 _ _⟩
instance cf195 : ICF Tryz.prog 195 := ⟨fun _ _ => Tryz.call195 _ _⟩
theorem ik3 : IK Tryz.prog 3 .i64 := by unfold IK; kernel_rfl
theorem lo3_0 {a : Int} : ∀ F H e, (roE rdInt) F H e a → e.cells.toList[0]? = some (.int .i64 a) := by
  intro F H e h
  obtain ⟨-, h⟩ := h
  subst h
  rfl
instance cf83 : ICF Tryz.prog 83 := ⟨fun _ _ => Tryz.call83 _ _⟩
instance cf126 : ICF Tryz.prog 126 := ⟨fun _ _ => Tryz.call126 _ _⟩
instance cf163 : ICF Tryz.prog 163 := ⟨fun _ _ => Tryz.call163 _ _⟩
instance cf140 : ICF Tryz.prog 140 := ⟨fun _ _ => Tryz.call140 _ _⟩
instance cf164 : ICF Tryz.prog 164 := ⟨fun _ _ => Tryz.call164 _ _⟩
instance cf196 : ICF Tryz.prog 196 := ⟨fun _ _ => Tryz.call196 _ _⟩
instance cf214 : ICF Tryz.prog 214 := ⟨fun _ _ => Tryz.call214 _ _⟩
instance cf197 : ICF Tryz.prog 197 := ⟨fun _ _ => Tryz.call197 _ _⟩
instance cf136 : ICF Tryz.prog 136 := ⟨fun _ _ => Tryz.call136 _ _⟩
instance cf90 : ICF Tryz.prog 90 := ⟨fun _ _ => Tryz.call90 _ _⟩
instance cf127 : ICF Tryz.prog 127 := ⟨fun _ _ => Tryz.call127 _ _⟩
instance cf166 : ICF Tryz.prog 166 := ⟨fun _ _ => Tryz.call166 _ _⟩
instance cf172 : ICF Tryz.prog 172 := ⟨fun _ _ => Tryz.call172 _ _⟩
instance cf165 : ICF Tryz.prog 165 := ⟨fun _ _ => Tryz.call165 _ _⟩
instance cf167 : ICF Tryz.prog 167 := ⟨fun _ _ => Tryz.call167 _ _⟩
instance cf169 : ICF Tryz.prog 169 := ⟨fun _ _ => Tryz.call169 _ _⟩
instance cf128 : ICF Tryz.prog 128 := ⟨fun _ _ => Tryz.call128 _ _⟩
instance cf168 : ICF Tryz.prog 168 := ⟨fun _ _ => Tryz.call168 _ _⟩
instance cf198 : ICF Tryz.prog 198 := ⟨fun _ _ => Tryz.call198 _ _⟩
instance cf199 : ICF Tryz.prog 199 := ⟨fun _ _ => Tryz.call199 _ _⟩
instance cf170 : ICF Tryz.prog 170 := ⟨fun _ _ => Tryz.call170 _ _⟩
instance cf171 : ICF Tryz.prog 171 := ⟨fun _ _ => Tryz.call171 _ _⟩
theorem hov200 : ∀ args w, (callFunc 200 args).run Tryz.prog w = ((Extern.SlicesOverlaps.overlaps #[40, 40] #[4] args).run Tryz.prog w).andThen fun v w' => .ok (.value v) w' := fun args w => run_callFunc_extern Tryz.func200 (by kernel_rfl) (by kernel_rfl) (by kernel_rfl) (e := Extern.SlicesOverlaps.overlaps #[40, 40] #[4]) (by kernel_rfl) args w
instance cf129 : ICF Tryz.prog 129 := ⟨fun _ _ => Tryz.call129 _ _⟩
instance cf57 : ICF Tryz.prog 57 := ⟨fun _ _ => Tryz.call57 _ _⟩
instance cf89 : ICF Tryz.prog 89 := ⟨fun _ _ => Tryz.call89 _ _⟩
instance cf133 : ICF Tryz.prog 133 := ⟨fun _ _ => Tryz.call133 _ _⟩
instance cf134 : ICF Tryz.prog 134 := ⟨fun _ _ => Tryz.call134 _ _⟩
instance cf91 : ICF Tryz.prog 91 := ⟨fun _ _ => Tryz.call91 _ _⟩
instance cf135 : ICF Tryz.prog 135 := ⟨fun _ _ => Tryz.call135 _ _⟩
instance cf47 : ICF Tryz.prog 47 := ⟨fun _ _ => Tryz.call47 _ _⟩
instance cf81 : ICF Tryz.prog 81 := ⟨fun _ _ => Tryz.call81 _ _⟩
instance cf124 : ICF Tryz.prog 124 := ⟨fun _ _ => Tryz.call124 _ _⟩
instance cf161 : ICF Tryz.prog 161 := ⟨fun _ _ => Tryz.call161 _ _⟩
instance cf194 : ICF Tryz.prog 194 := ⟨fun _ _ => Tryz.call194 _ _⟩
instance cf193 : ICF Tryz.prog 193 := ⟨fun _ _ => Tryz.call193 _ _⟩
instance cf160 : ICF Tryz.prog 160 := ⟨fun _ _ => Tryz.call160 _ _⟩
instance cf80 : ICF Tryz.prog 80 := ⟨fun _ _ => Tryz.call80 _ _⟩
instance cf123 : ICF Tryz.prog 123 := ⟨fun _ _ => Tryz.call123 _ _⟩
instance cf122 : ICF Tryz.prog 122 := ⟨fun _ _ => Tryz.call122 _ _⟩
instance cf58 : ICF Tryz.prog 58 := ⟨fun _ _ => Tryz.call58 _ _⟩
instance cf92 : ICF Tryz.prog 92 := ⟨fun _ _ => Tryz.call92 _ _⟩
instance cf137 : ICF Tryz.prog 137 := ⟨fun _ _ => Tryz.call137 _ _⟩
instance cf93 : ICF Tryz.prog 93 := ⟨fun _ _ => Tryz.call93 _ _⟩
instance cf158 : ICF Tryz.prog 158 := ⟨fun _ _ => Tryz.call158 _ _⟩
instance cf159 : ICF Tryz.prog 159 := ⟨fun _ _ => Tryz.call159 _ _⟩
theorem hov191 : ∀ args w, (callFunc 191 args).run Tryz.prog w = ((Extern.SlicesOverlaps.overlaps #[31, 31] #[4] args).run Tryz.prog w).andThen fun v w' => .ok (.value v) w' := fun args w => run_callFunc_extern Tryz.func191 (by kernel_rfl) (by kernel_rfl) (by kernel_rfl) (e := Extern.SlicesOverlaps.overlaps #[31, 31] #[4]) (by kernel_rfl) args w
instance cf16 : ICF Tryz.prog 16 := ⟨fun _ _ => Tryz.call16 _ _⟩
instance cf17 : ICF Tryz.prog 17 := ⟨fun _ _ => Tryz.call17 _ _⟩
instance cf50 : ICF Tryz.prog 50 := ⟨fun _ _ => Tryz.call50 _ _⟩
instance cf18 : ICF Tryz.prog 18 := ⟨fun _ _ => Tryz.call18 _ _⟩
instance cf51 : ICF Tryz.prog 51 := ⟨fun _ _ => Tryz.call51 _ _⟩
instance cf86 : ICF Tryz.prog 86 := ⟨fun _ _ => Tryz.call86 _ _⟩
instance cf30 : ICF Tryz.prog 30 := ⟨fun _ _ => Tryz.call30 _ _⟩
instance cf19 : ICF Tryz.prog 19 := ⟨fun _ _ => Tryz.call19 _ _⟩
instance cf52 : ICF Tryz.prog 52 := ⟨fun _ _ => Tryz.call52 _ _⟩
theorem fa64_0 : fieldAt Tryz.prog 64 0 = some (3, 0, 1) := by kernel_rfl
theorem fa64_1 : fieldAt Tryz.prog 64 1 = some (22, 1, 1) := by kernel_rfl
theorem fa64_2 : fieldAt Tryz.prog 64 2 = some (3, 2, 1) := by kernel_rfl
theorem fa64_3 : fieldAt Tryz.prog 64 3 = some (3, 3, 1) := by kernel_rfl
theorem fa64_4 : fieldAt Tryz.prog 64 4 = some (3, 4, 1) := by kernel_rfl
def wf64 (a : Method) : Prop := wfInt a.Rel ∧ (wfSl wfInt) a.Inputs ∧ wfInt a.Limit ∧ wfInt a.Cost ∧ wfInt a.Quota
theorem sh64 : ∀ H v a, rd64 H v a → isAgV v = aggT Tryz.prog 64 := by
  intro H v a h
  obtain ⟨v1, rfl, _⟩ := h
  kernel_rfl
theorem op64 : Opn Tryz.prog 64 rd64 wf64 := by
  intro T enc w fuel cs x h hw ρ H hr hF
  have hl := opn_len fa64_0 h (n := 5) ty64.h.sz.cells
  obtain ⟨ρ0, H0, av0, a0, r0, f0, u0, i0, v0, q0, w0⟩ := opn_field fa64_0 h hw (Opn.int (by kernel_rfl)) hr hF
  obtain ⟨ρ1, H1, av1, a1, r1, f1, u1, i1, v1, q1, w1⟩ := opn_field fa64_1 h hw (Opn.slice (s := 1) (by kernel_rfl) (by kernel_rfl) (by decide) (Nat.lt_of_lt_of_le (by decide) (Nat.le_of_eq (show 8 = _ from by kernel_rfl))) (Opn.int (by kernel_rfl))) r0 f0
  obtain ⟨ρ2, H2, av2, a2, r2, f2, u2, i2, v2, q2, w2⟩ := opn_field fa64_2 h hw (Opn.int (by kernel_rfl)) r1 f1
  obtain ⟨ρ3, H3, av3, a3, r3, f3, u3, i3, v3, q3, w3⟩ := opn_field fa64_3 h hw (Opn.int (by kernel_rfl)) r2 f2
  obtain ⟨ρ4, H4, av4, a4, r4, f4, u4, i4, v4, q4, w4⟩ := opn_field fa64_4 h hw (Opn.int (by kernel_rfl)) r3 f3
  obtain rfl : av0 = (.int .i64 a0) := q0
  replace v0 := v0.up (((u1.trans u2).trans u3).trans u4)
  obtain ⟨sa1, sm1, rfl⟩ := RdS.len q1
  replace v1 := v1.one rfl
  replace v1 := v1.up ((u2.trans u3).trans u4)
  obtain rfl : av2 = (.int .i64 a2) := q2
  replace v2 := v2.up (u3.trans u4)
  obtain rfl : av3 = (.int .i64 a3) := q3
  replace v3 := v3.up u4
  obtain rfl : av4 = (.int .i64 a4) := q4
  have hv := RelVs.field (o := 0) v0 (RelVs.field (o := 1) v1 (RelVs.field (o := 2) v2 (RelVs.field (o := 3) v3 (RelVs.field (o := 4) v4 (RelVs.end hl)))))
  rw [List.drop_zero] at hv
  refine ⟨ρ4, H4, (.agg [(.int .i64 a0), (.slice sa1 a1.length sm1), (.int .i64 a2), (.int .i64 a3), (.int .i64 a4)].toArray : Value), ({ Rel := a0, Inputs := a1, Limit := a2, Cost := a3, Quota := a4 } : Method), r4, f4, ((((u0.trans u1).trans u2).trans u3).trans u4), ((((i0.trans i1).trans i2).trans i3).trans i4), ?_, ?_, w0, w1, w2, w3, w4⟩
  · exact hv
  · exact ⟨⟨sa1, _, sm1⟩, rfl, (Mono.up q1 ((i2.trans i3).trans i4))⟩
def rd26 (H : AHeap) (v : Value) (a : Query) : Prop := ∃ v0 v1 : Sv, v = .agg [v0.v, v1.v].toArray ∧ (RdS 3 rdInt) H v0.v a.Head ∧ (RdS 94 rd94) H v1.v a.Atoms
instance : Mono rd26 := ⟨fun h hi => by
  obtain ⟨v0, v1, h, h0, h1⟩ := h
  exact ⟨v0, v1, h, Mono.up h0 hi, Mono.up h1 hi⟩⟩
instance : Cells rd26 2 := ⟨fun h => by
  obtain ⟨v0, v1, rfl, h0, h1⟩ := h
  exact ⟨rfl, rfl⟩⟩
theorem fa94_0 : fieldAt Tryz.prog 94 0 = some (3, 0, 1) := by kernel_rfl
theorem fa94_1 : fieldAt Tryz.prog 94 1 = some (22, 1, 1) := by kernel_rfl
def wf94 (a : Atom) : Prop := wfInt a.Rel ∧ (wfSl wfInt) a.Terms
theorem sh94 : ∀ H v a, rd94 H v a → isAgV v = aggT Tryz.prog 94 := by
  intro H v a h
  obtain ⟨v1, rfl, _⟩ := h
  kernel_rfl
theorem op94 : Opn Tryz.prog 94 rd94 wf94 := by
  intro T enc w fuel cs x h hw ρ H hr hF
  have hl := opn_len fa94_0 h (n := 2) ty94.h.sz.cells
  obtain ⟨ρ0, H0, av0, a0, r0, f0, u0, i0, v0, q0, w0⟩ := opn_field fa94_0 h hw (Opn.int (by kernel_rfl)) hr hF
  obtain ⟨ρ1, H1, av1, a1, r1, f1, u1, i1, v1, q1, w1⟩ := opn_field fa94_1 h hw (Opn.slice (s := 1) (by kernel_rfl) (by kernel_rfl) (by decide) (Nat.lt_of_lt_of_le (by decide) (Nat.le_of_eq (show 8 = _ from by kernel_rfl))) (Opn.int (by kernel_rfl))) r0 f0
  obtain rfl : av0 = (.int .i64 a0) := q0
  replace v0 := v0.up u1
  obtain ⟨sa1, sm1, rfl⟩ := RdS.len q1
  replace v1 := v1.one rfl
  have hv := RelVs.field (o := 0) v0 (RelVs.field (o := 1) v1 (RelVs.end hl))
  rw [List.drop_zero] at hv
  refine ⟨ρ1, H1, (.agg [(.int .i64 a0), (.slice sa1 a1.length sm1)].toArray : Value), ({ Rel := a0, Terms := a1 } : Atom), r1, f1, (u0.trans u1), (i0.trans i1), ?_, ?_, w0, w1⟩
  · exact hv
  · exact ⟨⟨sa1, _, sm1⟩, rfl, q1⟩
theorem fa26_0 : fieldAt Tryz.prog 26 0 = some (22, 0, 1) := by kernel_rfl
theorem fa26_1 : fieldAt Tryz.prog 26 1 = some (24, 1, 1) := by kernel_rfl
def wf26 (a : Query) : Prop := (wfSl wfInt) a.Head ∧ (wfSl wf94) a.Atoms
theorem sh26 : ∀ H v a, rd26 H v a → isAgV v = aggT Tryz.prog 26 := by
  intro H v a h
  obtain ⟨v0, v1, rfl, _, _⟩ := h
  kernel_rfl
theorem op26 : Opn Tryz.prog 26 rd26 wf26 := by
  intro T enc w fuel cs x h hw ρ H hr hF
  have hl := opn_len fa26_0 h (n := 2) ty26.h.sz.cells
  obtain ⟨ρ0, H0, av0, a0, r0, f0, u0, i0, v0, q0, w0⟩ := opn_field fa26_0 h hw (Opn.slice (s := 1) (by kernel_rfl) (by kernel_rfl) (by decide) (Nat.lt_of_lt_of_le (by decide) (Nat.le_of_eq (show 8 = _ from by kernel_rfl))) (Opn.int (by kernel_rfl))) hr hF
  obtain ⟨ρ1, H1, av1, a1, r1, f1, u1, i1, v1, q1, w1⟩ := opn_field fa26_1 h hw (Opn.slice (s := 2) (by kernel_rfl) (by kernel_rfl) (by decide) (Nat.lt_of_lt_of_le (by decide) (Nat.le_of_eq (show 32 = _ from by kernel_rfl))) op94) r0 f0
  obtain ⟨sa0, sm0, rfl⟩ := RdS.len q0
  replace v0 := v0.one rfl
  replace v0 := v0.up u1
  obtain ⟨sa1, sm1, rfl⟩ := RdS.len q1
  replace v1 := v1.one rfl
  have hv := RelVs.field (o := 0) v0 (RelVs.field (o := 1) v1 (RelVs.end hl))
  rw [List.drop_zero] at hv
  refine ⟨ρ1, H1, (.agg [(.slice sa0 a0.length sm0), (.slice sa1 a1.length sm1)].toArray : Value), ({ Head := a0, Atoms := a1 } : Query), r1, f1, (u0.trans u1), (i0.trans i1), ?_, ?_, w0, w1⟩
  · exact hv
  · exact ⟨⟨sa0, _, sm0⟩, ⟨sa1, _, sm1⟩, rfl, (Mono.up q0 i1), q1⟩
def rd54 (H : AHeap) (v : Value) (a : Certificate) : Prop := ∃ v0 v1 v2 : Sv, v = .agg [v0.v, v1.v, v2.v].toArray ∧ (RdS 68 rd68) H v0.v a.All ∧ (RdS 68 rd68) H v1.v a.Some ∧ (RdS 3 rdInt) H v2.v a.Tuple
instance : Mono rd54 := ⟨fun h hi => by
  obtain ⟨v0, v1, v2, h, h0, h1, h2⟩ := h
  exact ⟨v0, v1, v2, h, Mono.up h0 hi, Mono.up h1 hi, Mono.up h2 hi⟩⟩
instance : Cells rd54 3 := ⟨fun h => by
  obtain ⟨v0, v1, v2, rfl, h0, h1, h2⟩ := h
  exact ⟨rfl, rfl⟩⟩
theorem fa68_0 : fieldAt Tryz.prog 68 0 = some (3, 0, 1) := by kernel_rfl
theorem fa68_1 : fieldAt Tryz.prog 68 1 = some (22, 1, 1) := by kernel_rfl
def wf68 (a : Fact) : Prop := wfInt a.Rel ∧ (wfSl wfInt) a.Values
theorem sh68 : ∀ H v a, rd68 H v a → isAgV v = aggT Tryz.prog 68 := by
  intro H v a h
  obtain ⟨v1, rfl, _⟩ := h
  kernel_rfl
theorem op68 : Opn Tryz.prog 68 rd68 wf68 := by
  intro T enc w fuel cs x h hw ρ H hr hF
  have hl := opn_len fa68_0 h (n := 2) ty68.h.sz.cells
  obtain ⟨ρ0, H0, av0, a0, r0, f0, u0, i0, v0, q0, w0⟩ := opn_field fa68_0 h hw (Opn.int (by kernel_rfl)) hr hF
  obtain ⟨ρ1, H1, av1, a1, r1, f1, u1, i1, v1, q1, w1⟩ := opn_field fa68_1 h hw (Opn.slice (s := 1) (by kernel_rfl) (by kernel_rfl) (by decide) (Nat.lt_of_lt_of_le (by decide) (Nat.le_of_eq (show 8 = _ from by kernel_rfl))) (Opn.int (by kernel_rfl))) r0 f0
  obtain rfl : av0 = (.int .i64 a0) := q0
  replace v0 := v0.up u1
  obtain ⟨sa1, sm1, rfl⟩ := RdS.len q1
  replace v1 := v1.one rfl
  have hv := RelVs.field (o := 0) v0 (RelVs.field (o := 1) v1 (RelVs.end hl))
  rw [List.drop_zero] at hv
  refine ⟨ρ1, H1, (.agg [(.int .i64 a0), (.slice sa1 a1.length sm1)].toArray : Value), ({ Rel := a0, Values := a1 } : Fact), r1, f1, (u0.trans u1), (i0.trans i1), ?_, ?_, w0, w1⟩
  · exact hv
  · exact ⟨⟨sa1, _, sm1⟩, rfl, q1⟩
theorem fa54_0 : fieldAt Tryz.prog 54 0 = some (27, 0, 1) := by kernel_rfl
theorem fa54_1 : fieldAt Tryz.prog 54 1 = some (27, 1, 1) := by kernel_rfl
theorem fa54_2 : fieldAt Tryz.prog 54 2 = some (22, 2, 1) := by kernel_rfl
def wf54 (a : Certificate) : Prop := (wfSl wf68) a.All ∧ (wfSl wf68) a.Some ∧ (wfSl wfInt) a.Tuple
theorem sh54 : ∀ H v a, rd54 H v a → isAgV v = aggT Tryz.prog 54 := by
  intro H v a h
  obtain ⟨v0, v1, v2, rfl, _, _, _⟩ := h
  kernel_rfl
theorem op54 : Opn Tryz.prog 54 rd54 wf54 := by
  intro T enc w fuel cs x h hw ρ H hr hF
  have hl := opn_len fa54_0 h (n := 3) ty54.h.sz.cells
  obtain ⟨ρ0, H0, av0, a0, r0, f0, u0, i0, v0, q0, w0⟩ := opn_field fa54_0 h hw (Opn.slice (s := 2) (by kernel_rfl) (by kernel_rfl) (by decide) (Nat.lt_of_lt_of_le (by decide) (Nat.le_of_eq (show 32 = _ from by kernel_rfl))) op68) hr hF
  obtain ⟨ρ1, H1, av1, a1, r1, f1, u1, i1, v1, q1, w1⟩ := opn_field fa54_1 h hw (Opn.slice (s := 2) (by kernel_rfl) (by kernel_rfl) (by decide) (Nat.lt_of_lt_of_le (by decide) (Nat.le_of_eq (show 32 = _ from by kernel_rfl))) op68) r0 f0
  obtain ⟨ρ2, H2, av2, a2, r2, f2, u2, i2, v2, q2, w2⟩ := opn_field fa54_2 h hw (Opn.slice (s := 1) (by kernel_rfl) (by kernel_rfl) (by decide) (Nat.lt_of_lt_of_le (by decide) (Nat.le_of_eq (show 8 = _ from by kernel_rfl))) (Opn.int (by kernel_rfl))) r1 f1
  obtain ⟨sa0, sm0, rfl⟩ := RdS.len q0
  replace v0 := v0.one rfl
  replace v0 := v0.up (u1.trans u2)
  obtain ⟨sa1, sm1, rfl⟩ := RdS.len q1
  replace v1 := v1.one rfl
  replace v1 := v1.up u2
  obtain ⟨sa2, sm2, rfl⟩ := RdS.len q2
  replace v2 := v2.one rfl
  have hv := RelVs.field (o := 0) v0 (RelVs.field (o := 1) v1 (RelVs.field (o := 2) v2 (RelVs.end hl)))
  rw [List.drop_zero] at hv
  refine ⟨ρ2, H2, (.agg [(.slice sa0 a0.length sm0), (.slice sa1 a1.length sm1), (.slice sa2 a2.length sm2)].toArray : Value), ({ All := a0, Some := a1, Tuple := a2 } : Certificate), r2, f2, ((u0.trans u1).trans u2), ((i0.trans i1).trans i2), ?_, ?_, w0, w1, w2⟩
  · exact hv
  · exact ⟨⟨sa0, _, sm0⟩, ⟨sa1, _, sm1⟩, ⟨sa2, _, sm2⟩, rfl, (Mono.up q0 (i1.trans i2)), (Mono.up q1 i2), q2⟩

/-! laws.szIntS -/
def l_szIntS (a_a : List Int) (a_left : Int) : Option (Int) :=
  if (decide (((IntKind.i64.wrap (a_left - (a_a.length : Int))) : Int) < 0)) then (
    some (-1))
  else (
    some (IntKind.i64.wrap (a_left - (a_a.length : Int))))
theorem l_szIntS_ok (a_a : List Int) (v0_0 : Sv) (a_left : Int) (R : Int) (hF : l_szIntS a_a a_left = some R) :
    Fw.Spec Tryz.prog 34 [v0_0.v, (.int .i64 a_left)] [crd (RdS 3 rdInt) v0_0.v a_a] (fun _ : Unit => (.int .i64 R)) (fun _ => []) := by
  refine Spec_enter (n := 12) Tryz.func34 rfl rfl (rs := [.tmp 4]) rfl rfl rfl ?_
  intro H0 F0
  unfold l_szIntS at hF
  iterate 15 refine au ?_
  refine Cc (fun hb1 => ?_) (fun hb1 => ?_)
  · rw [if_pos hb1] at hF
    iterate 4 refine au ?_
    cases hF
    exact Er ()
  rw [if_neg (nt hb1)] at hF
  iterate 6 refine au ?_
  cases hF
  exact Er ()

/-! laws.szMethod -/
def l_szMethod (a_a : Method) (a_left : Int) : Option (Int) :=
  (l_szIntS a_a.Inputs a_left).bind fun r2 =>
  if (decide ((r2 : Int) < 0)) then (
    some (-1))
  else (
    some r2)
theorem l_szMethod_ok (a_a : Method) (v0_1 : Sv) (a_left : Int) (R : Int) (hF : l_szMethod a_a a_left = some R) :
    Fw.Spec Tryz.prog 33 [(.agg [(.int .i64 a_a.Rel), v0_1.v, (.int .i64 a_a.Limit), (.int .i64 a_a.Cost), (.int .i64 a_a.Quota)].toArray), (.int .i64 a_left)] [crd (RdS 3 rdInt) v0_1.v a_a.Inputs] (fun _ : Unit => (.int .i64 R)) (fun _ => []) := by
  refine Spec_enter (n := 12) Tryz.func33 rfl rfl (rs := [.tmp 4]) rfl rfl rfl ?_
  intro H0 F0
  unfold l_szMethod at hF
  refine au ?_
  refine AbR (fun k1 => ?_)
  iterate 6 refine au ?_
  obtain ⟨r2, hx3, hF⟩ := bind_some hF
  refine Cx0 (l_szIntS_ok _ _ _ _ hx3) (fun _ => ?_)
  iterate 7 refine au ?_
  refine Cc (fun hb5 => ?_) (fun hb5 => ?_)
  · rw [if_pos hb5] at hF
    iterate 4 refine au ?_
    cases hF
    exact Er ()
  rw [if_neg (nt hb5)] at hF
  iterate 6 refine au ?_
  cases hF
  exact Er ()

/-! laws.szMethodS -/
def l_szMethodS_L1 : List Method → Nat → Int → Option (Int)
  | [], k5, c1 => some c1
  | x7 :: rest6, k5, c1 => (l_szMethod x7 c1).bind fun r17 =>
    if (decide ((r17 : Int) < 0)) then (
      some (-1))
    else (
      l_szMethodS_L1 rest6 (k5 + 1) r17)
def l_szMethodS (a_a : List Method) (a_left : Int) : Option (Int) :=
  if (decide (((IntKind.i64.wrap (a_left - (a_a.length : Int))) : Int) < 0)) then (
    some (-1))
  else (
    l_szMethodS_L1 a_a 0 (IntKind.i64.wrap (a_left - (a_a.length : Int))))
theorem l_szMethodS_ok (a_a : List Method) (v0_0 : Sv) (a_left : Int) (R : Int) (hF : l_szMethodS a_a a_left = some R) :
    Fw.Spec Tryz.prog 6 [v0_0.v, (.int .i64 a_left)] [crd (RdS 64 rd64) v0_0.v a_a] (fun _ : Unit => (.int .i64 R)) (fun _ => []) := by
  refine Spec_enter (n := 27) Tryz.func6 rfl rfl (rs := [.tmp 4]) rfl rfl rfl ?_
  intro H0 F0
  unfold l_szMethodS at hF
  iterate 15 refine au ?_
  refine Cc (fun hb22 => ?_) (fun hb22 => ?_)
  · rw [if_pos hb22] at hF
    iterate 4 refine au ?_
    cases hF
    exact Er ()
  rw [if_neg (nt hb22)] at hF
  iterate 5 refine au ?_
  refine CW_block (CW_loop (m := a_a.length) (fun m3 f' cs' => ∃ (g : Fr) (k5 : Nat) (rest6 : List Method) (c1 : Int), m3 = rest6.length ∧ f' = updL g [(0, v0_0.v), (1, (.int .i64 c1)), (5, (.int .i64 (k5 : Int)))] ∧ List.drop k5 a_a = rest6 ∧ Ent cs' [crd (RdS 64 rd64) v0_0.v a_a] ∧ l_szMethodS_L1 rest6 k5 c1 = some R) ⟨_, 0, _, _, rfl, eqA, rfl, entA, hF⟩ ?_)
  clear hF
  rintro m3 _ _ ⟨g4, k5, rest6, c1, rfl, rfl, hd8, hE, hF⟩
  refine K_ent hE ?_
  clear hE
  refine K_pure (c := crd (RdS 64 rd64) v0_0.v a_a) .h crd_bound (fun hbd13 => ?_)
  rcases rest6 with _ | ⟨x7, rest6⟩
  · have hk9 := List.drop_eq_nil_iff.1 hd8
    rw [l_szMethodS_L1] at hF
    iterate 7 refine au ?_
    refine CdF ?_
    iterate 9 refine au ?_
    cases hF
    exact Er ()
  obtain ⟨hk9, hx10, hd11⟩ := drop_cons hd8
  rw [l_szMethodS_L1] at hF
  iterate 7 refine au ?_
  refine CdT ?_
  iterate 5 refine au ?_
  refine Ai hx10 (fun k14 j15 => ?_)
  refine AlA1 (ul64_0_64 x7) la64_0_64 (fun p16 => ?_)
  refine au ?_
  obtain ⟨r17, hx18, hF⟩ := bind_some hF
  refine Cx0 (l_szMethod_ok _ _ _ _ hx18) (fun _ => ?_)
  iterate 6 refine au ?_
  refine Cc (fun hb21 => ?_) (fun hb21 => ?_)
  · rw [if_pos hb21] at hF
    iterate 4 refine au ?_
    cases hF
    exact Er ()
  rw [if_neg (nt hb21)] at hF
  iterate 6 refine au ?_
  rw [wk k5]
  exact ⟨_, Nat.lt_succ_self _, _, k5 + 1, rest6, _, rfl, eqA, hd11, entA, hF⟩

/-! laws.szAtom -/
def l_szAtom (a_a : Atom) (a_left : Int) : Option (Int) :=
  (l_szIntS a_a.Terms a_left).bind fun r2 =>
  if (decide ((r2 : Int) < 0)) then (
    some (-1))
  else (
    some r2)
theorem l_szAtom_ok (a_a : Atom) (v0_1 : Sv) (a_left : Int) (R : Int) (hF : l_szAtom a_a a_left = some R) :
    Fw.Spec Tryz.prog 64 [(.agg [(.int .i64 a_a.Rel), v0_1.v].toArray), (.int .i64 a_left)] [crd (RdS 3 rdInt) v0_1.v a_a.Terms] (fun _ : Unit => (.int .i64 R)) (fun _ => []) := by
  refine Spec_enter (n := 12) Tryz.func64 rfl rfl (rs := [.tmp 4]) rfl rfl rfl ?_
  intro H0 F0
  unfold l_szAtom at hF
  refine au ?_
  refine AbR (fun k1 => ?_)
  iterate 6 refine au ?_
  obtain ⟨r2, hx3, hF⟩ := bind_some hF
  refine Cx0 (l_szIntS_ok _ _ _ _ hx3) (fun _ => ?_)
  iterate 7 refine au ?_
  refine Cc (fun hb5 => ?_) (fun hb5 => ?_)
  · rw [if_pos hb5] at hF
    iterate 4 refine au ?_
    cases hF
    exact Er ()
  rw [if_neg (nt hb5)] at hF
  iterate 6 refine au ?_
  cases hF
  exact Er ()

/-! laws.szAtomS -/
def l_szAtomS_L1 : List Atom → Nat → Int → Option (Int)
  | [], k5, c1 => some c1
  | x7 :: rest6, k5, c1 => (l_szAtom x7 c1).bind fun r17 =>
    if (decide ((r17 : Int) < 0)) then (
      some (-1))
    else (
      l_szAtomS_L1 rest6 (k5 + 1) r17)
def l_szAtomS (a_a : List Atom) (a_left : Int) : Option (Int) :=
  if (decide (((IntKind.i64.wrap (a_left - (a_a.length : Int))) : Int) < 0)) then (
    some (-1))
  else (
    l_szAtomS_L1 a_a 0 (IntKind.i64.wrap (a_left - (a_a.length : Int))))
theorem l_szAtomS_ok (a_a : List Atom) (v0_0 : Sv) (a_left : Int) (R : Int) (hF : l_szAtomS a_a a_left = some R) :
    Fw.Spec Tryz.prog 35 [v0_0.v, (.int .i64 a_left)] [crd (RdS 94 rd94) v0_0.v a_a] (fun _ : Unit => (.int .i64 R)) (fun _ => []) := by
  refine Spec_enter (n := 27) Tryz.func35 rfl rfl (rs := [.tmp 4]) rfl rfl rfl ?_
  intro H0 F0
  unfold l_szAtomS at hF
  iterate 15 refine au ?_
  refine Cc (fun hb22 => ?_) (fun hb22 => ?_)
  · rw [if_pos hb22] at hF
    iterate 4 refine au ?_
    cases hF
    exact Er ()
  rw [if_neg (nt hb22)] at hF
  iterate 5 refine au ?_
  refine CW_block (CW_loop (m := a_a.length) (fun m3 f' cs' => ∃ (g : Fr) (k5 : Nat) (rest6 : List Atom) (c1 : Int), m3 = rest6.length ∧ f' = updL g [(0, v0_0.v), (1, (.int .i64 c1)), (5, (.int .i64 (k5 : Int)))] ∧ List.drop k5 a_a = rest6 ∧ Ent cs' [crd (RdS 94 rd94) v0_0.v a_a] ∧ l_szAtomS_L1 rest6 k5 c1 = some R) ⟨_, 0, _, _, rfl, eqA, rfl, entA, hF⟩ ?_)
  clear hF
  rintro m3 _ _ ⟨g4, k5, rest6, c1, rfl, rfl, hd8, hE, hF⟩
  refine K_ent hE ?_
  clear hE
  refine K_pure (c := crd (RdS 94 rd94) v0_0.v a_a) .h crd_bound (fun hbd13 => ?_)
  rcases rest6 with _ | ⟨x7, rest6⟩
  · have hk9 := List.drop_eq_nil_iff.1 hd8
    rw [l_szAtomS_L1] at hF
    iterate 7 refine au ?_
    refine CdF ?_
    iterate 9 refine au ?_
    cases hF
    exact Er ()
  obtain ⟨hk9, hx10, hd11⟩ := drop_cons hd8
  rw [l_szAtomS_L1] at hF
  iterate 7 refine au ?_
  refine CdT ?_
  iterate 5 refine au ?_
  refine Ai hx10 (fun k14 j15 => ?_)
  refine AlA1 (ul94_0_94 x7) la94_0_94 (fun p16 => ?_)
  refine au ?_
  obtain ⟨r17, hx18, hF⟩ := bind_some hF
  refine Cx0 (l_szAtom_ok _ _ _ _ hx18) (fun _ => ?_)
  iterate 6 refine au ?_
  refine Cc (fun hb21 => ?_) (fun hb21 => ?_)
  · rw [if_pos hb21] at hF
    iterate 4 refine au ?_
    cases hF
    exact Er ()
  rw [if_neg (nt hb21)] at hF
  iterate 6 refine au ?_
  rw [wk k5]
  exact ⟨_, Nat.lt_succ_self _, _, k5 + 1, rest6, _, rfl, eqA, hd11, entA, hF⟩

/-! laws.szQuery -/
def l_szQuery (a_a : Query) (a_left : Int) : Option (Int) :=
  (l_szIntS a_a.Head a_left).bind fun r2 =>
  if (decide ((r2 : Int) < 0)) then (
    some (-1))
  else (
    (l_szAtomS a_a.Atoms r2).bind fun r5 =>
    if (decide ((r5 : Int) < 0)) then (
      some (-1))
    else (
      some r5))
theorem l_szQuery_ok (a_a : Query) (v0_0 : Sv) (v0_1 : Sv) (a_left : Int) (R : Int) (hF : l_szQuery a_a a_left = some R) :
    Fw.Spec Tryz.prog 7 [(.agg [v0_0.v, v0_1.v].toArray), (.int .i64 a_left)] [crd (RdS 3 rdInt) v0_0.v a_a.Head, crd (RdS 94 rd94) v0_1.v a_a.Atoms] (fun _ : Unit => (.int .i64 R)) (fun _ => []) := by
  refine Spec_enter (n := 18) Tryz.func7 rfl rfl (rs := [.tmp 4]) rfl rfl rfl ?_
  intro H0 F0
  unfold l_szQuery at hF
  refine au ?_
  refine AbR (fun k1 => ?_)
  iterate 6 refine au ?_
  obtain ⟨r2, hx3, hF⟩ := bind_some hF
  refine Cx0 (l_szIntS_ok _ _ _ _ hx3) (fun _ => ?_)
  iterate 7 refine au ?_
  refine Cc (fun hb9 => ?_) (fun hb9 => ?_)
  · rw [if_pos hb9] at hF
    iterate 4 refine au ?_
    cases hF
    exact Er ()
  rw [if_neg (nt hb9)] at hF
  iterate 5 refine au ?_
  obtain ⟨r5, hx6, hF⟩ := bind_some hF
  refine Cx0 (l_szAtomS_ok _ _ _ _ hx6) (fun _ => ?_)
  iterate 7 refine au ?_
  refine Cc (fun hb8 => ?_) (fun hb8 => ?_)
  · rw [if_pos hb8] at hF
    iterate 4 refine au ?_
    cases hF
    exact Er ()
  rw [if_neg (nt hb8)] at hF
  iterate 6 refine au ?_
  cases hF
  exact Er ()

/-! laws.szFact -/
def l_szFact (a_a : Fact) (a_left : Int) : Option (Int) :=
  (l_szIntS a_a.Values a_left).bind fun r2 =>
  if (decide ((r2 : Int) < 0)) then (
    some (-1))
  else (
    some r2)
theorem l_szFact_ok (a_a : Fact) (v0_1 : Sv) (a_left : Int) (R : Int) (hF : l_szFact a_a a_left = some R) :
    Fw.Spec Tryz.prog 36 [(.agg [(.int .i64 a_a.Rel), v0_1.v].toArray), (.int .i64 a_left)] [crd (RdS 3 rdInt) v0_1.v a_a.Values] (fun _ : Unit => (.int .i64 R)) (fun _ => []) := by
  refine Spec_enter (n := 12) Tryz.func36 rfl rfl (rs := [.tmp 4]) rfl rfl rfl ?_
  intro H0 F0
  unfold l_szFact at hF
  refine au ?_
  refine AbR (fun k1 => ?_)
  iterate 6 refine au ?_
  obtain ⟨r2, hx3, hF⟩ := bind_some hF
  refine Cx0 (l_szIntS_ok _ _ _ _ hx3) (fun _ => ?_)
  iterate 7 refine au ?_
  refine Cc (fun hb5 => ?_) (fun hb5 => ?_)
  · rw [if_pos hb5] at hF
    iterate 4 refine au ?_
    cases hF
    exact Er ()
  rw [if_neg (nt hb5)] at hF
  iterate 6 refine au ?_
  cases hF
  exact Er ()

/-! laws.szFactS -/
def l_szFactS_L1 : List Fact → Nat → Int → Option (Int)
  | [], k5, c1 => some c1
  | x7 :: rest6, k5, c1 => (l_szFact x7 c1).bind fun r17 =>
    if (decide ((r17 : Int) < 0)) then (
      some (-1))
    else (
      l_szFactS_L1 rest6 (k5 + 1) r17)
def l_szFactS (a_a : List Fact) (a_left : Int) : Option (Int) :=
  if (decide (((IntKind.i64.wrap (a_left - (a_a.length : Int))) : Int) < 0)) then (
    some (-1))
  else (
    l_szFactS_L1 a_a 0 (IntKind.i64.wrap (a_left - (a_a.length : Int))))
theorem l_szFactS_ok (a_a : List Fact) (v0_0 : Sv) (a_left : Int) (R : Int) (hF : l_szFactS a_a a_left = some R) :
    Fw.Spec Tryz.prog 8 [v0_0.v, (.int .i64 a_left)] [crd (RdS 68 rd68) v0_0.v a_a] (fun _ : Unit => (.int .i64 R)) (fun _ => []) := by
  refine Spec_enter (n := 27) Tryz.func8 rfl rfl (rs := [.tmp 4]) rfl rfl rfl ?_
  intro H0 F0
  unfold l_szFactS at hF
  iterate 15 refine au ?_
  refine Cc (fun hb22 => ?_) (fun hb22 => ?_)
  · rw [if_pos hb22] at hF
    iterate 4 refine au ?_
    cases hF
    exact Er ()
  rw [if_neg (nt hb22)] at hF
  iterate 5 refine au ?_
  refine CW_block (CW_loop (m := a_a.length) (fun m3 f' cs' => ∃ (g : Fr) (k5 : Nat) (rest6 : List Fact) (c1 : Int), m3 = rest6.length ∧ f' = updL g [(0, v0_0.v), (1, (.int .i64 c1)), (5, (.int .i64 (k5 : Int)))] ∧ List.drop k5 a_a = rest6 ∧ Ent cs' [crd (RdS 68 rd68) v0_0.v a_a] ∧ l_szFactS_L1 rest6 k5 c1 = some R) ⟨_, 0, _, _, rfl, eqA, rfl, entA, hF⟩ ?_)
  clear hF
  rintro m3 _ _ ⟨g4, k5, rest6, c1, rfl, rfl, hd8, hE, hF⟩
  refine K_ent hE ?_
  clear hE
  refine K_pure (c := crd (RdS 68 rd68) v0_0.v a_a) .h crd_bound (fun hbd13 => ?_)
  rcases rest6 with _ | ⟨x7, rest6⟩
  · have hk9 := List.drop_eq_nil_iff.1 hd8
    rw [l_szFactS_L1] at hF
    iterate 7 refine au ?_
    refine CdF ?_
    iterate 9 refine au ?_
    cases hF
    exact Er ()
  obtain ⟨hk9, hx10, hd11⟩ := drop_cons hd8
  rw [l_szFactS_L1] at hF
  iterate 7 refine au ?_
  refine CdT ?_
  iterate 5 refine au ?_
  refine Ai hx10 (fun k14 j15 => ?_)
  refine AlA1 (ul68_0_68 x7) la68_0_68 (fun p16 => ?_)
  refine au ?_
  obtain ⟨r17, hx18, hF⟩ := bind_some hF
  refine Cx0 (l_szFact_ok _ _ _ _ hx18) (fun _ => ?_)
  iterate 6 refine au ?_
  refine Cc (fun hb21 => ?_) (fun hb21 => ?_)
  · rw [if_pos hb21] at hF
    iterate 4 refine au ?_
    cases hF
    exact Er ()
  rw [if_neg (nt hb21)] at hF
  iterate 6 refine au ?_
  rw [wk k5]
  exact ⟨_, Nat.lt_succ_self _, _, k5 + 1, rest6, _, rfl, eqA, hd11, entA, hF⟩

/-! laws.szCertificate -/
def l_szCertificate (a_a : Certificate) (a_left : Int) : Option (Int) :=
  (l_szFactS a_a.All a_left).bind fun r2 =>
  if (decide ((r2 : Int) < 0)) then (
    some (-1))
  else (
    (l_szFactS a_a.Some r2).bind fun r5 =>
    if (decide ((r5 : Int) < 0)) then (
      some (-1))
    else (
      (l_szIntS a_a.Tuple r5).bind fun r8 =>
      if (decide ((r8 : Int) < 0)) then (
        some (-1))
      else (
        some r8)))
theorem l_szCertificate_ok (a_a : Certificate) (v0_0 : Sv) (v0_1 : Sv) (v0_2 : Sv) (a_left : Int) (R : Int) (hF : l_szCertificate a_a a_left = some R) :
    Fw.Spec Tryz.prog 26 [(.agg [v0_0.v, v0_1.v, v0_2.v].toArray), (.int .i64 a_left)] [crd (RdS 68 rd68) v0_0.v a_a.All, crd (RdS 68 rd68) v0_1.v a_a.Some, crd (RdS 3 rdInt) v0_2.v a_a.Tuple] (fun _ : Unit => (.int .i64 R)) (fun _ => []) := by
  refine Spec_enter (n := 24) Tryz.func26 rfl rfl (rs := [.tmp 4]) rfl rfl rfl ?_
  intro H0 F0
  unfold l_szCertificate at hF
  refine au ?_
  refine AbR (fun k1 => ?_)
  iterate 6 refine au ?_
  obtain ⟨r2, hx3, hF⟩ := bind_some hF
  refine Cx0 (l_szFactS_ok _ _ _ _ hx3) (fun _ => ?_)
  iterate 7 refine au ?_
  refine Cc (fun hb13 => ?_) (fun hb13 => ?_)
  · rw [if_pos hb13] at hF
    iterate 4 refine au ?_
    cases hF
    exact Er ()
  rw [if_neg (nt hb13)] at hF
  iterate 5 refine au ?_
  obtain ⟨r5, hx6, hF⟩ := bind_some hF
  refine Cx0 (l_szFactS_ok _ _ _ _ hx6) (fun _ => ?_)
  iterate 7 refine au ?_
  refine Cc (fun hb12 => ?_) (fun hb12 => ?_)
  · rw [if_pos hb12] at hF
    iterate 4 refine au ?_
    cases hF
    exact Er ()
  rw [if_neg (nt hb12)] at hF
  iterate 5 refine au ?_
  obtain ⟨r8, hx9, hF⟩ := bind_some hF
  refine Cx0 (l_szIntS_ok _ _ _ _ hx9) (fun _ => ?_)
  iterate 7 refine au ?_
  refine Cc (fun hb11 => ?_) (fun hb11 => ?_)
  · rw [if_pos hb11] at hF
    iterate 4 refine au ?_
    cases hF
    exact Er ()
  rw [if_neg (nt hb11)] at hF
  iterate 6 refine au ?_
  cases hF
  exact Er ()

/-! laws.toIntS -/
def l_toIntS_L1 : List Int → Nat → (List Int) → Option ((List Int))
  | [], k32, c27 => some c27
  | x34 :: rest33, k32, c27 => (chk (decide (0 ≤ (k32 : Int)) && decide ((k32 : Int) < (c27.length : Int)))).bind fun u46 =>
    (some (c27.set ((k32 : Int)).toNat x34)).bind fun z48 =>
    l_toIntS_L1 rest33 (k32 + 1) z48
def l_toIntS (a_a : List Int) : Option ((List Int)) :=
  (mkz (a_a.length : Int) (0 : Int)).bind fun z1 =>
  l_toIntS_L1 a_a 0 z1
theorem l_toIntS_ok (a_a : List Int) (v0_0 : Sv) (R : (List Int)) (hF : l_toIntS a_a = some R) :
    Fw.Spec Tryz.prog 10 [v0_0.v] [crd (RdS 3 rdInt) v0_0.v a_a] (fun p : Sv × List Nat => p.1.v) (fun p => [cown (OwnS 3 (roE rdInt)) p.2 p.1.v R]) := by
  refine Spec_enter (n := 22) Tryz.func10 rfl rfl (rs := [.tmp 2]) rfl rfl rfl ?_
  intro H0 F0
  unfold l_toIntS at hF
  iterate 6 refine au ?_
  obtain ⟨z1, hx2, hF⟩ := bind_some hF
  have hm3 := mkz_some hx2
  refine C_new rfl (N_makeSlice (g := true) (c := (a_a.length : Int)) sl22.h ty3.h rfl rfl (by decide) (.tmp rfl rfl) hm3.2.1 hm3.2.2) (fun k4 => ?_)
  refine Cv1 (.cons .h .nil) (own_make (Ro := (roE rdInt)) (E := 3) (a := (0 : Int)) hx2 (fun _ => ⟨rfl, rfl⟩)) ?_
  iterate 6 refine au ?_
  refine CW_block (CW_loop (m := a_a.length) (fun m30 f' cs' => ∃ (g : Fr) (k32 : Nat) (rest33 : List Int) (c27 : List Int) (F28 : List Nat), m30 = rest33.length ∧ f' = updL g [(0, v0_0.v), (3, (.slice (some ⟨k4, 0, none⟩) (a_a.length : Int).toNat 1)), (4, (.int .i64 (k32 : Int)))] ∧ List.drop k32 a_a = rest33 ∧ Ent cs' [crd (RdS 3 rdInt) v0_0.v a_a, cown (OwnS 3 (roE rdInt)) F28 (.slice (some ⟨k4, 0, none⟩) (a_a.length : Int).toNat 1) c27] ∧ l_toIntS_L1 rest33 k32 c27 = some R) ⟨_, 0, _, _, [k4], rfl, eqA, rfl, entA, hF⟩ ?_)
  clear hF
  rintro m30 _ _ ⟨g31, k32, rest33, c27, F28, rfl, rfl, hd35, hE, hF⟩
  refine K_ent hE ?_
  clear hE
  refine K_pure (c := crd (RdS 3 rdInt) v0_0.v a_a) .h crd_bound (fun hbd40 => ?_)
  rcases rest33 with _ | ⟨x34, rest33⟩
  · have hk36 := List.drop_eq_nil_iff.1 hd35
    rw [l_toIntS_L1] at hF
    iterate 7 refine au ?_
    refine CdF ?_
    iterate 9 refine au ?_
    cases hF
    exact Er (⟨(some ⟨k4, 0, none⟩), (a_a.length : Int).toNat, 1⟩, F28)
  obtain ⟨hk36, hx37, hd38⟩ := drop_cons hd35
  rw [l_toIntS_L1] at hF
  iterate 7 refine au ?_
  refine CdT ?_
  iterate 7 refine au ?_
  refine Ai hx37 (fun k41 j42 => ?_)
  refine Al ls3_0 ?_
  obtain ⟨u46, hx47, hF⟩ := bind_some hF
  have hi45 := chk_some hx47
  refine C_idxO sl22.h ty3.h.sz (.tmp rfl rfl) (.tmp rfl rfl) (.t (.t .h)) hi45 (fun k43 hk44 => ?_)
  obtain ⟨z48, hx49, hF⟩ := bind_some hF
  replace hx49 := Option.some.inj hx49
  refine C_x1 (.cons (.t (.t .h)) .nil) (X_storeO (Ro := (roE rdInt)) (a := x34) (i := (k32 : Int)) ty3.h.sz rfl (.tmp rfl rfl) (.tmp rfl rfl) hk44 hi45 (Mk_pure (fun _ => rfl)) (fun _ _ _ _ h => by obtain ⟨-, h⟩ := h; cases h; rfl)) (fun F50 => ?_)
  rw [hx49]
  iterate 6 refine au ?_
  rw [wk k32]
  exact ⟨_, Nat.lt_succ_self _, _, k32 + 1, rest33, _, F50, rfl, eqA, hd38, entA, hF⟩

/-! laws.toMethod -/
def l_toMethod (a_a : Method) : Option (Method) :=
  (l_toIntS a_a.Inputs).bind fun r4 =>
  some ({ Rel := a_a.Rel, Inputs := r4, Limit := a_a.Limit, Cost := a_a.Cost, Quota := a_a.Quota } : Method)
theorem l_toMethod_ok (a_a : Method) (v0_1 : Sv) (R : Method) (hF : l_toMethod a_a = some R) :
    Fw.Spec Tryz.prog 42 [(.agg [(.int .i64 a_a.Rel), v0_1.v, (.int .i64 a_a.Limit), (.int .i64 a_a.Cost), (.int .i64 a_a.Quota)].toArray)] [crd (RdS 3 rdInt) v0_1.v a_a.Inputs] (fun p : Sv × List Nat => (.agg [(.int .i64 R.Rel), p.1.v, (.int .i64 R.Limit), (.int .i64 R.Cost), (.int .i64 R.Quota)].toArray)) (fun p => [cown (OwnS 3 (roE rdInt)) p.2 p.1.v R.Inputs]) := by
  refine Spec_enter (n := 21) Tryz.func42 rfl rfl (rs := [.cell 2 77]) rfl rfl rfl ?_
  intro H0 F0
  unfold l_toMethod at hF
  refine au ?_
  refine AbR (fun k1 => ?_)
  refine AnW (fun k2 => ?_)
  iterate 2 refine au ?_
  refine AnW (fun k3 => ?_)
  iterate 5 refine au ?_
  refine As (.agg [(.int .i64 a_a.Rel), (.slice none 0 0), (.int .i64 0), (.int .i64 0), (.int .i64 0)].toArray) ?_
  iterate 4 refine au ?_
  obtain ⟨r4, hx5, hF⟩ := bind_some hF
  refine Cx1 (l_toIntS_ok _ _ _ hx5) (fun p6 => ?_)
  refine au ?_
  refine As (.agg [(.int .i64 a_a.Rel), p6.1.v, (.int .i64 0), (.int .i64 0), (.int .i64 0)].toArray) ?_
  iterate 5 refine au ?_
  refine As (.agg [(.int .i64 a_a.Rel), p6.1.v, (.int .i64 a_a.Limit), (.int .i64 0), (.int .i64 0)].toArray) ?_
  iterate 5 refine au ?_
  refine As (.agg [(.int .i64 a_a.Rel), p6.1.v, (.int .i64 a_a.Limit), (.int .i64 a_a.Cost), (.int .i64 0)].toArray) ?_
  iterate 5 refine au ?_
  refine As (.agg [(.int .i64 a_a.Rel), p6.1.v, (.int .i64 a_a.Limit), (.int .i64 a_a.Cost), (.int .i64 a_a.Quota)].toArray) ?_
  iterate 3 refine au ?_
  refine As (.agg [(.int .i64 a_a.Rel), p6.1.v, (.int .i64 a_a.Limit), (.int .i64 a_a.Cost), (.int .i64 a_a.Quota)].toArray) ?_
  iterate 2 refine au ?_
  cases hF
  exact Er (p6.1, p6.2)

/-! laws.toMethodS -/
def l_toMethodS_L1 : List Method → Nat → (List Method) → Option ((List Method))
  | [], k36, c31 => some c31
  | x38 :: rest37, k36, c31 => (l_toMethod x38).bind fun r48 =>
    (chk (decide (0 ≤ (k36 : Int)) && decide ((k36 : Int) < (c31.length : Int)))).bind fun u54 =>
    (some (c31.set ((k36 : Int)).toNat r48)).bind fun z56 =>
    l_toMethodS_L1 rest37 (k36 + 1) z56
def l_toMethodS (a_a : List Method) : Option ((List Method)) :=
  (mkz (a_a.length : Int) (({ Rel := 0, Inputs := [], Limit := 0, Cost := 0, Quota := 0 } : Method) : Method)).bind fun z1 =>
  l_toMethodS_L1 a_a 0 z1
theorem l_toMethodS_ok (a_a : List Method) (v0_0 : Sv) (R : (List Method)) (hF : l_toMethodS a_a = some R) :
    Fw.Spec Tryz.prog 11 [v0_0.v] [crd (RdS 64 rd64) v0_0.v a_a] (fun p : Sv × List Nat => p.1.v) (fun p => [cown (OwnS 77 ow77) p.2 p.1.v R]) := by
  refine Spec_enter (n := 23) Tryz.func11 rfl rfl (rs := [.tmp 2]) rfl rfl rfl ?_
  intro H0 F0
  unfold l_toMethodS at hF
  iterate 6 refine au ?_
  obtain ⟨z1, hx2, hF⟩ := bind_some hF
  have hm3 := mkz_some hx2
  refine C_new rfl (N_makeSlice (g := true) (c := (a_a.length : Int)) sl34.h ty77.h rfl rfl (by decide) (.tmp rfl rfl) hm3.2.1 hm3.2.2) (fun k4 => ?_)
  refine Cv1 (.cons .h .nil) (own_make (Ro := ow77) (E := 77) (a := (({ Rel := 0, Inputs := [], Limit := 0, Cost := 0, Quota := 0 } : Method) : Method)) hx2 (fun _ => ⟨⟨none, 0, 0⟩, [], rfl, rfl, .inl ⟨rfl, rfl, rfl⟩⟩)) ?_
  iterate 6 refine au ?_
  refine CW_block (CW_loop (m := a_a.length) (fun m34 f' cs' => ∃ (g : Fr) (k36 : Nat) (rest37 : List Method) (c31 : List Method) (F32 : List Nat), m34 = rest37.length ∧ f' = updL g [(0, v0_0.v), (3, (.slice (some ⟨k4, 0, none⟩) (a_a.length : Int).toNat 1)), (4, (.int .i64 (k36 : Int)))] ∧ List.drop k36 a_a = rest37 ∧ Ent cs' [crd (RdS 64 rd64) v0_0.v a_a, cown (OwnS 77 ow77) F32 (.slice (some ⟨k4, 0, none⟩) (a_a.length : Int).toNat 1) c31] ∧ l_toMethodS_L1 rest37 k36 c31 = some R) ⟨_, 0, _, _, [k4], rfl, eqA, rfl, entA, hF⟩ ?_)
  clear hF
  rintro m34 _ _ ⟨g35, k36, rest37, c31, F32, rfl, rfl, hd39, hE, hF⟩
  refine K_ent hE ?_
  clear hE
  refine K_pure (c := crd (RdS 64 rd64) v0_0.v a_a) .h crd_bound (fun hbd44 => ?_)
  rcases rest37 with _ | ⟨x38, rest37⟩
  · have hk40 := List.drop_eq_nil_iff.1 hd39
    rw [l_toMethodS_L1] at hF
    iterate 7 refine au ?_
    refine CdF ?_
    iterate 9 refine au ?_
    cases hF
    exact Er (⟨(some ⟨k4, 0, none⟩), (a_a.length : Int).toNat, 1⟩, F32)
  obtain ⟨hk40, hx41, hd42⟩ := drop_cons hd39
  rw [l_toMethodS_L1] at hF
  iterate 7 refine au ?_
  refine CdT ?_
  iterate 7 refine au ?_
  refine Ai hx41 (fun k45 j46 => ?_)
  refine AlA1 (ul64_0_64 x38) la64_0_64 (fun p47 => ?_)
  obtain ⟨r48, hx49, hF⟩ := bind_some hF
  refine Cx1 (l_toMethod_ok _ _ _ hx49) (fun p50 => ?_)
  obtain ⟨u54, hx55, hF⟩ := bind_some hF
  have hi53 := chk_some hx55
  refine C_idxO sl34.h ty77.h.sz (.tmp rfl rfl) (.tmp rfl rfl) (.t (.t (.t (.t .h)))) hi53 (fun k51 hk52 => ?_)
  obtain ⟨z56, hx57, hF⟩ := bind_some hF
  replace hx57 := Option.some.inj hx57
  refine C_x1 (.cons (.t (.t (.t (.t .h)))) (.cons .h .nil)) (X_storeO (Ro := ow77) (a := r48) (i := (k36 : Int)) ty77.h.sz rfl (.tmp rfl rfl) (.tmp rfl rfl) hk52 hi53 mk77 (fun _ _ _ _ h => by obtain ⟨_, _, rfl, rfl, _⟩ := h; rfl)) (fun F58 => ?_)
  rw [hx57]
  iterate 6 refine au ?_
  rw [wk k36]
  exact ⟨_, Nat.lt_succ_self _, _, k36 + 1, rest37, _, F58, rfl, eqA, hd42, entA, hF⟩

/-! laws.toAtom -/
def l_toAtom (a_a : Atom) : Option (Atom) :=
  (l_toIntS a_a.Terms).bind fun r4 =>
  some ({ Rel := a_a.Rel, Terms := r4 } : Atom)
theorem l_toAtom_ok (a_a : Atom) (v0_1 : Sv) (R : Atom) (hF : l_toAtom a_a = some R) :
    Fw.Spec Tryz.prog 75 [(.agg [(.int .i64 a_a.Rel), v0_1.v].toArray)] [crd (RdS 3 rdInt) v0_1.v a_a.Terms] (fun p : Sv × List Nat => (.agg [(.int .i64 R.Rel), p.1.v].toArray)) (fun p => [cown (OwnS 3 (roE rdInt)) p.2 p.1.v R.Terms]) := by
  refine Spec_enter (n := 12) Tryz.func75 rfl rfl (rs := [.cell 2 102]) rfl rfl rfl ?_
  intro H0 F0
  unfold l_toAtom at hF
  refine au ?_
  refine AbR (fun k1 => ?_)
  refine AnW (fun k2 => ?_)
  iterate 2 refine au ?_
  refine AnW (fun k3 => ?_)
  iterate 5 refine au ?_
  refine As (.agg [(.int .i64 a_a.Rel), (.slice none 0 0)].toArray) ?_
  iterate 4 refine au ?_
  obtain ⟨r4, hx5, hF⟩ := bind_some hF
  refine Cx1 (l_toIntS_ok _ _ _ hx5) (fun p6 => ?_)
  refine au ?_
  refine As (.agg [(.int .i64 a_a.Rel), p6.1.v].toArray) ?_
  iterate 3 refine au ?_
  refine As (.agg [(.int .i64 a_a.Rel), p6.1.v].toArray) ?_
  iterate 2 refine au ?_
  cases hF
  exact Er (p6.1, p6.2)

/-! laws.toAtomS -/
def l_toAtomS_L1 : List Atom → Nat → (List Atom) → Option ((List Atom))
  | [], k36, c31 => some c31
  | x38 :: rest37, k36, c31 => (l_toAtom x38).bind fun r48 =>
    (chk (decide (0 ≤ (k36 : Int)) && decide ((k36 : Int) < (c31.length : Int)))).bind fun u54 =>
    (some (c31.set ((k36 : Int)).toNat r48)).bind fun z56 =>
    l_toAtomS_L1 rest37 (k36 + 1) z56
def l_toAtomS (a_a : List Atom) : Option ((List Atom)) :=
  (mkz (a_a.length : Int) (({ Rel := 0, Terms := [] } : Atom) : Atom)).bind fun z1 =>
  l_toAtomS_L1 a_a 0 z1
theorem l_toAtomS_ok (a_a : List Atom) (v0_0 : Sv) (R : (List Atom)) (hF : l_toAtomS a_a = some R) :
    Fw.Spec Tryz.prog 43 [v0_0.v] [crd (RdS 94 rd94) v0_0.v a_a] (fun p : Sv × List Nat => p.1.v) (fun p => [cown (OwnS 102 ow102) p.2 p.1.v R]) := by
  refine Spec_enter (n := 23) Tryz.func43 rfl rfl (rs := [.tmp 2]) rfl rfl rfl ?_
  intro H0 F0
  unfold l_toAtomS at hF
  iterate 6 refine au ?_
  obtain ⟨z1, hx2, hF⟩ := bind_some hF
  have hm3 := mkz_some hx2
  refine C_new rfl (N_makeSlice (g := true) (c := (a_a.length : Int)) sl36.h ty102.h rfl rfl (by decide) (.tmp rfl rfl) hm3.2.1 hm3.2.2) (fun k4 => ?_)
  refine Cv1 (.cons .h .nil) (own_make (Ro := ow102) (E := 102) (a := (({ Rel := 0, Terms := [] } : Atom) : Atom)) hx2 (fun _ => ⟨⟨none, 0, 0⟩, [], rfl, rfl, .inl ⟨rfl, rfl, rfl⟩⟩)) ?_
  iterate 6 refine au ?_
  refine CW_block (CW_loop (m := a_a.length) (fun m34 f' cs' => ∃ (g : Fr) (k36 : Nat) (rest37 : List Atom) (c31 : List Atom) (F32 : List Nat), m34 = rest37.length ∧ f' = updL g [(0, v0_0.v), (3, (.slice (some ⟨k4, 0, none⟩) (a_a.length : Int).toNat 1)), (4, (.int .i64 (k36 : Int)))] ∧ List.drop k36 a_a = rest37 ∧ Ent cs' [crd (RdS 94 rd94) v0_0.v a_a, cown (OwnS 102 ow102) F32 (.slice (some ⟨k4, 0, none⟩) (a_a.length : Int).toNat 1) c31] ∧ l_toAtomS_L1 rest37 k36 c31 = some R) ⟨_, 0, _, _, [k4], rfl, eqA, rfl, entA, hF⟩ ?_)
  clear hF
  rintro m34 _ _ ⟨g35, k36, rest37, c31, F32, rfl, rfl, hd39, hE, hF⟩
  refine K_ent hE ?_
  clear hE
  refine K_pure (c := crd (RdS 94 rd94) v0_0.v a_a) .h crd_bound (fun hbd44 => ?_)
  rcases rest37 with _ | ⟨x38, rest37⟩
  · have hk40 := List.drop_eq_nil_iff.1 hd39
    rw [l_toAtomS_L1] at hF
    iterate 7 refine au ?_
    refine CdF ?_
    iterate 9 refine au ?_
    cases hF
    exact Er (⟨(some ⟨k4, 0, none⟩), (a_a.length : Int).toNat, 1⟩, F32)
  obtain ⟨hk40, hx41, hd42⟩ := drop_cons hd39
  rw [l_toAtomS_L1] at hF
  iterate 7 refine au ?_
  refine CdT ?_
  iterate 7 refine au ?_
  refine Ai hx41 (fun k45 j46 => ?_)
  refine AlA1 (ul94_0_94 x38) la94_0_94 (fun p47 => ?_)
  obtain ⟨r48, hx49, hF⟩ := bind_some hF
  refine Cx1 (l_toAtom_ok _ _ _ hx49) (fun p50 => ?_)
  obtain ⟨u54, hx55, hF⟩ := bind_some hF
  have hi53 := chk_some hx55
  refine C_idxO sl36.h ty102.h.sz (.tmp rfl rfl) (.tmp rfl rfl) (.t (.t (.t (.t .h)))) hi53 (fun k51 hk52 => ?_)
  obtain ⟨z56, hx57, hF⟩ := bind_some hF
  replace hx57 := Option.some.inj hx57
  refine C_x1 (.cons (.t (.t (.t (.t .h)))) (.cons .h .nil)) (X_storeO (Ro := ow102) (a := r48) (i := (k36 : Int)) ty102.h.sz rfl (.tmp rfl rfl) (.tmp rfl rfl) hk52 hi53 mk102 (fun _ _ _ _ h => by obtain ⟨_, _, rfl, rfl, _⟩ := h; rfl)) (fun F58 => ?_)
  rw [hx57]
  iterate 6 refine au ?_
  rw [wk k36]
  exact ⟨_, Nat.lt_succ_self _, _, k36 + 1, rest37, _, F58, rfl, eqA, hd42, entA, hF⟩

/-! laws.toQuery -/
def l_toQuery (a_a : Query) : Option (Query) :=
  (l_toIntS a_a.Head).bind fun r4 =>
  (l_toAtomS a_a.Atoms).bind fun r7 =>
  some ({ Head := r4, Atoms := r7 } : Query)
theorem l_toQuery_ok (a_a : Query) (v0_0 : Sv) (v0_1 : Sv) (R : Query) (hF : l_toQuery a_a = some R) :
    Fw.Spec Tryz.prog 12 [(.agg [v0_0.v, v0_1.v].toArray)] [crd (RdS 3 rdInt) v0_0.v a_a.Head, crd (RdS 94 rd94) v0_1.v a_a.Atoms] (fun p : Sv × List Nat × Sv × List Nat => (.agg [p.1.v, p.2.2.1.v].toArray)) (fun p => [cown (OwnS 3 (roE rdInt)) p.2.1 p.1.v R.Head, cown (OwnS 102 ow102) p.2.2.2 p.2.2.1.v R.Atoms]) := by
  refine Spec_enter (n := 13) Tryz.func12 rfl rfl (rs := [.cell 2 38]) rfl rfl rfl ?_
  intro H0 F0
  unfold l_toQuery at hF
  refine au ?_
  refine AbR (fun k1 => ?_)
  refine AnW (fun k2 => ?_)
  iterate 2 refine au ?_
  refine AnW (fun k3 => ?_)
  iterate 4 refine au ?_
  obtain ⟨r4, hx5, hF⟩ := bind_some hF
  refine Cx1 (l_toIntS_ok _ _ _ hx5) (fun p6 => ?_)
  refine au ?_
  refine As (.agg [p6.1.v, (.slice none 0 0)].toArray) ?_
  iterate 4 refine au ?_
  obtain ⟨r7, hx8, hF⟩ := bind_some hF
  refine Cx1 (l_toAtomS_ok _ _ _ hx8) (fun p9 => ?_)
  refine au ?_
  refine As (.agg [p6.1.v, p9.1.v].toArray) ?_
  iterate 3 refine au ?_
  refine As (.agg [p6.1.v, p9.1.v].toArray) ?_
  iterate 2 refine au ?_
  cases hF
  exact Er (p6.1, p6.2, p9.1, p9.2)

/-! laws.toFact -/
def l_toFact (a_a : Fact) : Option (Fact) :=
  (l_toIntS a_a.Values).bind fun r4 =>
  some ({ Rel := a_a.Rel, Values := r4 } : Fact)
theorem l_toFact_ok (a_a : Fact) (v0_1 : Sv) (R : Fact) (hF : l_toFact a_a = some R) :
    Fw.Spec Tryz.prog 44 [(.agg [(.int .i64 a_a.Rel), v0_1.v].toArray)] [crd (RdS 3 rdInt) v0_1.v a_a.Values] (fun p : Sv × List Nat => (.agg [(.int .i64 R.Rel), p.1.v].toArray)) (fun p => [cown (OwnS 3 (roE rdInt)) p.2 p.1.v R.Values]) := by
  refine Spec_enter (n := 12) Tryz.func44 rfl rfl (rs := [.cell 2 80]) rfl rfl rfl ?_
  intro H0 F0
  unfold l_toFact at hF
  refine au ?_
  refine AbR (fun k1 => ?_)
  refine AnW (fun k2 => ?_)
  iterate 2 refine au ?_
  refine AnW (fun k3 => ?_)
  iterate 5 refine au ?_
  refine As (.agg [(.int .i64 a_a.Rel), (.slice none 0 0)].toArray) ?_
  iterate 4 refine au ?_
  obtain ⟨r4, hx5, hF⟩ := bind_some hF
  refine Cx1 (l_toIntS_ok _ _ _ hx5) (fun p6 => ?_)
  refine au ?_
  refine As (.agg [(.int .i64 a_a.Rel), p6.1.v].toArray) ?_
  iterate 3 refine au ?_
  refine As (.agg [(.int .i64 a_a.Rel), p6.1.v].toArray) ?_
  iterate 2 refine au ?_
  cases hF
  exact Er (p6.1, p6.2)

/-! laws.toFactS -/
def l_toFactS_L1 : List Fact → Nat → (List Fact) → Option ((List Fact))
  | [], k36, c31 => some c31
  | x38 :: rest37, k36, c31 => (l_toFact x38).bind fun r48 =>
    (chk (decide (0 ≤ (k36 : Int)) && decide ((k36 : Int) < (c31.length : Int)))).bind fun u54 =>
    (some (c31.set ((k36 : Int)).toNat r48)).bind fun z56 =>
    l_toFactS_L1 rest37 (k36 + 1) z56
def l_toFactS (a_a : List Fact) : Option ((List Fact)) :=
  (mkz (a_a.length : Int) (({ Rel := 0, Values := [] } : Fact) : Fact)).bind fun z1 =>
  l_toFactS_L1 a_a 0 z1
theorem l_toFactS_ok (a_a : List Fact) (v0_0 : Sv) (R : (List Fact)) (hF : l_toFactS a_a = some R) :
    Fw.Spec Tryz.prog 13 [v0_0.v] [crd (RdS 68 rd68) v0_0.v a_a] (fun p : Sv × List Nat => p.1.v) (fun p => [cown (OwnS 80 ow80) p.2 p.1.v R]) := by
  refine Spec_enter (n := 23) Tryz.func13 rfl rfl (rs := [.tmp 2]) rfl rfl rfl ?_
  intro H0 F0
  unfold l_toFactS at hF
  iterate 6 refine au ?_
  obtain ⟨z1, hx2, hF⟩ := bind_some hF
  have hm3 := mkz_some hx2
  refine C_new rfl (N_makeSlice (g := true) (c := (a_a.length : Int)) sl40.h ty80.h rfl rfl (by decide) (.tmp rfl rfl) hm3.2.1 hm3.2.2) (fun k4 => ?_)
  refine Cv1 (.cons .h .nil) (own_make (Ro := ow80) (E := 80) (a := (({ Rel := 0, Values := [] } : Fact) : Fact)) hx2 (fun _ => ⟨⟨none, 0, 0⟩, [], rfl, rfl, .inl ⟨rfl, rfl, rfl⟩⟩)) ?_
  iterate 6 refine au ?_
  refine CW_block (CW_loop (m := a_a.length) (fun m34 f' cs' => ∃ (g : Fr) (k36 : Nat) (rest37 : List Fact) (c31 : List Fact) (F32 : List Nat), m34 = rest37.length ∧ f' = updL g [(0, v0_0.v), (3, (.slice (some ⟨k4, 0, none⟩) (a_a.length : Int).toNat 1)), (4, (.int .i64 (k36 : Int)))] ∧ List.drop k36 a_a = rest37 ∧ Ent cs' [crd (RdS 68 rd68) v0_0.v a_a, cown (OwnS 80 ow80) F32 (.slice (some ⟨k4, 0, none⟩) (a_a.length : Int).toNat 1) c31] ∧ l_toFactS_L1 rest37 k36 c31 = some R) ⟨_, 0, _, _, [k4], rfl, eqA, rfl, entA, hF⟩ ?_)
  clear hF
  rintro m34 _ _ ⟨g35, k36, rest37, c31, F32, rfl, rfl, hd39, hE, hF⟩
  refine K_ent hE ?_
  clear hE
  refine K_pure (c := crd (RdS 68 rd68) v0_0.v a_a) .h crd_bound (fun hbd44 => ?_)
  rcases rest37 with _ | ⟨x38, rest37⟩
  · have hk40 := List.drop_eq_nil_iff.1 hd39
    rw [l_toFactS_L1] at hF
    iterate 7 refine au ?_
    refine CdF ?_
    iterate 9 refine au ?_
    cases hF
    exact Er (⟨(some ⟨k4, 0, none⟩), (a_a.length : Int).toNat, 1⟩, F32)
  obtain ⟨hk40, hx41, hd42⟩ := drop_cons hd39
  rw [l_toFactS_L1] at hF
  iterate 7 refine au ?_
  refine CdT ?_
  iterate 7 refine au ?_
  refine Ai hx41 (fun k45 j46 => ?_)
  refine AlA1 (ul68_0_68 x38) la68_0_68 (fun p47 => ?_)
  obtain ⟨r48, hx49, hF⟩ := bind_some hF
  refine Cx1 (l_toFact_ok _ _ _ hx49) (fun p50 => ?_)
  obtain ⟨u54, hx55, hF⟩ := bind_some hF
  have hi53 := chk_some hx55
  refine C_idxO sl40.h ty80.h.sz (.tmp rfl rfl) (.tmp rfl rfl) (.t (.t (.t (.t .h)))) hi53 (fun k51 hk52 => ?_)
  obtain ⟨z56, hx57, hF⟩ := bind_some hF
  replace hx57 := Option.some.inj hx57
  refine C_x1 (.cons (.t (.t (.t (.t .h)))) (.cons .h .nil)) (X_storeO (Ro := ow80) (a := r48) (i := (k36 : Int)) ty80.h.sz rfl (.tmp rfl rfl) (.tmp rfl rfl) hk52 hi53 mk80 (fun _ _ _ _ h => by obtain ⟨_, _, rfl, rfl, _⟩ := h; rfl)) (fun F58 => ?_)
  rw [hx57]
  iterate 6 refine au ?_
  rw [wk k36]
  exact ⟨_, Nat.lt_succ_self _, _, k36 + 1, rest37, _, F58, rfl, eqA, hd42, entA, hF⟩

/-! laws.toCertificate -/
def l_toCertificate (a_a : Certificate) : Option (Certificate) :=
  (l_toFactS a_a.All).bind fun r4 =>
  (l_toFactS a_a.Some).bind fun r7 =>
  (l_toIntS a_a.Tuple).bind fun r10 =>
  some ({ All := r4, Some := r7, Tuple := r10 } : Certificate)
theorem l_toCertificate_ok (a_a : Certificate) (v0_0 : Sv) (v0_1 : Sv) (v0_2 : Sv) (R : Certificate) (hF : l_toCertificate a_a = some R) :
    Fw.Spec Tryz.prog 28 [(.agg [v0_0.v, v0_1.v, v0_2.v].toArray)] [crd (RdS 68 rd68) v0_0.v a_a.All, crd (RdS 68 rd68) v0_1.v a_a.Some, crd (RdS 3 rdInt) v0_2.v a_a.Tuple] (fun p : Sv × List Nat × Sv × List Nat × Sv × List Nat => (.agg [p.1.v, p.2.2.1.v, p.2.2.2.2.1.v].toArray)) (fun p => [cown (OwnS 80 ow80) p.2.1 p.1.v R.All, cown (OwnS 80 ow80) p.2.2.2.1 p.2.2.1.v R.Some, cown (OwnS 3 (roE rdInt)) p.2.2.2.2.2 p.2.2.2.2.1.v R.Tuple]) := by
  refine Spec_enter (n := 17) Tryz.func28 rfl rfl (rs := [.cell 2 58]) rfl rfl rfl ?_
  intro H0 F0
  unfold l_toCertificate at hF
  refine au ?_
  refine AbR (fun k1 => ?_)
  refine AnW (fun k2 => ?_)
  iterate 2 refine au ?_
  refine AnW (fun k3 => ?_)
  iterate 4 refine au ?_
  obtain ⟨r4, hx5, hF⟩ := bind_some hF
  refine Cx1 (l_toFactS_ok _ _ _ hx5) (fun p6 => ?_)
  refine au ?_
  refine As (.agg [p6.1.v, (.slice none 0 0), (.slice none 0 0)].toArray) ?_
  iterate 4 refine au ?_
  obtain ⟨r7, hx8, hF⟩ := bind_some hF
  refine Cx1 (l_toFactS_ok _ _ _ hx8) (fun p9 => ?_)
  refine au ?_
  refine As (.agg [p6.1.v, p9.1.v, (.slice none 0 0)].toArray) ?_
  iterate 4 refine au ?_
  obtain ⟨r10, hx11, hF⟩ := bind_some hF
  refine Cx1 (l_toIntS_ok _ _ _ hx11) (fun p12 => ?_)
  refine au ?_
  refine As (.agg [p6.1.v, p9.1.v, p12.1.v].toArray) ?_
  iterate 3 refine au ?_
  refine As (.agg [p6.1.v, p9.1.v, p12.1.v].toArray) ?_
  iterate 2 refine au ?_
  cases hF
  exact Er (p6.1, p6.2, p9.1, p9.2, p12.1, p12.2)

/-! spec.l1In -/
def s_l1In (a_x : Int) (a_low : Int) (a_high : Int) : Option (Bool) :=
  some ((decide ((a_low : Int) ≤ a_x)) && (decide ((a_x : Int) ≤ a_high)))
theorem s_l1In_ok (a_x : Int) (a_low : Int) (a_high : Int) (R : Bool) (hF : s_l1In a_x a_low a_high = some R) :
    Fw.Spec Tryz.prog 71 [(.int .i64 a_x), (.int .i64 a_low), (.int .i64 a_high)] [] (fun _ : Unit => (.bool R)) (fun _ => []) := by
  refine Spec_enter (n := 15) Tryz.func71 rfl rfl (rs := [.tmp 6]) rfl rfl rfl ?_
  intro H0 F0
  unfold s_l1In at hF
  iterate 4 refine au ?_
  refine C_cut (fun f' cs' => ∃ (g : Fr), f' = updL g [(6, (.bool ((decide ((a_low : Int) ≤ a_x)) && (decide ((a_x : Int) ≤ a_high)))))] ∧ Ent cs' []) ?_ ?_
  · iterate 4 refine au ?_
    rcases Bool.eq_false_or_eq_true (decide ((a_low : Int) ≤ a_x)) with hg1 | hg1
    · rw [hg1]
      try rw [hg1] at hF; dsimp only [cond_true, cond_false] at hF
      iterate 9 refine au ?_
      exact ⟨_, eqA, entA⟩
    rw [hg1]
    try rw [hg1] at hF; dsimp only [cond_true, cond_false] at hF
    iterate 6 refine au ?_
    exact ⟨_, eqA, entA⟩
  rintro _ _ ⟨g2, rfl, hE⟩
  refine K_ent hE ?_
  refine au ?_
  cases hF
  exact Er ()

/-! spec.IsSchema -/
def s_IsSchema_L1 (a_s : List Int) : List Int → Nat → Option (Bool)
  | [], k4 => (s_l1In (a_s.length : Int) 1 3).bind fun r13 =>
    some r13
  | x6 :: rest5, k4 => (s_l1In x6 1 3).bind fun r18 =>
    if (!r18) then (
      some false)
    else (
      s_IsSchema_L1 a_s rest5 (k4 + 1))
def s_IsSchema (a_s : List Int) : Option (Bool) :=
  s_IsSchema_L1 a_s a_s 0
theorem s_IsSchema_ok (a_s : List Int) (v0_0 : Sv) (R : Bool) (hF : s_IsSchema a_s = some R) :
    Fw.Spec Tryz.prog 68 [v0_0.v] [crd (RdS 3 rdInt) v0_0.v a_s] (fun _ : Unit => (.bool R)) (fun _ => []) := by
  refine Spec_enter (n := 19) Tryz.func68 rfl rfl (rs := [.tmp 2]) rfl rfl rfl ?_
  intro H0 F0
  unfold s_IsSchema at hF
  iterate 7 refine au ?_
  refine CW_block (CW_loop (m := a_s.length) (fun m2 f' cs' => ∃ (g : Fr) (k4 : Nat) (rest5 : List Int), m2 = rest5.length ∧ f' = updL g [(0, v0_0.v), (3, (.int .i64 (k4 : Int)))] ∧ List.drop k4 a_s = rest5 ∧ Ent cs' [crd (RdS 3 rdInt) v0_0.v a_s] ∧ s_IsSchema_L1 a_s rest5 k4 = some R) ⟨_, 0, _, rfl, eqA, rfl, entA, hF⟩ ?_)
  clear hF
  rintro m2 _ _ ⟨g3, k4, rest5, rfl, rfl, hd7, hE, hF⟩
  refine K_ent hE ?_
  clear hE
  refine K_pure (c := crd (RdS 3 rdInt) v0_0.v a_s) .h crd_bound (fun hbd12 => ?_)
  rcases rest5 with _ | ⟨x6, rest5⟩
  · have hk8 := List.drop_eq_nil_iff.1 hd7
    rw [s_IsSchema_L1] at hF
    iterate 7 refine au ?_
    refine CdF ?_
    iterate 7 refine au ?_
    obtain ⟨r13, hx14, hF⟩ := bind_some hF
    refine Cx0 (s_l1In_ok _ _ _ _ hx14) (fun _ => ?_)
    iterate 3 refine au ?_
    cases hF
    exact Er ()
  obtain ⟨hk8, hx9, hd10⟩ := drop_cons hd7
  rw [s_IsSchema_L1] at hF
  iterate 7 refine au ?_
  refine CdT ?_
  iterate 5 refine au ?_
  refine Ai hx9 (fun k16 j17 => ?_)
  refine Al ls3_0 ?_
  obtain ⟨r18, hx19, hF⟩ := bind_some hF
  refine Cx0 (s_l1In_ok _ _ _ _ hx19) (fun _ => ?_)
  iterate 2 refine au ?_
  refine Cc (fun hb22 => ?_) (fun hb22 => ?_)
  · rw [if_pos hb22] at hF
    iterate 4 refine au ?_
    cases hF
    exact Er ()
  rw [if_neg (nt hb22)] at hF
  iterate 6 refine au ?_
  rw [wk k4]
  exact ⟨_, Nat.lt_succ_self _, _, k4 + 1, rest5, rfl, eqA, hd10, entA, hF⟩

/-! spec.IsMethod -/
def s_IsMethod_L1 (a_s : List Int) (a_m : Method) : List Int → Nat → Option (Bool)
  | [], k27 => some true
  | x29 :: rest28, k27 => ((ix a_s a_m.Rel).bind fun x40 =>
      (s_l1In x29 0 (IntKind.i64.wrap (x40 - 1))).bind fun r46 =>
      bif (!r46) then (some true)
      else (bif (decide ((0 : Int) < (k27 : Int))) then ((ix a_m.Inputs (IntKind.i64.wrap ((k27 : Int) - 1))).bind fun x53 =>
          some (decide ((x29 : Int) ≤ x53)))
        else (some false))).bind fun o36 =>
    match o36 with
    | c59 => if c59 then (
        some false)
      else (
        s_IsMethod_L1 a_s a_m rest28 (k27 + 1))
def s_IsMethod (a_s : List Int) (a_m : Method) : Option (Bool) :=
  ((s_IsSchema a_s).bind fun r4 =>
    bif (!r4) then (some true)
    else ((s_l1In a_m.Rel 0 (IntKind.i64.wrap ((a_s.length : Int) - 1))).bind fun r8 =>
      bif (!r8) then (some true)
      else ((s_l1In a_m.Limit 0 9).bind fun r12 =>
        bif (!r12) then (some true)
        else ((s_l1In a_m.Cost 0 99).bind fun r16 =>
          bif (!r16) then (some true)
          else ((s_l1In a_m.Quota 1 99).bind fun r20 =>
            some (!r20)))))).bind fun o2 =>
  match o2 with
  | c23 => if c23 then (
      some false)
    else (
      s_IsMethod_L1 a_s a_m a_m.Inputs 0)
theorem s_IsMethod_ok (a_s : List Int) (v0_0 : Sv) (a_m : Method) (v1_1 : Sv) (R : Bool) (hF : s_IsMethod a_s a_m = some R) :
    Fw.Spec Tryz.prog 94 [v0_0.v, (.agg [(.int .i64 a_m.Rel), v1_1.v, (.int .i64 a_m.Limit), (.int .i64 a_m.Cost), (.int .i64 a_m.Quota)].toArray)] [crd (RdS 3 rdInt) v0_0.v a_s, crd (RdS 3 rdInt) v1_1.v a_m.Inputs] (fun _ : Unit => (.bool R)) (fun _ => []) := by
  refine Spec_enter (n := 74) Tryz.func94 rfl rfl (rs := [.tmp 4]) rfl rfl rfl ?_
  intro H0 F0
  unfold s_IsMethod at hF
  refine au ?_
  refine AbR (fun k1 => ?_)
  iterate 3 refine au ?_
  obtain ⟨o2, hio2, hO3⟩ := bind_some hF
  refine au ?_
  refine C_cut (fun f' cs' => ∃ (c23 : Bool) (g : Fr), c23 = o2 ∧ f' = updL g [(0, v0_0.v), (3, (.pointer (some ⟨k1, 0, some 0⟩))), (35, (.bool c23))] ∧ Ent cs' [crd (RdS 3 rdInt) v0_0.v a_s, cboR k1 77 (.agg [(.int .i64 a_m.Rel), v1_1.v, (.int .i64 a_m.Limit), (.int .i64 a_m.Cost), (.int .i64 a_m.Quota)].toArray), crd (RdS 3 rdInt) v1_1.v a_m.Inputs]) ?_ ?_
  · replace hF := hio2
    refine au ?_
    obtain ⟨r4, hx5, hF⟩ := bind_some hF
    refine Cx0 (s_IsSchema_ok _ _ _ hx5) (fun _ => ?_)
    iterate 2 refine au ?_
    rcases Bool.eq_false_or_eq_true (!r4) with hg7 | hg7
    · rw [hg7]
      try rw [hg7] at hF; dsimp only [cond_true, cond_false] at hF
      iterate 27 refine au ?_
      cases hF
      exact ⟨_, _, rfl, eqA, entA⟩
    rw [hg7]
    try rw [hg7] at hF; dsimp only [cond_true, cond_false] at hF
    iterate 11 refine au ?_
    obtain ⟨r8, hx9, hF⟩ := bind_some hF
    refine Cx0 (s_l1In_ok _ _ _ _ hx9) (fun _ => ?_)
    iterate 4 refine au ?_
    rcases Bool.eq_false_or_eq_true (!r8) with hg11 | hg11
    · rw [hg11]
      try rw [hg11] at hF; dsimp only [cond_true, cond_false] at hF
      iterate 18 refine au ?_
      cases hF
      exact ⟨_, _, rfl, eqA, entA⟩
    rw [hg11]
    try rw [hg11] at hF; dsimp only [cond_true, cond_false] at hF
    iterate 5 refine au ?_
    obtain ⟨r12, hx13, hF⟩ := bind_some hF
    refine Cx0 (s_l1In_ok _ _ _ _ hx13) (fun _ => ?_)
    iterate 4 refine au ?_
    rcases Bool.eq_false_or_eq_true (!r12) with hg15 | hg15
    · rw [hg15]
      try rw [hg15] at hF; dsimp only [cond_true, cond_false] at hF
      iterate 12 refine au ?_
      cases hF
      exact ⟨_, _, rfl, eqA, entA⟩
    rw [hg15]
    try rw [hg15] at hF; dsimp only [cond_true, cond_false] at hF
    iterate 5 refine au ?_
    obtain ⟨r16, hx17, hF⟩ := bind_some hF
    refine Cx0 (s_l1In_ok _ _ _ _ hx17) (fun _ => ?_)
    iterate 4 refine au ?_
    rcases Bool.eq_false_or_eq_true (!r16) with hg19 | hg19
    · rw [hg19]
      try rw [hg19] at hF; dsimp only [cond_true, cond_false] at hF
      iterate 6 refine au ?_
      cases hF
      exact ⟨_, _, rfl, eqA, entA⟩
    rw [hg19]
    try rw [hg19] at hF; dsimp only [cond_true, cond_false] at hF
    iterate 5 refine au ?_
    obtain ⟨r20, hx21, hF⟩ := bind_some hF
    refine Cx0 (s_l1In_ok _ _ _ _ hx21) (fun _ => ?_)
    iterate 4 refine au ?_
    cases hF
    exact ⟨_, _, rfl, eqA, entA⟩
  rintro _ _ ⟨c23, g64, rfl, rfl, hE⟩
  replace hF := hO3
  clear hO3
  try dsimp only at hF
  refine K_ent hE ?_
  refine Cc (fun hb63 => ?_) (fun hb63 => ?_)
  · rw [if_pos hb63] at hF
    iterate 4 refine au ?_
    cases hF
    exact Er ()
  rw [if_neg (nt hb63)] at hF
  iterate 5 refine au ?_
  refine CW_block (CW_loop (m := a_m.Inputs.length) (fun m25 f' cs' => ∃ (g : Fr) (k27 : Nat) (rest28 : List Int), m25 = rest28.length ∧ f' = updL g [(0, v0_0.v), (3, (.pointer (some ⟨k1, 0, some 0⟩))), (5, (.int .i64 (k27 : Int)))] ∧ List.drop k27 a_m.Inputs = rest28 ∧ Ent cs' [crd (RdS 3 rdInt) v0_0.v a_s, cboR k1 77 (.agg [(.int .i64 a_m.Rel), v1_1.v, (.int .i64 a_m.Limit), (.int .i64 a_m.Cost), (.int .i64 a_m.Quota)].toArray), crd (RdS 3 rdInt) v1_1.v a_m.Inputs] ∧ s_IsMethod_L1 a_s a_m rest28 k27 = some R) ⟨_, 0, _, rfl, eqA, rfl, entA, hF⟩ ?_)
  clear hF
  rintro m25 _ _ ⟨g26, k27, rest28, rfl, rfl, hd30, hE, hF⟩
  refine K_ent hE ?_
  clear hE
  refine K_pure (c := crd (RdS 3 rdInt) v1_1.v a_m.Inputs) (.t (.t .h)) crd_bound (fun hbd35 => ?_)
  rcases rest28 with _ | ⟨x29, rest28⟩
  · have hk31 := List.drop_eq_nil_iff.1 hd30
    rw [s_IsMethod_L1] at hF
    iterate 8 refine au ?_
    refine CdF ?_
    iterate 8 refine au ?_
    cases hF
    exact Er ()
  obtain ⟨hk31, hx32, hd33⟩ := drop_cons hd30
  rw [s_IsMethod_L1] at hF
  iterate 8 refine au ?_
  refine CdT ?_
  iterate 2 refine au ?_
  obtain ⟨o36, hio36, hO37⟩ := bind_some hF
  refine K_draw [0, 1, 2, 3, 4, 5, 6, 7, 8, 9, 10, 11, 12, 13, 14, 15, 16, 17, 18, 19, 20, 21, 22, 23, 24, 25, 26, 27, 28, 29, 30] [0, 1, 0, 7, 15, 0, 0, 64, 224, 480, 992, 2047, 4095, 8191, 16383, 32767, 65535, 131071, 262143, 131071, 1048575, 2097151, 131071, 4325375, 131071, 16908287, 63045631, 130154495, 268435455, 536870911, 1073741823] [11] mixed (by decide +kernel) ?_
  refine D_cut (fun f' cs' => ∃ (c59 : Bool) (g : Fr), c59 = o36 ∧ f' = updL g [(0, v0_0.v), (3, (.pointer (some ⟨k1, 0, some 0⟩))), (5, (.int .i64 (k27 : Int))), (73, (.bool c59))] ∧ Ent cs' [crd (RdS 3 rdInt) v0_0.v a_s, cboR k1 77 (.agg [(.int .i64 a_m.Rel), v1_1.v, (.int .i64 a_m.Limit), (.int .i64 a_m.Cost), (.int .i64 a_m.Quota)].toArray), crd (RdS 3 rdInt) v1_1.v a_m.Inputs]) ?_ ?_
  · replace hF := hio36
    iterate 3 refine du ?_
    refine Di hx32 (fun k38 j39 => ?_)
    refine Dl ls3_0 ?_
    iterate 3 refine du ?_
    obtain ⟨x40, hx41, hF⟩ := bind_some hF
    obtain ⟨hp42, hx43⟩ := ix_some hx41
    refine Di hx43 (fun k44 j45 => ?_)
    refine Dl ls3_0 ?_
    refine du ?_
    obtain ⟨r46, hx47, hF⟩ := bind_some hF
    refine Dx0 (s_l1In_ok _ _ _ _ hx47) (fun _ => ?_)
    iterate 2 refine du ?_
    rcases Bool.eq_false_or_eq_true (!r46) with hg49 | hg49
    · rw [hg49]
      try rw [hg49] at hF; dsimp only [cond_true, cond_false] at hF
      iterate 18 refine du ?_
      cases hF
      exact ⟨_, _, rfl, eqA, entA⟩
    rw [hg49]
    try rw [hg49] at hF; dsimp only [cond_true, cond_false] at hF
    iterate 3 refine du ?_
    rcases Bool.eq_false_or_eq_true (decide ((0 : Int) < (k27 : Int))) with hg50 | hg50
    · rw [hg50]
      try rw [hg50] at hF; dsimp only [cond_true, cond_false] at hF
      iterate 3 refine du ?_
      refine Di hx32 (fun k51 j52 => ?_)
      refine Dl ls3_0 ?_
      iterate 4 refine du ?_
      obtain ⟨x53, hx54, hF⟩ := bind_some hF
      obtain ⟨hp55, hx56⟩ := ix_some hx54
      refine Di hx56 (fun k57 j58 => ?_)
      refine Dl ls3_0 ?_
      iterate 4 refine du ?_
      cases hF
      exact ⟨_, _, rfl, eqA, entA⟩
    rw [hg50]
    try rw [hg50] at hF; dsimp only [cond_true, cond_false] at hF
    iterate 15 refine du ?_
    cases hF
    exact ⟨_, _, rfl, eqA, entA⟩
  rintro _ _ ⟨c59, g62, rfl, rfl, hE⟩
  replace hF := hO37
  clear hO37
  try dsimp only at hF
  refine K_ent hE ?_
  refine Cc (fun hb61 => ?_) (fun hb61 => ?_)
  · rw [if_pos hb61] at hF
    iterate 4 refine au ?_
    cases hF
    exact Er ()
  rw [if_neg (nt hb61)] at hF
  iterate 6 refine au ?_
  rw [wk k27]
  exact ⟨_, Nat.lt_succ_self _, _, k27 + 1, rest28, rfl, eqA, hd33, entA, hF⟩

/-! spec.AreMethods -/
def s_AreMethods_L1 (a_s : List Int) (a_l : List Method) : List Method → Nat → Option (Bool)
  | [], k4 => ((s_IsSchema a_s).bind fun r15 =>
      bif r15 then (some (decide (((a_l.length : Int) : Int) ≤ 5)))
      else (some false)).bind fun o13 =>
    match o13 with
    | c19 => some c19
  | x6 :: rest5, k4 => (s_IsMethod a_s x6).bind fun r24 =>
    if (!r24) then (
      some false)
    else (
      s_AreMethods_L1 a_s a_l rest5 (k4 + 1))
def s_AreMethods (a_s : List Int) (a_l : List Method) : Option (Bool) :=
  s_AreMethods_L1 a_s a_l a_l 0
theorem s_AreMethods_ok (a_s : List Int) (v0_0 : Sv) (a_l : List Method) (v1_0 : Sv) (R : Bool) (hF : s_AreMethods a_s a_l = some R) :
    Fw.Spec Tryz.prog 59 [v0_0.v, v1_0.v] [crd (RdS 3 rdInt) v0_0.v a_s, crd (RdS 77 rd77) v1_0.v a_l] (fun _ : Unit => (.bool R)) (fun _ => []) := by
  refine Spec_enter (n := 26) Tryz.func59 rfl rfl (rs := [.tmp 4]) rfl rfl rfl ?_
  intro H0 F0
  unfold s_AreMethods at hF
  iterate 7 refine au ?_
  refine CW_block (CW_loop (m := a_l.length) (fun m2 f' cs' => ∃ (g : Fr) (k4 : Nat) (rest5 : List Method), m2 = rest5.length ∧ f' = updL g [(0, v0_0.v), (1, v1_0.v), (5, (.int .i64 (k4 : Int)))] ∧ List.drop k4 a_l = rest5 ∧ Ent cs' [crd (RdS 3 rdInt) v0_0.v a_s, crd (RdS 77 rd77) v1_0.v a_l] ∧ s_AreMethods_L1 a_s a_l rest5 k4 = some R) ⟨_, 0, _, rfl, eqA, rfl, entA, hF⟩ ?_)
  clear hF
  rintro m2 _ _ ⟨g3, k4, rest5, rfl, rfl, hd7, hE, hF⟩
  refine K_ent hE ?_
  clear hE
  refine K_pure (c := crd (RdS 77 rd77) v1_0.v a_l) (.t .h) crd_bound (fun hbd12 => ?_)
  rcases rest5 with _ | ⟨x6, rest5⟩
  · have hk8 := List.drop_eq_nil_iff.1 hd7
    rw [s_AreMethods_L1] at hF
    iterate 7 refine au ?_
    refine CdF ?_
    iterate 4 refine au ?_
    obtain ⟨o13, hio13, hO14⟩ := bind_some hF
    refine au ?_
    refine C_cut (fun f' cs' => ∃ (c19 : Bool) (g : Fr), c19 = o13 ∧ f' = updL g [(4, (.bool c19))] ∧ Ent cs' []) ?_ ?_
    · replace hF := hio13
      refine au ?_
      obtain ⟨r15, hx16, hF⟩ := bind_some hF
      refine Cx0 (s_IsSchema_ok _ _ _ hx16) (fun _ => ?_)
      refine au ?_
      rcases Bool.eq_false_or_eq_true r15 with hg18 | hg18
      · rw [hg18]
        try rw [hg18] at hF; dsimp only [cond_true, cond_false] at hF
        iterate 9 refine au ?_
        cases hF
        exact ⟨_, _, rfl, eqA, entA⟩
      rw [hg18]
      try rw [hg18] at hF; dsimp only [cond_true, cond_false] at hF
      iterate 6 refine au ?_
      cases hF
      exact ⟨_, _, rfl, eqA, entA⟩
    rintro _ _ ⟨c19, g20, rfl, rfl, hE⟩
    replace hF := hO14
    clear hO14
    try dsimp only at hF
    refine K_ent hE ?_
    refine au ?_
    cases hF
    exact Er ()
  obtain ⟨hk8, hx9, hd10⟩ := drop_cons hd7
  rw [s_AreMethods_L1] at hF
  iterate 7 refine au ?_
  refine CdT ?_
  iterate 6 refine au ?_
  refine Ai hx9 (fun k21 j22 => ?_)
  refine AlA1 (ul77_0_77 x6) la77_0_77 (fun p23 => ?_)
  obtain ⟨r24, hx25, hF⟩ := bind_some hF
  refine Cx0 (s_IsMethod_ok _ _ _ _ _ hx25) (fun _ => ?_)
  iterate 2 refine au ?_
  refine Cc (fun hb28 => ?_) (fun hb28 => ?_)
  · rw [if_pos hb28] at hF
    iterate 4 refine au ?_
    cases hF
    exact Er ()
  rw [if_neg (nt hb28)] at hF
  iterate 6 refine au ?_
  rw [wk k4]
  exact ⟨_, Nat.lt_succ_self _, _, k4 + 1, rest5, rfl, eqA, hd10, entA, hF⟩

/-! spec.IsVar -/
def s_IsVar (a_t : Int) : Option (Bool) :=
  (s_l1In a_t 10 17).bind fun r1 =>
  some r1
theorem s_IsVar_ok (a_t : Int) (R : Bool) (hF : s_IsVar a_t = some R) :
    Fw.Spec Tryz.prog 142 [(.int .i64 a_t)] [] (fun _ : Unit => (.bool R)) (fun _ => []) := by
  refine Spec_enter (n := 5) Tryz.func142 rfl rfl (rs := [.tmp 2]) rfl rfl rfl ?_
  intro H0 F0
  unfold s_IsVar at hF
  iterate 5 refine au ?_
  obtain ⟨r1, hx2, hF⟩ := bind_some hF
  refine Cx0 (s_l1In_ok _ _ _ _ hx2) (fun _ => ?_)
  iterate 3 refine au ?_
  cases hF
  exact Er ()

/-! spec.l2Has -/
def s_l2Has_L1 (a_x : Int) : List Int → Nat → Option (Bool)
  | [], k4 => some false
  | x6 :: rest5, k4 => if ((x6 : Int) == a_x) then (
      some true)
    else (
      s_l2Has_L1 a_x rest5 (k4 + 1))
def s_l2Has (a_l : List Int) (a_x : Int) : Option (Bool) :=
  s_l2Has_L1 a_x a_l 0
theorem s_l2Has_ok (a_l : List Int) (v0_0 : Sv) (a_x : Int) (R : Bool) (hF : s_l2Has a_l a_x = some R) :
    Fw.Spec Tryz.prog 103 [v0_0.v, (.int .i64 a_x)] [crd (RdS 3 rdInt) v0_0.v a_l] (fun _ : Unit => (.bool R)) (fun _ => []) := by
  refine Spec_enter (n := 18) Tryz.func103 rfl rfl (rs := [.tmp 4]) rfl rfl rfl ?_
  intro H0 F0
  unfold s_l2Has at hF
  iterate 7 refine au ?_
  refine CW_block (CW_loop (m := a_l.length) (fun m2 f' cs' => ∃ (g : Fr) (k4 : Nat) (rest5 : List Int), m2 = rest5.length ∧ f' = updL g [(0, v0_0.v), (1, (.int .i64 a_x)), (5, (.int .i64 (k4 : Int)))] ∧ List.drop k4 a_l = rest5 ∧ Ent cs' [crd (RdS 3 rdInt) v0_0.v a_l] ∧ s_l2Has_L1 a_x rest5 k4 = some R) ⟨_, 0, _, rfl, eqA, rfl, entA, hF⟩ ?_)
  clear hF
  rintro m2 _ _ ⟨g3, k4, rest5, rfl, rfl, hd7, hE, hF⟩
  refine K_ent hE ?_
  clear hE
  refine K_pure (c := crd (RdS 3 rdInt) v0_0.v a_l) .h crd_bound (fun hbd12 => ?_)
  rcases rest5 with _ | ⟨x6, rest5⟩
  · have hk8 := List.drop_eq_nil_iff.1 hd7
    rw [s_l2Has_L1] at hF
    iterate 7 refine au ?_
    refine CdF ?_
    iterate 8 refine au ?_
    cases hF
    exact Er ()
  obtain ⟨hk8, hx9, hd10⟩ := drop_cons hd7
  rw [s_l2Has_L1] at hF
  iterate 7 refine au ?_
  refine CdT ?_
  iterate 5 refine au ?_
  refine Ai hx9 (fun k13 j14 => ?_)
  refine Al ls3_0 ?_
  iterate 3 refine au ?_
  refine Cc (fun hb16 => ?_) (fun hb16 => ?_)
  · rw [if_pos hb16] at hF
    iterate 4 refine au ?_
    cases hF
    exact Er ()
  rw [if_neg (nt hb16)] at hF
  iterate 6 refine au ?_
  rw [wk k4]
  exact ⟨_, Nat.lt_succ_self _, _, k4 + 1, rest5, rfl, eqA, hd10, entA, hF⟩

/-! spec.l3Put -/
def s_l3Put_L1 (a_x : Int) : List Int → Nat → (List Int) → Bool → Option ((List Int))
  | [], k12, c5, c8 => if (!c8) then (
      (app c5 ([a_x] : List Int)).bind fun z22 =>
      some z22)
    else (
      some c5)
  | x14 :: rest13, k12, c5, c8 => (if ((!c8) && (decide ((a_x : Int) < x14))) then (
        (app c5 ([a_x] : List Int)).bind fun z33 =>
        (app z33 ([x14] : List Int)).bind fun z39 =>
        some (z39, true))
      else (
        (app c5 ([x14] : List Int)).bind fun z45 =>
        some (z45, c8))).bind fun o26 =>
    match o26 with
    | (c49, c52) => s_l3Put_L1 a_x rest13 (k12 + 1) c49 c52
def s_l3Put (a_l : List Int) (a_x : Int) : Option ((List Int)) :=
  (s_l2Has a_l a_x).bind fun r1 =>
  if r1 then (
    some a_l)
  else (
    s_l3Put_L1 a_x a_l 0 ([] : List Int) false)
theorem s_l3Put_ok (a_l : List Int) (v0_0 : Sv) (a_x : Int) (R : (List Int)) (hF : s_l3Put a_l a_x = some R) :
    Fw.Spec Tryz.prog 72 [v0_0.v, (.int .i64 a_x)] [crd (RdS 3 rdInt) v0_0.v a_l] (fun p : Sv => p.v) (fun p => [crd (RdS 3 rdInt) p.v R]) := by
  refine Spec_enter (n := 47) Tryz.func72 rfl rfl (rs := [.tmp 4]) rfl rfl rfl ?_
  intro H0 F0
  unfold s_l3Put at hF
  iterate 7 refine au ?_
  obtain ⟨r1, hx2, hF⟩ := bind_some hF
  refine Cx0 (s_l2Has_ok _ _ _ _ hx2) (fun _ => ?_)
  refine au ?_
  refine Cc (fun hb55 => ?_) (fun hb55 => ?_)
  · rw [if_pos hb55] at hF
    iterate 5 refine au ?_
    cases hF
    exact Er v0_0
  rw [if_neg (nt hb55)] at hF
  iterate 2 refine au ?_
  refine C_new rfl (N_buildSliceT (g := true) sl22.h ty3.h .nil (vs := []) rfl rfl rfl (by simp)) (fun k4 => ?_)
  refine Cv1 (.cons .h .nil) (own_lit (Ro := (roE rdInt)) (E := 3) (F := []) (xs := ([] : List Int)) MkL_nil rfl rfl) ?_
  iterate 9 refine au ?_
  refine CW_block (CW_loop (m := a_l.length) (fun m10 f' cs' => ∃ (g : Fr) (k12 : Nat) (rest13 : List Int) (c5 : List Int) (c8 : Bool) (v6 : Sv) (F7 : List Nat), m10 = rest13.length ∧ f' = updL g [(0, v0_0.v), (1, (.int .i64 a_x)), (5, v6.v), (6, (.bool c8)), (7, (.int .i64 (k12 : Int)))] ∧ List.drop k12 a_l = rest13 ∧ Ent cs' [crd (RdS 3 rdInt) v0_0.v a_l, cown (OwnS 3 (roE rdInt)) F7 v6.v c5] ∧ s_l3Put_L1 a_x rest13 k12 c5 c8 = some R) ⟨_, 0, _, _, _, ⟨(some ⟨k4, 0, none⟩), 0, 1⟩, (k4 :: []), rfl, eqA, rfl, entA, hF⟩ ?_)
  clear hF
  rintro m10 _ _ ⟨g11, k12, rest13, c5, c8, v6, F7, rfl, rfl, hd15, hE, hF⟩
  refine K_ent hE ?_
  clear hE
  refine K_pure (c := crd (RdS 3 rdInt) v0_0.v a_l) .h crd_bound (fun hbd20 => ?_)
  rcases rest13 with _ | ⟨x14, rest13⟩
  · have hk16 := List.drop_eq_nil_iff.1 hd15
    rw [s_l3Put_L1] at hF
    iterate 7 refine au ?_
    refine CdF ?_
    iterate 9 refine au ?_
    refine Cc (fun hb25 => ?_) (fun hb25 => ?_)
    · rw [if_pos hb25] at hF
      iterate 3 refine au ?_
      refine C_new rfl (N_buildSliceT (g := true) sl22.h ty3.h (.cons (.tmp rfl rfl) .nil) (vs := [(.int .i64 a_x)]) rfl rfl rfl (by intro v hv; simp at hv; rcases hv with rfl <;> rfl)) (fun k21 => ?_)
      refine Cv1 (.cons .h .nil) (own_lit (Ro := (roE rdInt)) (E := 3) (F := ([] ++ [])) (xs := ([a_x] : List Int)) (MkL_cons (Mk_pure (fun _ => rfl)) MkL_nil apps) rfl rfl) ?_
      obtain ⟨z22, hx23, hF⟩ := bind_some hF
      refine C_x1 (.cons (.t (.t .h)) (.cons .h .nil)) (X_appendO (Ro := (roE rdInt)) sl22.h ni22 ty3.h rfl rfl rfl (.tmp rfl rfl) (.tmp rfl rfl) hx23 src_own) (fun p24 => ?_)
      iterate 7 refine au ?_
      cases hF
      exact End_ret p24.1 (.tmp rfl rfl .nil) rfl (.frz .h frz_own (.sel (.rd .h rfl .nil)))
    rw [if_neg (nt hb25)] at hF
    iterate 6 refine au ?_
    cases hF
    exact End_ret v6 (.tmp rfl rfl .nil) rfl (.frz (.t .h) frz_own (.sel (.rd .h rfl .nil)))
  obtain ⟨hk16, hx17, hd18⟩ := drop_cons hd15
  rw [s_l3Put_L1] at hF
  iterate 7 refine au ?_
  refine CdT ?_
  refine au ?_
  obtain ⟨o26, hio26, hO27⟩ := bind_some hF
  refine K_cut (fun f' cs' => ∃ (c49 : List Int) (c52 : Bool) (v50 : Sv) (F51 : List Nat) (g : Fr), o26 = (c49, c52) ∧ f' = updL g [(0, v0_0.v), (1, (.int .i64 a_x)), (5, v50.v), (6, (.bool c52)), (7, (.int .i64 (k12 : Int)))] ∧ Ent cs' [crd (RdS 3 rdInt) v0_0.v a_l, cown (OwnS 3 (roE rdInt)) F51 v50.v c49]) ?_ ?_
  · replace hF := hio26
    refine CW_block (K_in (K_region (C_cut (fun f' cs' => ∃ (g : Fr), f' = updL g [(0, v0_0.v), (1, (.int .i64 a_x)), (5, v6.v), (6, (.bool c8)), (7, (.int .i64 (k12 : Int))), (28, (.bool ((!c8) && (decide ((a_x : Int) < x14)))))] ∧ Ent cs' [crd (RdS 3 rdInt) v0_0.v a_l, cown (OwnS 3 (roE rdInt)) F7 v6.v c5]) ?_ ?_)))
    · iterate 3 refine au ?_
      rcases Bool.eq_false_or_eq_true (!c8) with hg28 | hg28
      · rw [hg28]
        try rw [hg28] at hF; dsimp only [cond_true, cond_false] at hF
        iterate 5 refine au ?_
        refine Ai hx17 (fun k29 j30 => ?_)
        refine au ?_
        refine Al ls3_0 ?_
        iterate 6 refine au ?_
        exact ⟨_, eqA, entA⟩
      rw [hg28]
      try rw [hg28] at hF; dsimp only [cond_true, cond_false] at hF
      iterate 8 refine au ?_
      exact ⟨_, eqA, entA⟩
    rintro _ _ ⟨g31, rfl, hE⟩
    refine K_ent hE ?_
    refine Cc (fun hb48 => ?_) (fun hb48 => ?_)
    · rw [if_pos hb48] at hF
      iterate 3 refine au ?_
      refine C_new rfl (N_buildSliceT (g := true) sl22.h ty3.h (.cons (.tmp rfl rfl) .nil) (vs := [(.int .i64 a_x)]) rfl rfl rfl (by intro v hv; simp at hv; rcases hv with rfl <;> rfl)) (fun k32 => ?_)
      refine Cv1 (.cons .h .nil) (own_lit (Ro := (roE rdInt)) (E := 3) (F := ([] ++ [])) (xs := ([a_x] : List Int)) (MkL_cons (Mk_pure (fun _ => rfl)) MkL_nil apps) rfl rfl) ?_
      obtain ⟨z33, hx34, hF⟩ := bind_some hF
      refine C_x1 (.cons (.t (.t .h)) (.cons .h .nil)) (X_appendO (Ro := (roE rdInt)) sl22.h ni22 ty3.h rfl rfl rfl (.tmp rfl rfl) (.tmp rfl rfl) hx34 src_own) (fun p35 => ?_)
      iterate 9 refine au ?_
      refine Ai hx17 (fun k36 j37 => ?_)
      refine Al ls3_0 ?_
      refine C_new rfl (N_buildSliceT (g := true) sl22.h ty3.h (.cons (.tmp rfl rfl) .nil) (vs := [(.int .i64 x14)]) rfl rfl rfl (by intro v hv; simp at hv; rcases hv with rfl <;> rfl)) (fun k38 => ?_)
      refine Cv1 (.cons .h .nil) (own_lit (Ro := (roE rdInt)) (E := 3) (F := ([] ++ [])) (xs := ([x14] : List Int)) (MkL_cons (Mk_pure (fun _ => rfl)) MkL_nil apps) rfl rfl) ?_
      obtain ⟨z39, hx40, hF⟩ := bind_some hF
      refine C_x1 (.cons (.t (.t .h)) (.cons .h .nil)) (X_appendO (Ro := (roE rdInt)) sl22.h ni22 ty3.h rfl rfl rfl (.tmp rfl rfl) (.tmp rfl rfl) hx40 src_own) (fun p41 => ?_)
      iterate 2 refine au ?_
      cases hF
      exact ⟨_, _, p41.1, p41.2, _, rfl, eqA, entA⟩
    rw [if_neg (nt hb48)] at hF
    iterate 5 refine au ?_
    refine Ai hx17 (fun k42 j43 => ?_)
    refine Al ls3_0 ?_
    refine C_new rfl (N_buildSliceT (g := true) sl22.h ty3.h (.cons (.tmp rfl rfl) .nil) (vs := [(.int .i64 x14)]) rfl rfl rfl (by intro v hv; simp at hv; rcases hv with rfl <;> rfl)) (fun k44 => ?_)
    refine Cv1 (.cons .h .nil) (own_lit (Ro := (roE rdInt)) (E := 3) (F := ([] ++ [])) (xs := ([x14] : List Int)) (MkL_cons (Mk_pure (fun _ => rfl)) MkL_nil apps) rfl rfl) ?_
    obtain ⟨z45, hx46, hF⟩ := bind_some hF
    refine C_x1 (.cons (.t (.t (.t .h))) (.cons .h .nil)) (X_appendO (Ro := (roE rdInt)) sl22.h ni22 ty3.h rfl rfl rfl (.tmp rfl rfl) (.tmp rfl rfl) hx46 src_own) (fun p47 => ?_)
    iterate 2 refine au ?_
    cases hF
    exact ⟨_, _, p47.1, p47.2, _, rfl, eqA, entA⟩
  rintro _ _ ⟨c49, c52, v50, F51, g54, rfl, rfl, hE⟩
  replace hF := hO27
  clear hO27
  try dsimp only at hF
  refine K_ent hE ?_
  iterate 5 refine au ?_
  rw [wk k12]
  exact ⟨_, Nat.lt_succ_self _, _, k12 + 1, rest13, _, _, v50, F51, rfl, eqA, hd18, entA, hF⟩

/-! spec.VarsOf -/
def s_VarsOf_L3 (x127 : Atom) : Nat → (List Int) → Int → Option ((List Int))
  | 0, _, _ => none
  | m139 + 1, c136, c138 => if (decide ((c138 : Int) < (x127.Terms.length : Int))) then (
      ((ix x127.Terms c138).bind fun x155 =>
        (s_IsVar x155).bind fun r161 =>
        if r161 then (
          (ix x127.Terms c138).bind fun x167 =>
          (s_l3Put c136 x167).bind fun r173 =>
          some r173)
        else (
          some c136)).bind fun o150 =>
      match o150 with
      | c177 => s_VarsOf_L3 x127 m139 c177 (IntKind.i64.wrap (c138 + 1)))
    else (
      some c136)
def s_VarsOf_L1 : List Atom → Nat → (List Int) → Option ((List Int))
  | [], k125, c120 => some c120
  | x127 :: rest126, k125, c120 => (s_VarsOf_L3 x127 (((x127.Terms.length : Int) - 0).toNat + 2) c120 0).bind fun o134 =>
    match o134 with
    | c181 => s_VarsOf_L1 rest126 (k125 + 1) c181
def s_VarsOf (a_q : Query) : Option ((List Int)) :=
  s_VarsOf_L1 a_q.Atoms 0 ([] : List Int)
theorem s_VarsOf_ok (a_q : Query) (v0_0 : Sv) (v0_1 : Sv) (R : (List Int)) (hF : s_VarsOf a_q = some R) :
    Fw.Spec Tryz.prog 102 [(.agg [v0_0.v, v0_1.v].toArray)] [crd (RdS 3 rdInt) v0_0.v a_q.Head, crd (RdS 102 rd102) v0_1.v a_q.Atoms] (fun p : Sv => p.v) (fun p => [crd (RdS 3 rdInt) p.v R]) := by
  refine Spec_enter (n := 47) Tryz.func102 rfl rfl (rs := [.tmp 2]) rfl rfl rfl ?_
  intro H0 F0
  unfold s_VarsOf at hF
  refine au ?_
  refine AbR (fun k1 => ?_)
  iterate 3 refine au ?_
  refine C_new rfl (N_buildSliceT (g := true) sl22.h ty3.h .nil (vs := []) rfl rfl rfl (by simp)) (fun k2 => ?_)
  refine Cv1 (.cons .h .nil) (own_lit (Ro := (roE rdInt)) (E := 3) (F := []) (xs := ([] : List Int)) MkL_nil rfl rfl) ?_
  iterate 6 refine au ?_
  refine CW_block (CW_loop (m := a_q.Atoms.length) (fun m123 f' cs' => ∃ (g : Fr) (k125 : Nat) (rest126 : List Atom) (c120 : List Int) (v121 : Sv), m123 = rest126.length ∧ f' = updL g [(1, (.pointer (some ⟨k1, 0, some 0⟩))), (3, v121.v), (4, (.int .i64 (k125 : Int)))] ∧ List.drop k125 a_q.Atoms = rest126 ∧ Ent cs' [cboR k1 38 (.agg [v0_0.v, v0_1.v].toArray), crd (RdS 3 rdInt) v0_0.v a_q.Head, crd (RdS 102 rd102) v0_1.v a_q.Atoms, crd (RdS 3 rdInt) v121.v c120] ∧ s_VarsOf_L1 rest126 k125 c120 = some R) ⟨_, 0, _, _, ⟨(some ⟨k2, 0, none⟩), 0, 1⟩, rfl, eqA, rfl, (.frz .h frz_own entA), hF⟩ ?_)
  clear hF
  rintro m123 _ _ ⟨g124, k125, rest126, c120, v121, rfl, rfl, hd128, hE, hF⟩
  refine K_ent hE ?_
  clear hE
  refine K_pure (c := crd (RdS 102 rd102) v0_1.v a_q.Atoms) (.t (.t .h)) crd_bound (fun hbd133 => ?_)
  rcases rest126 with _ | ⟨x127, rest126⟩
  · have hk129 := List.drop_eq_nil_iff.1 hd128
    rw [s_VarsOf_L1] at hF
    iterate 8 refine au ?_
    refine CdF ?_
    iterate 9 refine au ?_
    cases hF
    exact Er v121
  obtain ⟨hk129, hx130, hd131⟩ := drop_cons hd128
  rw [s_VarsOf_L1] at hF
  iterate 8 refine au ?_
  refine CdT ?_
  refine au ?_
  obtain ⟨o134, hio134, hO135⟩ := bind_some hF
  refine K_cut (fun f' cs' => ∃ (c181 : List Int) (v182 : Sv) (g : Fr), c181 = o134 ∧ f' = updL g [(1, (.pointer (some ⟨k1, 0, some 0⟩))), (3, v182.v), (4, (.int .i64 (k125 : Int)))] ∧ Ent cs' [cboR k1 38 (.agg [v0_0.v, v0_1.v].toArray), crd (RdS 3 rdInt) v0_0.v a_q.Head, crd (RdS 102 rd102) v0_1.v a_q.Atoms, crd (RdS 3 rdInt) v182.v c181]) ?_ ?_
  · replace hF := hio134
    refine CW_block (K_region (C_val (V_assign (v := (.int .i64 0)) (.int _ _)) ?_))
    refine au ?_
    refine CW_block (CW_loop (m := (((x127.Terms.length : Int) - 0).toNat + 2)) (fun m139 f' cs' => ∃ (g : Fr) (c136 : List Int) (c138 : Int) (v137 : Sv), f' = updL g [(1, (.pointer (some ⟨k1, 0, some 0⟩))), (3, v137.v), (4, (.int .i64 (k125 : Int))), (5, (.int .i64 c138))] ∧ Ent cs' [cboR k1 38 (.agg [v0_0.v, v0_1.v].toArray), crd (RdS 3 rdInt) v0_0.v a_q.Head, crd (RdS 102 rd102) v0_1.v a_q.Atoms, crd (RdS 3 rdInt) v137.v c136] ∧ s_VarsOf_L3 x127 m139 c136 c138 = some o134) ⟨_, _, _, v121, eqA, entA, hF⟩ ?_)
    clear hF
    rintro m139 _ _ ⟨g140, c136, c138, v137, rfl, hE, hF⟩
    refine K_ent hE ?_
    clear hE
    rcases m139 with _ | m139
    · rw [s_VarsOf_L3] at hF
      exact absurd hF (by simp)
    rw [s_VarsOf_L3] at hF
    iterate 6 refine au ?_
    refine Ai hx130 (fun k147 j148 => ?_)
    refine au ?_
    refine C_ldV (R' := (RdS 3 rdInt)) ag22.h (.tmp rfl rfl) .h lv102_1 (fun w149 => ?_)
    iterate 3 refine au ?_
    refine Cc (fun hb180 => ?_) (fun hb180 => ?_)
    · rw [if_pos hb180] at hF
      refine au ?_
      obtain ⟨o150, hio150, hO151⟩ := bind_some hF
      refine K_cut (fun f' cs' => ∃ (c177 : List Int) (v178 : Sv) (g : Fr), c177 = o150 ∧ f' = updL g [(1, (.pointer (some ⟨k1, 0, some 0⟩))), (3, v178.v), (4, (.int .i64 (k125 : Int))), (5, (.int .i64 c138))] ∧ Ent cs' [cboR k1 38 (.agg [v0_0.v, v0_1.v].toArray), crd (RdS 3 rdInt) v0_0.v a_q.Head, crd (RdS 102 rd102) v0_1.v a_q.Atoms, crd (RdS 3 rdInt) v178.v c177]) ?_ ?_
      · replace hF := hio150
        refine CW_block (K_region (C_val (V_fieldAddr (off := 1) fd38_1.h (.tmp rfl rfl)) ?_))
        iterate 2 refine au ?_
        refine Ai hx130 (fun k152 j153 => ?_)
        refine au ?_
        refine C_ldV (R' := (RdS 3 rdInt)) ag22.h (.tmp rfl rfl) .h lv102_1 (fun w154 => ?_)
        refine au ?_
        obtain ⟨x155, hx156, hF⟩ := bind_some hF
        obtain ⟨hp157, hx158⟩ := ix_some hx156
        refine Ai hx158 (fun k159 j160 => ?_)
        refine Al ls3_0 ?_
        obtain ⟨r161, hx162, hF⟩ := bind_some hF
        refine Cx0 (s_IsVar_ok _ _ hx162) (fun _ => ?_)
        refine au ?_
        refine Cc (fun hb176 => ?_) (fun hb176 => ?_)
        · rw [if_pos hb176] at hF
          iterate 5 refine au ?_
          refine Ai hx130 (fun k164 j165 => ?_)
          refine au ?_
          refine C_ldV (R' := (RdS 3 rdInt)) ag22.h (.tmp rfl rfl) .h lv102_1 (fun w166 => ?_)
          refine au ?_
          obtain ⟨x167, hx168, hF⟩ := bind_some hF
          obtain ⟨hp169, hx170⟩ := ix_some hx168
          refine Ai hx170 (fun k171 j172 => ?_)
          refine Al ls3_0 ?_
          obtain ⟨r173, hx174, hF⟩ := bind_some hF
          refine Cx1 (s_l3Put_ok _ _ _ _ hx174) (fun p175 => ?_)
          iterate 2 refine au ?_
          cases hF
          exact ⟨_, p175, _, rfl, eqA, entA⟩
        rw [if_neg (nt hb176)] at hF
        refine au ?_
        cases hF
        exact ⟨_, v137, _, rfl, eqA, entA⟩
      rintro _ _ ⟨c177, v178, g179, rfl, rfl, hE⟩
      replace hF := hO151
      clear hO151
      try dsimp only at hF
      refine K_ent hE ?_
      iterate 5 refine au ?_
      exact ⟨m139, Nat.lt_succ_self _, _, _, _, v178, eqA, entA, hF⟩
    rw [if_neg (nt hb180)] at hF
    iterate 4 refine au ?_
    cases hF
    exact ⟨_, v137, _, rfl, eqA, entA⟩
  rintro _ _ ⟨c181, v182, g184, rfl, rfl, hE⟩
  replace hF := hO135
  clear hO135
  try dsimp only at hF
  refine K_ent hE ?_
  iterate 5 refine au ?_
  rw [wk k125]
  exact ⟨_, Nat.lt_succ_self _, _, k125 + 1, rest126, _, v182, rfl, eqA, hd131, entA, hF⟩

/-! spec.IsTerm -/
def s_IsTerm (a_t : Int) : Option (Bool) :=
  ((s_l1In a_t 0 9).bind fun r3 =>
    bif r3 then (some true)
    else ((s_IsVar a_t).bind fun r7 =>
      some r7)).bind fun o1 =>
  match o1 with
  | c10 => some c10
theorem s_IsTerm_ok (a_t : Int) (R : Bool) (hF : s_IsTerm a_t = some R) :
    Fw.Spec Tryz.prog 141 [(.int .i64 a_t)] [] (fun _ : Unit => (.bool R)) (fun _ => []) := by
  refine Spec_enter (n := 9) Tryz.func141 rfl rfl (rs := [.tmp 2]) rfl rfl rfl ?_
  intro H0 F0
  unfold s_IsTerm at hF
  iterate 3 refine au ?_
  obtain ⟨o1, hio1, hO2⟩ := bind_some hF
  refine au ?_
  refine C_cut (fun f' cs' => ∃ (c10 : Bool) (g : Fr), c10 = o1 ∧ f' = updL g [(2, (.bool c10))] ∧ Ent cs' []) ?_ ?_
  · replace hF := hio1
    refine au ?_
    obtain ⟨r3, hx4, hF⟩ := bind_some hF
    refine Cx0 (s_l1In_ok _ _ _ _ hx4) (fun _ => ?_)
    refine au ?_
    rcases Bool.eq_false_or_eq_true r3 with hg6 | hg6
    · rw [hg6]
      try rw [hg6] at hF; dsimp only [cond_true, cond_false] at hF
      iterate 5 refine au ?_
      cases hF
      exact ⟨_, _, rfl, eqA, entA⟩
    rw [hg6]
    try rw [hg6] at hF; dsimp only [cond_true, cond_false] at hF
    iterate 3 refine au ?_
    obtain ⟨r7, hx8, hF⟩ := bind_some hF
    refine Cx0 (s_IsVar_ok _ _ hx8) (fun _ => ?_)
    iterate 3 refine au ?_
    cases hF
    exact ⟨_, _, rfl, eqA, entA⟩
  rintro _ _ ⟨c10, g11, rfl, rfl, hE⟩
  replace hF := hO2
  clear hO2
  try dsimp only at hF
  refine K_ent hE ?_
  refine au ?_
  cases hF
  exact Er ()

/-! spec.IsAtom -/
def s_IsAtom_L1 : List Int → Nat → Option (Bool)
  | [], k22 => some true
  | x24 :: rest23, k22 => (s_IsTerm x24).bind fun r33 =>
    if (!r33) then (
      some false)
    else (
      s_IsAtom_L1 rest23 (k22 + 1))
def s_IsAtom (a_s : List Int) (a_a : Atom) : Option (Bool) :=
  ((s_IsSchema a_s).bind fun r4 =>
    bif (!r4) then (some true)
    else ((s_l1In a_a.Rel 0 (IntKind.i64.wrap ((a_s.length : Int) - 1))).bind fun r8 =>
      bif (!r8) then (some true)
      else ((ix a_s a_a.Rel).bind fun x12 =>
        some (((a_a.Terms.length : Int) : Int) != x12)))).bind fun o2 =>
  match o2 with
  | c18 => if c18 then (
      some false)
    else (
      s_IsAtom_L1 a_a.Terms 0)
theorem s_IsAtom_ok (a_s : List Int) (v0_0 : Sv) (a_a : Atom) (v1_1 : Sv) (R : Bool) (hF : s_IsAtom a_s a_a = some R) :
    Fw.Spec Tryz.prog 101 [v0_0.v, (.agg [(.int .i64 a_a.Rel), v1_1.v].toArray)] [crd (RdS 3 rdInt) v0_0.v a_s, crd (RdS 3 rdInt) v1_1.v a_a.Terms] (fun _ : Unit => (.bool R)) (fun _ => []) := by
  refine Spec_enter (n := 43) Tryz.func101 rfl rfl (rs := [.tmp 4]) rfl rfl rfl ?_
  intro H0 F0
  unfold s_IsAtom at hF
  refine au ?_
  refine AbR (fun k1 => ?_)
  iterate 3 refine au ?_
  obtain ⟨o2, hio2, hO3⟩ := bind_some hF
  refine K_draw [0, 1, 2, 3, 4, 5, 6, 7, 8, 9, 10, 11, 12, 13, 14, 15, 16, 17, 18, 19, 20, 21, 22] [0, 1, 3, 7, 15, 31, 15, 79, 207, 511, 1023, 2047, 4095, 8191, 16383, 32767, 8191, 8191, 139263, 466943, 991231, 2097151, 4194303] [1, 9] mixed (by decide +kernel) ?_
  refine D_cut (fun f' cs' => ∃ (c18 : Bool) (g : Fr), c18 = o2 ∧ f' = updL g [(3, (.pointer (some ⟨k1, 0, some 0⟩))), (28, (.bool c18))] ∧ Ent cs' [cboR k1 102 (.agg [(.int .i64 a_a.Rel), v1_1.v].toArray), crd (RdS 3 rdInt) v1_1.v a_a.Terms]) ?_ ?_
  · replace hF := hio2
    refine du ?_
    obtain ⟨r4, hx5, hF⟩ := bind_some hF
    refine Dx0 (s_IsSchema_ok _ _ _ hx5) (fun _ => ?_)
    iterate 2 refine du ?_
    rcases Bool.eq_false_or_eq_true (!r4) with hg7 | hg7
    · rw [hg7]
      try rw [hg7] at hF; dsimp only [cond_true, cond_false] at hF
      iterate 20 refine du ?_
      cases hF
      exact ⟨_, _, rfl, eqA, entA⟩
    rw [hg7]
    try rw [hg7] at hF; dsimp only [cond_true, cond_false] at hF
    iterate 5 refine du ?_
    obtain ⟨r8, hx9, hF⟩ := bind_some hF
    refine Dx0 (s_l1In_ok _ _ _ _ hx9) (fun _ => ?_)
    iterate 3 refine du ?_
    rcases Bool.eq_false_or_eq_true (!r8) with hg11 | hg11
    · rw [hg11]
      try rw [hg11] at hF; dsimp only [cond_true, cond_false] at hF
      iterate 11 refine du ?_
      cases hF
      exact ⟨_, _, rfl, eqA, entA⟩
    rw [hg11]
    try rw [hg11] at hF; dsimp only [cond_true, cond_false] at hF
    iterate 6 refine du ?_
    obtain ⟨x12, hx13, hF⟩ := bind_some hF
    obtain ⟨hp14, hx15⟩ := ix_some hx13
    refine Di hx15 (fun k16 j17 => ?_)
    refine Dl ls3_0 ?_
    iterate 3 refine du ?_
    cases hF
    exact ⟨_, _, rfl, eqA, entA⟩
  rintro _ _ ⟨c18, g39, rfl, rfl, hE⟩
  replace hF := hO3
  clear hO3
  try dsimp only at hF
  refine K_ent hE ?_
  refine Cc (fun hb38 => ?_) (fun hb38 => ?_)
  · rw [if_pos hb38] at hF
    iterate 4 refine au ?_
    cases hF
    exact Er ()
  rw [if_neg (nt hb38)] at hF
  iterate 5 refine au ?_
  refine CW_block (CW_loop (m := a_a.Terms.length) (fun m20 f' cs' => ∃ (g : Fr) (k22 : Nat) (rest23 : List Int), m20 = rest23.length ∧ f' = updL g [(3, (.pointer (some ⟨k1, 0, some 0⟩))), (5, (.int .i64 (k22 : Int)))] ∧ List.drop k22 a_a.Terms = rest23 ∧ Ent cs' [cboR k1 102 (.agg [(.int .i64 a_a.Rel), v1_1.v].toArray), crd (RdS 3 rdInt) v1_1.v a_a.Terms] ∧ s_IsAtom_L1 rest23 k22 = some R) ⟨_, 0, _, rfl, eqA, rfl, entA, hF⟩ ?_)
  clear hF
  rintro m20 _ _ ⟨g21, k22, rest23, rfl, rfl, hd25, hE, hF⟩
  refine K_ent hE ?_
  clear hE
  refine K_pure (c := crd (RdS 3 rdInt) v1_1.v a_a.Terms) (.t .h) crd_bound (fun hbd30 => ?_)
  rcases rest23 with _ | ⟨x24, rest23⟩
  · have hk26 := List.drop_eq_nil_iff.1 hd25
    rw [s_IsAtom_L1] at hF
    iterate 8 refine au ?_
    refine CdF ?_
    iterate 8 refine au ?_
    cases hF
    exact Er ()
  obtain ⟨hk26, hx27, hd28⟩ := drop_cons hd25
  rw [s_IsAtom_L1] at hF
  iterate 8 refine au ?_
  refine CdT ?_
  iterate 6 refine au ?_
  refine Ai hx27 (fun k31 j32 => ?_)
  refine Al ls3_0 ?_
  obtain ⟨r33, hx34, hF⟩ := bind_some hF
  refine Cx0 (s_IsTerm_ok _ _ hx34) (fun _ => ?_)
  iterate 2 refine au ?_
  refine Cc (fun hb37 => ?_) (fun hb37 => ?_)
  · rw [if_pos hb37] at hF
    iterate 4 refine au ?_
    cases hF
    exact Er ()
  rw [if_neg (nt hb37)] at hF
  iterate 6 refine au ?_
  rw [wk k22]
  exact ⟨_, Nat.lt_succ_self _, _, k22 + 1, rest23, rfl, eqA, hd28, entA, hF⟩

/-! spec.IsQuery -/
def s_IsQuery_L2 (a_s : List Int) (a_q : Query) (r14 : (List Int)) : List Int → Nat → Option (Bool)
  | [], k20 => ((s_IsSchema a_s).bind fun r31 =>
      bif r31 then ((s_l1In (a_q.Atoms.length : Int) 1 4).bind fun r35 =>
        bif r35 then (some (decide (((a_q.Head.length : Int) : Int) ≤ 3)))
        else (some false))
      else (some false)).bind fun o29 =>
    match o29 with
    | c39 => some c39
  | x22 :: rest21, k20 => (s_l2Has r14 x22).bind fun r43 =>
    if (!r43) then (
      some false)
    else (
      s_IsQuery_L2 a_s a_q r14 rest21 (k20 + 1))
def s_IsQuery_L1 (a_s : List Int) (a_q : Query) : List Atom → Nat → Option (Bool)
  | [], k5 => (s_VarsOf a_q).bind fun r14 =>
    s_IsQuery_L2 a_s a_q r14 a_q.Head 0
  | x7 :: rest6, k5 => (s_IsAtom a_s x7).bind fun r51 =>
    if (!r51) then (
      some false)
    else (
      s_IsQuery_L1 a_s a_q rest6 (k5 + 1))
def s_IsQuery (a_s : List Int) (a_q : Query) : Option (Bool) :=
  s_IsQuery_L1 a_s a_q a_q.Atoms 0
theorem s_IsQuery_ok (a_s : List Int) (v0_0 : Sv) (a_q : Query) (v1_0 : Sv) (v1_1 : Sv) (R : Bool) (hF : s_IsQuery a_s a_q = some R) :
    Fw.Spec Tryz.prog 65 [v0_0.v, (.agg [v1_0.v, v1_1.v].toArray)] [crd (RdS 3 rdInt) v0_0.v a_s, crd (RdS 3 rdInt) v1_0.v a_q.Head, crd (RdS 102 rd102) v1_1.v a_q.Atoms] (fun _ : Unit => (.bool R)) (fun _ => []) := by
  refine Spec_enter (n := 54) Tryz.func65 rfl rfl (rs := [.tmp 4]) rfl rfl rfl ?_
  intro H0 F0
  unfold s_IsQuery at hF
  refine au ?_
  refine AbR (fun k1 => ?_)
  iterate 6 refine au ?_
  refine CW_block (CW_loop (m := a_q.Atoms.length) (fun m3 f' cs' => ∃ (g : Fr) (k5 : Nat) (rest6 : List Atom), m3 = rest6.length ∧ f' = updL g [(0, v0_0.v), (3, (.pointer (some ⟨k1, 0, some 0⟩))), (5, (.int .i64 (k5 : Int)))] ∧ List.drop k5 a_q.Atoms = rest6 ∧ Ent cs' [crd (RdS 3 rdInt) v0_0.v a_s, cboR k1 38 (.agg [v1_0.v, v1_1.v].toArray), crd (RdS 3 rdInt) v1_0.v a_q.Head, crd (RdS 102 rd102) v1_1.v a_q.Atoms] ∧ s_IsQuery_L1 a_s a_q rest6 k5 = some R) ⟨_, 0, _, rfl, eqA, rfl, entA, hF⟩ ?_)
  clear hF
  rintro m3 _ _ ⟨g4, k5, rest6, rfl, rfl, hd8, hE, hF⟩
  refine K_ent hE ?_
  clear hE
  refine K_pure (c := crd (RdS 102 rd102) v1_1.v a_q.Atoms) (.t (.t (.t .h))) crd_bound (fun hbd13 => ?_)
  rcases rest6 with _ | ⟨x7, rest6⟩
  · have hk9 := List.drop_eq_nil_iff.1 hd8
    rw [s_IsQuery_L1] at hF
    iterate 8 refine au ?_
    refine CdF ?_
    iterate 6 refine au ?_
    obtain ⟨r14, hx15, hF⟩ := bind_some hF
    refine Cx1 (s_VarsOf_ok _ _ _ _ hx15) (fun p16 => ?_)
    iterate 6 refine au ?_
    refine CW_block (CW_loop (m := a_q.Head.length) (fun m18 f' cs' => ∃ (g : Fr) (k20 : Nat) (rest21 : List Int), m18 = rest21.length ∧ f' = updL g [(0, v0_0.v), (3, (.pointer (some ⟨k1, 0, some 0⟩))), (6, p16.v), (7, (.int .i64 (k20 : Int)))] ∧ List.drop k20 a_q.Head = rest21 ∧ Ent cs' [crd (RdS 3 rdInt) v0_0.v a_s, cboR k1 38 (.agg [v1_0.v, v1_1.v].toArray), crd (RdS 3 rdInt) v1_0.v a_q.Head, crd (RdS 102 rd102) v1_1.v a_q.Atoms, crd (RdS 3 rdInt) p16.v r14] ∧ s_IsQuery_L2 a_s a_q r14 rest21 k20 = some R) ⟨_, 0, _, rfl, eqA, rfl, entA, hF⟩ ?_)
    clear hF
    rintro m18 _ _ ⟨g19, k20, rest21, rfl, rfl, hd23, hE, hF⟩
    refine K_ent hE ?_
    clear hE
    refine K_pure (c := crd (RdS 3 rdInt) v1_0.v a_q.Head) (.t (.t .h)) crd_bound (fun hbd28 => ?_)
    rcases rest21 with _ | ⟨x22, rest21⟩
    · have hk24 := List.drop_eq_nil_iff.1 hd23
      rw [s_IsQuery_L2] at hF
      iterate 8 refine au ?_
      refine CdF ?_
      iterate 4 refine au ?_
      obtain ⟨o29, hio29, hO30⟩ := bind_some hF
      refine au ?_
      refine C_cut (fun f' cs' => ∃ (c39 : Bool) (g : Fr), c39 = o29 ∧ f' = updL g [(4, (.bool c39))] ∧ Ent cs' []) ?_ ?_
      · replace hF := hio29
        refine au ?_
        obtain ⟨r31, hx32, hF⟩ := bind_some hF
        refine Cx0 (s_IsSchema_ok _ _ _ hx32) (fun _ => ?_)
        refine au ?_
        rcases Bool.eq_false_or_eq_true r31 with hg34 | hg34
        · rw [hg34]
          try rw [hg34] at hF; dsimp only [cond_true, cond_false] at hF
          iterate 7 refine au ?_
          obtain ⟨r35, hx36, hF⟩ := bind_some hF
          refine Cx0 (s_l1In_ok _ _ _ _ hx36) (fun _ => ?_)
          iterate 2 refine au ?_
          rcases Bool.eq_false_or_eq_true r35 with hg38 | hg38
          · rw [hg38]
            try rw [hg38] at hF; dsimp only [cond_true, cond_false] at hF
            iterate 11 refine au ?_
            cases hF
            exact ⟨_, _, rfl, eqA, entA⟩
          rw [hg38]
          try rw [hg38] at hF; dsimp only [cond_true, cond_false] at hF
          iterate 7 refine au ?_
          cases hF
          exact ⟨_, _, rfl, eqA, entA⟩
        rw [hg34]
        try rw [hg34] at hF; dsimp only [cond_true, cond_false] at hF
        iterate 13 refine au ?_
        cases hF
        exact ⟨_, _, rfl, eqA, entA⟩
      rintro _ _ ⟨c39, g40, rfl, rfl, hE⟩
      replace hF := hO30
      clear hO30
      try dsimp only at hF
      refine K_ent hE ?_
      refine au ?_
      cases hF
      exact Er ()
    obtain ⟨hk24, hx25, hd26⟩ := drop_cons hd23
    rw [s_IsQuery_L2] at hF
    iterate 8 refine au ?_
    refine CdT ?_
    iterate 7 refine au ?_
    refine Ai hx25 (fun k41 j42 => ?_)
    refine Al ls3_0 ?_
    obtain ⟨r43, hx44, hF⟩ := bind_some hF
    refine Cx0 (s_l2Has_ok _ _ _ _ hx44) (fun _ => ?_)
    iterate 2 refine au ?_
    refine Cc (fun hb47 => ?_) (fun hb47 => ?_)
    · rw [if_pos hb47] at hF
      iterate 4 refine au ?_
      cases hF
      exact Er ()
    rw [if_neg (nt hb47)] at hF
    iterate 6 refine au ?_
    rw [wk k20]
    exact ⟨_, Nat.lt_succ_self _, _, k20 + 1, rest21, rfl, eqA, hd26, entA, hF⟩
  obtain ⟨hk9, hx10, hd11⟩ := drop_cons hd8
  rw [s_IsQuery_L1] at hF
  iterate 8 refine au ?_
  refine CdT ?_
  iterate 7 refine au ?_
  refine Ai hx10 (fun k48 j49 => ?_)
  refine AlA1 (ul102_0_102 x7) la102_0_102 (fun p50 => ?_)
  obtain ⟨r51, hx52, hF⟩ := bind_some hF
  refine Cx0 (s_IsAtom_ok _ _ _ _ _ hx52) (fun _ => ?_)
  iterate 2 refine au ?_
  refine Cc (fun hb55 => ?_) (fun hb55 => ?_)
  · rw [if_pos hb55] at hF
    iterate 4 refine au ?_
    cases hF
    exact Er ()
  rw [if_neg (nt hb55)] at hF
  iterate 6 refine au ?_
  rw [wk k5]
  exact ⟨_, Nat.lt_succ_self _, _, k5 + 1, rest6, rfl, eqA, hd11, entA, hF⟩

/-! spec.l6Fine -/
def s_l6Fine (a_s : List Int) (a_l : List Method) (a_q : Query) : Option (Bool) :=
  ((s_AreMethods a_s a_l).bind fun r4 =>
    bif r4 then ((s_IsQuery a_s a_q).bind fun r8 =>
      some r8)
    else (some false)).bind fun o2 =>
  match o2 with
  | c11 => some c11
theorem s_l6Fine_ok (a_s : List Int) (v0_0 : Sv) (a_l : List Method) (v1_0 : Sv) (a_q : Query) (v2_0 : Sv) (v2_1 : Sv) (R : Bool) (hF : s_l6Fine a_s a_l a_q = some R) :
    Fw.Spec Tryz.prog 37 [v0_0.v, v1_0.v, (.agg [v2_0.v, v2_1.v].toArray)] [crd (RdS 3 rdInt) v0_0.v a_s, crd (RdS 77 rd77) v1_0.v a_l, crd (RdS 3 rdInt) v2_0.v a_q.Head, crd (RdS 102 rd102) v2_1.v a_q.Atoms] (fun _ : Unit => (.bool R)) (fun _ => []) := by
  refine Spec_enter (n := 15) Tryz.func37 rfl rfl (rs := [.tmp 6]) rfl rfl rfl ?_
  intro H0 F0
  unfold s_l6Fine at hF
  refine au ?_
  refine AbR (fun k1 => ?_)
  iterate 2 refine au ?_
  obtain ⟨o2, hio2, hO3⟩ := bind_some hF
  refine au ?_
  refine C_cut (fun f' cs' => ∃ (c11 : Bool) (g : Fr), c11 = o2 ∧ f' = updL g [(6, (.bool c11))] ∧ Ent cs' []) ?_ ?_
  · replace hF := hio2
    iterate 2 refine au ?_
    obtain ⟨r4, hx5, hF⟩ := bind_some hF
    refine Cx0 (s_AreMethods_ok _ _ _ _ _ hx5) (fun _ => ?_)
    refine au ?_
    rcases Bool.eq_false_or_eq_true r4 with hg7 | hg7
    · rw [hg7]
      try rw [hg7] at hF; dsimp only [cond_true, cond_false] at hF
      iterate 5 refine au ?_
      obtain ⟨r8, hx9, hF⟩ := bind_some hF
      refine Cx0 (s_IsQuery_ok _ _ _ _ _ _ hx9) (fun _ => ?_)
      iterate 3 refine au ?_
      cases hF
      exact ⟨_, _, rfl, eqA, entA⟩
    rw [hg7]
    try rw [hg7] at hF; dsimp only [cond_true, cond_false] at hF
    iterate 6 refine au ?_
    cases hF
    exact ⟨_, _, rfl, eqA, entA⟩
  rintro _ _ ⟨c11, g12, rfl, rfl, hE⟩
  replace hF := hO3
  clear hO3
  try dsimp only at hF
  refine K_ent hE ?_
  refine au ?_
  cases hF
  exact Er ()

/-! spec.IsFact -/
def s_IsFact_L1 : List Int → Nat → Option (Bool)
  | [], k22 => some true
  | x24 :: rest23, k22 => (s_l1In x24 0 9).bind fun r33 =>
    if (!r33) then (
      some false)
    else (
      s_IsFact_L1 rest23 (k22 + 1))
def s_IsFact (a_s : List Int) (a_f : Fact) : Option (Bool) :=
  ((s_IsSchema a_s).bind fun r4 =>
    bif (!r4) then (some true)
    else ((s_l1In a_f.Rel 0 (IntKind.i64.wrap ((a_s.length : Int) - 1))).bind fun r8 =>
      bif (!r8) then (some true)
      else ((ix a_s a_f.Rel).bind fun x12 =>
        some (((a_f.Values.length : Int) : Int) != x12)))).bind fun o2 =>
  match o2 with
  | c18 => if c18 then (
      some false)
    else (
      s_IsFact_L1 a_f.Values 0)
theorem s_IsFact_ok (a_s : List Int) (v0_0 : Sv) (a_f : Fact) (v1_1 : Sv) (R : Bool) (hF : s_IsFact a_s a_f = some R) :
    Fw.Spec Tryz.prog 66 [v0_0.v, (.agg [(.int .i64 a_f.Rel), v1_1.v].toArray)] [crd (RdS 3 rdInt) v0_0.v a_s, crd (RdS 3 rdInt) v1_1.v a_f.Values] (fun _ : Unit => (.bool R)) (fun _ => []) := by
  refine Spec_enter (n := 43) Tryz.func66 rfl rfl (rs := [.tmp 4]) rfl rfl rfl ?_
  intro H0 F0
  unfold s_IsFact at hF
  refine au ?_
  refine AbR (fun k1 => ?_)
  iterate 3 refine au ?_
  obtain ⟨o2, hio2, hO3⟩ := bind_some hF
  refine K_draw [0, 1, 2, 3, 4, 5, 6, 7, 8, 9, 10, 11, 12, 13, 14, 15, 16, 17, 18, 19, 20, 21, 22] [0, 1, 3, 7, 15, 31, 15, 79, 207, 511, 1023, 2047, 4095, 8191, 16383, 32767, 8191, 8191, 139263, 466943, 991231, 2097151, 4194303] [1, 9] mixed (by decide +kernel) ?_
  refine D_cut (fun f' cs' => ∃ (c18 : Bool) (g : Fr), c18 = o2 ∧ f' = updL g [(3, (.pointer (some ⟨k1, 0, some 0⟩))), (28, (.bool c18))] ∧ Ent cs' [cboR k1 80 (.agg [(.int .i64 a_f.Rel), v1_1.v].toArray), crd (RdS 3 rdInt) v1_1.v a_f.Values]) ?_ ?_
  · replace hF := hio2
    refine du ?_
    obtain ⟨r4, hx5, hF⟩ := bind_some hF
    refine Dx0 (s_IsSchema_ok _ _ _ hx5) (fun _ => ?_)
    iterate 2 refine du ?_
    rcases Bool.eq_false_or_eq_true (!r4) with hg7 | hg7
    · rw [hg7]
      try rw [hg7] at hF; dsimp only [cond_true, cond_false] at hF
      iterate 20 refine du ?_
      cases hF
      exact ⟨_, _, rfl, eqA, entA⟩
    rw [hg7]
    try rw [hg7] at hF; dsimp only [cond_true, cond_false] at hF
    iterate 5 refine du ?_
    obtain ⟨r8, hx9, hF⟩ := bind_some hF
    refine Dx0 (s_l1In_ok _ _ _ _ hx9) (fun _ => ?_)
    iterate 3 refine du ?_
    rcases Bool.eq_false_or_eq_true (!r8) with hg11 | hg11
    · rw [hg11]
      try rw [hg11] at hF; dsimp only [cond_true, cond_false] at hF
      iterate 11 refine du ?_
      cases hF
      exact ⟨_, _, rfl, eqA, entA⟩
    rw [hg11]
    try rw [hg11] at hF; dsimp only [cond_true, cond_false] at hF
    iterate 6 refine du ?_
    obtain ⟨x12, hx13, hF⟩ := bind_some hF
    obtain ⟨hp14, hx15⟩ := ix_some hx13
    refine Di hx15 (fun k16 j17 => ?_)
    refine Dl ls3_0 ?_
    iterate 3 refine du ?_
    cases hF
    exact ⟨_, _, rfl, eqA, entA⟩
  rintro _ _ ⟨c18, g39, rfl, rfl, hE⟩
  replace hF := hO3
  clear hO3
  try dsimp only at hF
  refine K_ent hE ?_
  refine Cc (fun hb38 => ?_) (fun hb38 => ?_)
  · rw [if_pos hb38] at hF
    iterate 4 refine au ?_
    cases hF
    exact Er ()
  rw [if_neg (nt hb38)] at hF
  iterate 5 refine au ?_
  refine CW_block (CW_loop (m := a_f.Values.length) (fun m20 f' cs' => ∃ (g : Fr) (k22 : Nat) (rest23 : List Int), m20 = rest23.length ∧ f' = updL g [(3, (.pointer (some ⟨k1, 0, some 0⟩))), (5, (.int .i64 (k22 : Int)))] ∧ List.drop k22 a_f.Values = rest23 ∧ Ent cs' [cboR k1 80 (.agg [(.int .i64 a_f.Rel), v1_1.v].toArray), crd (RdS 3 rdInt) v1_1.v a_f.Values] ∧ s_IsFact_L1 rest23 k22 = some R) ⟨_, 0, _, rfl, eqA, rfl, entA, hF⟩ ?_)
  clear hF
  rintro m20 _ _ ⟨g21, k22, rest23, rfl, rfl, hd25, hE, hF⟩
  refine K_ent hE ?_
  clear hE
  refine K_pure (c := crd (RdS 3 rdInt) v1_1.v a_f.Values) (.t .h) crd_bound (fun hbd30 => ?_)
  rcases rest23 with _ | ⟨x24, rest23⟩
  · have hk26 := List.drop_eq_nil_iff.1 hd25
    rw [s_IsFact_L1] at hF
    iterate 8 refine au ?_
    refine CdF ?_
    iterate 8 refine au ?_
    cases hF
    exact Er ()
  obtain ⟨hk26, hx27, hd28⟩ := drop_cons hd25
  rw [s_IsFact_L1] at hF
  iterate 8 refine au ?_
  refine CdT ?_
  iterate 6 refine au ?_
  refine Ai hx27 (fun k31 j32 => ?_)
  refine Al ls3_0 ?_
  obtain ⟨r33, hx34, hF⟩ := bind_some hF
  refine Cx0 (s_l1In_ok _ _ _ _ hx34) (fun _ => ?_)
  iterate 2 refine au ?_
  refine Cc (fun hb37 => ?_) (fun hb37 => ?_)
  · rw [if_pos hb37] at hF
    iterate 4 refine au ?_
    cases hF
    exact Er ()
  rw [if_neg (nt hb37)] at hF
  iterate 6 refine au ?_
  rw [wk k22]
  exact ⟨_, Nat.lt_succ_self _, _, k22 + 1, rest23, rfl, eqA, hd28, entA, hF⟩

/-! spec.CompareFacts -/
def s_CompareFacts_L1 (a_a : Fact) (a_b : Fact) : Nat → Int → Option (Int)
  | 0, _ => none
  | m5 + 1, c4 => if ((decide ((c4 : Int) < (a_a.Values.length : Int))) && (decide ((c4 : Int) < (a_b.Values.length : Int)))) then (
      (ix a_a.Values c4).bind fun x15 =>
      (ix a_b.Values c4).bind fun x21 =>
      if (decide ((x15 : Int) < x21)) then (
        some (-1))
      else (
        (ix a_a.Values c4).bind fun x27 =>
        (ix a_b.Values c4).bind fun x33 =>
        if (decide ((x33 : Int) < x27)) then (
          some 1)
        else (
          s_CompareFacts_L1 a_a a_b m5 (IntKind.i64.wrap (c4 + 1)))))
    else (
      if (decide (((a_a.Values.length : Int) : Int) < (a_b.Values.length : Int))) then (
        some (-1))
      else (
        if (decide (((a_b.Values.length : Int) : Int) < (a_a.Values.length : Int))) then (
          some 1)
        else (
          some 0)))
def s_CompareFacts (a_a : Fact) (a_b : Fact) : Option (Int) :=
  if ((a_a.Rel : Int) != a_b.Rel) then (
    if (decide ((a_a.Rel : Int) < a_b.Rel)) then (
      some (-1))
    else (
      some 1))
  else (
    s_CompareFacts_L1 a_a a_b (((a_a.Values.length : Int) - 0).toNat + 2) 0)
theorem s_CompareFacts_ok (a_a : Fact) (v0_1 : Sv) (a_b : Fact) (v1_1 : Sv) (R : Int) (hF : s_CompareFacts a_a a_b = some R) :
    Fw.Spec Tryz.prog 67 [(.agg [(.int .i64 a_a.Rel), v0_1.v].toArray), (.agg [(.int .i64 a_b.Rel), v1_1.v].toArray)] [crd (RdS 3 rdInt) v0_1.v a_a.Values, crd (RdS 3 rdInt) v1_1.v a_b.Values] (fun _ : Unit => (.int .i64 R)) (fun _ => []) := by
  refine Spec_enter (n := 66) Tryz.func67 rfl rfl (rs := [.tmp 4]) rfl rfl rfl ?_
  intro H0 F0
  unfold s_CompareFacts at hF
  refine au ?_
  refine AbR (fun k1 => ?_)
  refine AbR (fun k2 => ?_)
  iterate 10 refine au ?_
  refine Cc (fun hb44 => ?_) (fun hb44 => ?_)
  · rw [if_pos hb44] at hF
    iterate 8 refine au ?_
    refine Cc (fun hb3 => ?_) (fun hb3 => ?_)
    · rw [if_pos hb3] at hF
      iterate 4 refine au ?_
      cases hF
      exact Er ()
    rw [if_neg (nt hb3)] at hF
    iterate 5 refine au ?_
    cases hF
    exact Er ()
  rw [if_neg (nt hb44)] at hF
  iterate 5 refine au ?_
  refine CW_block (CW_loop (m := (((a_a.Values.length : Int) - 0).toNat + 2)) (fun m5 f' cs' => ∃ (g : Fr) (c4 : Int), f' = updL g [(2, (.pointer (some ⟨k1, 0, some 0⟩))), (3, (.pointer (some ⟨k2, 0, some 0⟩))), (5, (.int .i64 c4))] ∧ Ent cs' [cboR k1 80 (.agg [(.int .i64 a_a.Rel), v0_1.v].toArray), crd (RdS 3 rdInt) v0_1.v a_a.Values, cboR k2 80 (.agg [(.int .i64 a_b.Rel), v1_1.v].toArray), crd (RdS 3 rdInt) v1_1.v a_b.Values] ∧ s_CompareFacts_L1 a_a a_b m5 c4 = some R) ⟨_, _, eqA, entA, hF⟩ ?_)
  clear hF
  rintro m5 _ _ ⟨g6, c4, rfl, hE, hF⟩
  refine K_ent hE ?_
  clear hE
  rcases m5 with _ | m5
  · rw [s_CompareFacts_L1] at hF
    exact absurd hF (by simp)
  rw [s_CompareFacts_L1] at hF
  iterate 2 refine au ?_
  refine C_cut (fun f' cs' => ∃ (g : Fr), f' = updL g [(2, (.pointer (some ⟨k1, 0, some 0⟩))), (3, (.pointer (some ⟨k2, 0, some 0⟩))), (5, (.int .i64 c4)), (27, (.bool ((decide ((c4 : Int) < (a_a.Values.length : Int))) && (decide ((c4 : Int) < (a_b.Values.length : Int))))))] ∧ Ent cs' [cboR k1 80 (.agg [(.int .i64 a_a.Rel), v0_1.v].toArray), crd (RdS 3 rdInt) v0_1.v a_a.Values, cboR k2 80 (.agg [(.int .i64 a_b.Rel), v1_1.v].toArray), crd (RdS 3 rdInt) v1_1.v a_b.Values]) ?_ ?_
  · iterate 6 refine au ?_
    rcases Bool.eq_false_or_eq_true (decide ((c4 : Int) < (a_a.Values.length : Int))) with hg13 | hg13
    · rw [hg13]
      try rw [hg13] at hF; dsimp only [cond_true, cond_false] at hF
      iterate 12 refine au ?_
      exact ⟨_, eqA, entA⟩
    rw [hg13]
    try rw [hg13] at hF; dsimp only [cond_true, cond_false] at hF
    iterate 7 refine au ?_
    exact ⟨_, eqA, entA⟩
  rintro _ _ ⟨g14, rfl, hE⟩
  refine K_ent hE ?_
  refine Cc (fun hb43 => ?_) (fun hb43 => ?_)
  · rw [if_pos hb43] at hF
    iterate 3 refine au ?_
    refine K_draw [0, 1, 2, 3, 4, 5, 6, 7, 8, 9, 10] [0, 1, 0, 7, 15, 0, 32, 0, 224, 480, 1023] [] mixed (by decide +kernel) ?_
    iterate 3 refine du ?_
    obtain ⟨x15, hx16, hF⟩ := bind_some hF
    obtain ⟨hp17, hx18⟩ := ix_some hx16
    refine Di hx18 (fun k19 j20 => ?_)
    refine Dl ls3_0 ?_
    iterate 3 refine du ?_
    obtain ⟨x21, hx22, hF⟩ := bind_some hF
    obtain ⟨hp23, hx24⟩ := ix_some hx22
    refine Di hx24 (fun k25 j26 => ?_)
    refine Dl ls3_0 ?_
    iterate 2 refine du ?_
    refine Cc (fun hb40 => ?_) (fun hb40 => ?_)
    · rw [if_pos hb40] at hF
      iterate 4 refine au ?_
      cases hF
      exact Er ()
    rw [if_neg (nt hb40)] at hF
    refine au ?_
    refine K_draw [0, 1, 2, 3, 4, 5, 6, 7, 8, 9, 10] [0, 1, 0, 7, 15, 0, 32, 0, 224, 480, 1023] [] mixed (by decide +kernel) ?_
    iterate 3 refine du ?_
    obtain ⟨x27, hx28, hF⟩ := bind_some hF
    obtain ⟨hp29, hx30⟩ := ix_some hx28
    refine Di hx30 (fun k31 j32 => ?_)
    refine Dl ls3_0 ?_
    iterate 3 refine du ?_
    obtain ⟨x33, hx34, hF⟩ := bind_some hF
    obtain ⟨hp35, hx36⟩ := ix_some hx34
    refine Di hx36 (fun k37 j38 => ?_)
    refine Dl ls3_0 ?_
    iterate 2 refine du ?_
    refine Cc (fun hb39 => ?_) (fun hb39 => ?_)
    · rw [if_pos hb39] at hF
      iterate 4 refine au ?_
      cases hF
      exact Er ()
    rw [if_neg (nt hb39)] at hF
    iterate 6 refine au ?_
    exact ⟨m5, Nat.lt_succ_self _, _, _, eqA, entA, hF⟩
  rw [if_neg (nt hb43)] at hF
  iterate 14 refine au ?_
  refine Cc (fun hb42 => ?_) (fun hb42 => ?_)
  · rw [if_pos hb42] at hF
    iterate 4 refine au ?_
    cases hF
    exact Er ()
  rw [if_neg (nt hb42)] at hF
  iterate 11 refine au ?_
  refine Cc (fun hb41 => ?_) (fun hb41 => ?_)
  · rw [if_pos hb41] at hF
    iterate 4 refine au ?_
    cases hF
    exact Er ()
  rw [if_neg (nt hb41)] at hF
  iterate 5 refine au ?_
  cases hF
  exact Er ()

/-! spec.AreFacts -/
def s_AreFacts_L1 (a_s : List Int) (a_l : List Fact) : List Fact → Nat → Option (Bool)
  | [], k4 => ((s_IsSchema a_s).bind fun r15 =>
      bif r15 then (some (decide (((a_l.length : Int) : Int) ≤ 24)))
      else (some false)).bind fun o13 =>
    match o13 with
    | c19 => some c19
  | x6 :: rest5, k4 => ((s_IsFact a_s x6).bind fun r26 =>
      bif (!r26) then (some true)
      else (bif (decide ((0 : Int) < (k4 : Int))) then ((ix a_l (IntKind.i64.wrap ((k4 : Int) - 1))).bind fun x31 =>
          (s_CompareFacts x31 x6).bind fun r41 =>
          some (decide ((0 : Int) ≤ r41)))
        else (some false))).bind fun o21 =>
    match o21 with
    | c44 => if c44 then (
        some false)
      else (
        s_AreFacts_L1 a_s a_l rest5 (k4 + 1))
def s_AreFacts (a_s : List Int) (a_l : List Fact) : Option (Bool) :=
  s_AreFacts_L1 a_s a_l a_l 0
theorem s_AreFacts_ok (a_s : List Int) (v0_0 : Sv) (a_l : List Fact) (v1_0 : Sv) (R : Bool) (hF : s_AreFacts a_s a_l = some R) :
    Fw.Spec Tryz.prog 38 [v0_0.v, v1_0.v] [crd (RdS 3 rdInt) v0_0.v a_s, crd (RdS 80 rd80) v1_0.v a_l] (fun _ : Unit => (.bool R)) (fun _ => []) := by
  refine Spec_enter (n := 43) Tryz.func38 rfl rfl (rs := [.tmp 4]) rfl rfl rfl ?_
  intro H0 F0
  unfold s_AreFacts at hF
  iterate 7 refine au ?_
  refine CW_block (CW_loop (m := a_l.length) (fun m2 f' cs' => ∃ (g : Fr) (k4 : Nat) (rest5 : List Fact), m2 = rest5.length ∧ f' = updL g [(0, v0_0.v), (1, v1_0.v), (5, (.int .i64 (k4 : Int)))] ∧ List.drop k4 a_l = rest5 ∧ Ent cs' [crd (RdS 3 rdInt) v0_0.v a_s, crd (RdS 80 rd80) v1_0.v a_l] ∧ s_AreFacts_L1 a_s a_l rest5 k4 = some R) ⟨_, 0, _, rfl, eqA, rfl, entA, hF⟩ ?_)
  clear hF
  rintro m2 _ _ ⟨g3, k4, rest5, rfl, rfl, hd7, hE, hF⟩
  refine K_ent hE ?_
  clear hE
  refine K_pure (c := crd (RdS 80 rd80) v1_0.v a_l) (.t .h) crd_bound (fun hbd12 => ?_)
  rcases rest5 with _ | ⟨x6, rest5⟩
  · have hk8 := List.drop_eq_nil_iff.1 hd7
    rw [s_AreFacts_L1] at hF
    iterate 7 refine au ?_
    refine CdF ?_
    iterate 4 refine au ?_
    obtain ⟨o13, hio13, hO14⟩ := bind_some hF
    refine au ?_
    refine C_cut (fun f' cs' => ∃ (c19 : Bool) (g : Fr), c19 = o13 ∧ f' = updL g [(4, (.bool c19))] ∧ Ent cs' []) ?_ ?_
    · replace hF := hio13
      refine au ?_
      obtain ⟨r15, hx16, hF⟩ := bind_some hF
      refine Cx0 (s_IsSchema_ok _ _ _ hx16) (fun _ => ?_)
      refine au ?_
      rcases Bool.eq_false_or_eq_true r15 with hg18 | hg18
      · rw [hg18]
        try rw [hg18] at hF; dsimp only [cond_true, cond_false] at hF
        iterate 9 refine au ?_
        cases hF
        exact ⟨_, _, rfl, eqA, entA⟩
      rw [hg18]
      try rw [hg18] at hF; dsimp only [cond_true, cond_false] at hF
      iterate 6 refine au ?_
      cases hF
      exact ⟨_, _, rfl, eqA, entA⟩
    rintro _ _ ⟨c19, g20, rfl, rfl, hE⟩
    replace hF := hO14
    clear hO14
    try dsimp only at hF
    refine K_ent hE ?_
    refine au ?_
    cases hF
    exact Er ()
  obtain ⟨hk8, hx9, hd10⟩ := drop_cons hd7
  rw [s_AreFacts_L1] at hF
  iterate 7 refine au ?_
  refine CdT ?_
  iterate 2 refine au ?_
  obtain ⟨o21, hio21, hO22⟩ := bind_some hF
  refine K_draw [0, 1, 2, 3, 4, 5, 6, 7, 8, 9, 10, 11, 12, 13, 14, 15, 16, 17, 18, 19, 20, 21, 22, 23] [0, 0, 0, 6, 14, 31, 63, 127, 255, 511, 1023, 2047, 2047, 6143, 16383, 32767, 2047, 2047, 198655, 460799, 1048575, 2097151, 4194303, 8388607] [5, 20] mixed (by decide +kernel) ?_
  refine D_cut (fun f' cs' => ∃ (c44 : Bool) (g : Fr), c44 = o21 ∧ f' = updL g [(0, v0_0.v), (1, v1_0.v), (5, (.int .i64 (k4 : Int))), (35, (.bool c44))] ∧ Ent cs' [crd (RdS 3 rdInt) v0_0.v a_s, crd (RdS 80 rd80) v1_0.v a_l]) ?_ ?_
  · replace hF := hio21
    iterate 3 refine du ?_
    refine Di hx9 (fun k23 j24 => ?_)
    refine DlA1 (ul80_0_80 x6) la80_0_80 (fun p25 => ?_)
    obtain ⟨r26, hx27, hF⟩ := bind_some hF
    refine Dx0 (s_IsFact_ok _ _ _ _ _ hx27) (fun _ => ?_)
    iterate 2 refine du ?_
    rcases Bool.eq_false_or_eq_true (!r26) with hg29 | hg29
    · rw [hg29]
      try rw [hg29] at hF; dsimp only [cond_true, cond_false] at hF
      iterate 17 refine du ?_
      cases hF
      exact ⟨_, _, rfl, eqA, entA⟩
    rw [hg29]
    try rw [hg29] at hF; dsimp only [cond_true, cond_false] at hF
    iterate 3 refine du ?_
    rcases Bool.eq_false_or_eq_true (decide ((0 : Int) < (k4 : Int))) with hg30 | hg30
    · rw [hg30]
      try rw [hg30] at hF; dsimp only [cond_true, cond_false] at hF
      iterate 3 refine du ?_
      obtain ⟨x31, hx32, hF⟩ := bind_some hF
      obtain ⟨hp33, hx34⟩ := ix_some hx32
      refine Di hx34 (fun k35 j36 => ?_)
      refine DlA1 (ul80_0_80 x31) la80_0_80 (fun p37 => ?_)
      iterate 2 refine du ?_
      refine Di hx9 (fun k38 j39 => ?_)
      refine DlA1 (ul80_0_80 x6) la80_0_80 (fun p40 => ?_)
      obtain ⟨r41, hx42, hF⟩ := bind_some hF
      refine Dx0 (s_CompareFacts_ok _ _ _ _ _ hx42) (fun _ => ?_)
      iterate 4 refine du ?_
      cases hF
      exact ⟨_, _, rfl, eqA, entA⟩
    rw [hg30]
    try rw [hg30] at hF; dsimp only [cond_true, cond_false] at hF
    iterate 14 refine du ?_
    cases hF
    exact ⟨_, _, rfl, eqA, entA⟩
  rintro _ _ ⟨c44, g47, rfl, rfl, hE⟩
  replace hF := hO22
  clear hO22
  try dsimp only at hF
  refine K_ent hE ?_
  refine Cc (fun hb46 => ?_) (fun hb46 => ?_)
  · rw [if_pos hb46] at hF
    iterate 4 refine au ?_
    cases hF
    exact Er ()
  rw [if_neg (nt hb46)] at hF
  iterate 6 refine au ?_
  rw [wk k4]
  exact ⟨_, Nat.lt_succ_self _, _, k4 + 1, rest5, rfl, eqA, hd10, entA, hF⟩

/-! spec.ConstantsOf -/
def s_ConstantsOf_L3 (x127 : Atom) : Nat → (List Int) → Int → Option ((List Int))
  | 0, _, _ => none
  | m139 + 1, c136, c138 => if (decide ((c138 : Int) < (x127.Terms.length : Int))) then (
      ((ix x127.Terms c138).bind fun x155 =>
        (s_l1In x155 0 9).bind fun r161 =>
        if r161 then (
          (ix x127.Terms c138).bind fun x167 =>
          (s_l3Put c136 x167).bind fun r173 =>
          some r173)
        else (
          some c136)).bind fun o150 =>
      match o150 with
      | c177 => s_ConstantsOf_L3 x127 m139 c177 (IntKind.i64.wrap (c138 + 1)))
    else (
      some c136)
def s_ConstantsOf_L1 : List Atom → Nat → (List Int) → Option ((List Int))
  | [], k125, c120 => some c120
  | x127 :: rest126, k125, c120 => (s_ConstantsOf_L3 x127 (((x127.Terms.length : Int) - 0).toNat + 2) c120 0).bind fun o134 =>
    match o134 with
    | c181 => s_ConstantsOf_L1 rest126 (k125 + 1) c181
def s_ConstantsOf (a_q : Query) : Option ((List Int)) :=
  s_ConstantsOf_L1 a_q.Atoms 0 ([] : List Int)
theorem s_ConstantsOf_ok (a_q : Query) (v0_0 : Sv) (v0_1 : Sv) (R : (List Int)) (hF : s_ConstantsOf a_q = some R) :
    Fw.Spec Tryz.prog 40 [(.agg [v0_0.v, v0_1.v].toArray)] [crd (RdS 3 rdInt) v0_0.v a_q.Head, crd (RdS 102 rd102) v0_1.v a_q.Atoms] (fun p : Sv => p.v) (fun p => [crd (RdS 3 rdInt) p.v R]) := by
  refine Spec_enter (n := 47) Tryz.func40 rfl rfl (rs := [.tmp 2]) rfl rfl rfl ?_
  intro H0 F0
  unfold s_ConstantsOf at hF
  refine au ?_
  refine AbR (fun k1 => ?_)
  iterate 3 refine au ?_
  refine C_new rfl (N_buildSliceT (g := true) sl22.h ty3.h .nil (vs := []) rfl rfl rfl (by simp)) (fun k2 => ?_)
  refine Cv1 (.cons .h .nil) (own_lit (Ro := (roE rdInt)) (E := 3) (F := []) (xs := ([] : List Int)) MkL_nil rfl rfl) ?_
  iterate 6 refine au ?_
  refine CW_block (CW_loop (m := a_q.Atoms.length) (fun m123 f' cs' => ∃ (g : Fr) (k125 : Nat) (rest126 : List Atom) (c120 : List Int) (v121 : Sv), m123 = rest126.length ∧ f' = updL g [(1, (.pointer (some ⟨k1, 0, some 0⟩))), (3, v121.v), (4, (.int .i64 (k125 : Int)))] ∧ List.drop k125 a_q.Atoms = rest126 ∧ Ent cs' [cboR k1 38 (.agg [v0_0.v, v0_1.v].toArray), crd (RdS 3 rdInt) v0_0.v a_q.Head, crd (RdS 102 rd102) v0_1.v a_q.Atoms, crd (RdS 3 rdInt) v121.v c120] ∧ s_ConstantsOf_L1 rest126 k125 c120 = some R) ⟨_, 0, _, _, ⟨(some ⟨k2, 0, none⟩), 0, 1⟩, rfl, eqA, rfl, (.frz .h frz_own entA), hF⟩ ?_)
  clear hF
  rintro m123 _ _ ⟨g124, k125, rest126, c120, v121, rfl, rfl, hd128, hE, hF⟩
  refine K_ent hE ?_
  clear hE
  refine K_pure (c := crd (RdS 102 rd102) v0_1.v a_q.Atoms) (.t (.t .h)) crd_bound (fun hbd133 => ?_)
  rcases rest126 with _ | ⟨x127, rest126⟩
  · have hk129 := List.drop_eq_nil_iff.1 hd128
    rw [s_ConstantsOf_L1] at hF
    iterate 8 refine au ?_
    refine CdF ?_
    iterate 9 refine au ?_
    cases hF
    exact Er v121
  obtain ⟨hk129, hx130, hd131⟩ := drop_cons hd128
  rw [s_ConstantsOf_L1] at hF
  iterate 8 refine au ?_
  refine CdT ?_
  refine au ?_
  obtain ⟨o134, hio134, hO135⟩ := bind_some hF
  refine K_cut (fun f' cs' => ∃ (c181 : List Int) (v182 : Sv) (g : Fr), c181 = o134 ∧ f' = updL g [(1, (.pointer (some ⟨k1, 0, some 0⟩))), (3, v182.v), (4, (.int .i64 (k125 : Int)))] ∧ Ent cs' [cboR k1 38 (.agg [v0_0.v, v0_1.v].toArray), crd (RdS 3 rdInt) v0_0.v a_q.Head, crd (RdS 102 rd102) v0_1.v a_q.Atoms, crd (RdS 3 rdInt) v182.v c181]) ?_ ?_
  · replace hF := hio134
    refine CW_block (K_region (C_val (V_assign (v := (.int .i64 0)) (.int _ _)) ?_))
    refine au ?_
    refine CW_block (CW_loop (m := (((x127.Terms.length : Int) - 0).toNat + 2)) (fun m139 f' cs' => ∃ (g : Fr) (c136 : List Int) (c138 : Int) (v137 : Sv), f' = updL g [(1, (.pointer (some ⟨k1, 0, some 0⟩))), (3, v137.v), (4, (.int .i64 (k125 : Int))), (5, (.int .i64 c138))] ∧ Ent cs' [cboR k1 38 (.agg [v0_0.v, v0_1.v].toArray), crd (RdS 3 rdInt) v0_0.v a_q.Head, crd (RdS 102 rd102) v0_1.v a_q.Atoms, crd (RdS 3 rdInt) v137.v c136] ∧ s_ConstantsOf_L3 x127 m139 c136 c138 = some o134) ⟨_, _, _, v121, eqA, entA, hF⟩ ?_)
    clear hF
    rintro m139 _ _ ⟨g140, c136, c138, v137, rfl, hE, hF⟩
    refine K_ent hE ?_
    clear hE
    rcases m139 with _ | m139
    · rw [s_ConstantsOf_L3] at hF
      exact absurd hF (by simp)
    rw [s_ConstantsOf_L3] at hF
    iterate 6 refine au ?_
    refine Ai hx130 (fun k147 j148 => ?_)
    refine au ?_
    refine C_ldV (R' := (RdS 3 rdInt)) ag22.h (.tmp rfl rfl) .h lv102_1 (fun w149 => ?_)
    iterate 3 refine au ?_
    refine Cc (fun hb180 => ?_) (fun hb180 => ?_)
    · rw [if_pos hb180] at hF
      refine au ?_
      obtain ⟨o150, hio150, hO151⟩ := bind_some hF
      refine K_cut (fun f' cs' => ∃ (c177 : List Int) (v178 : Sv) (g : Fr), c177 = o150 ∧ f' = updL g [(1, (.pointer (some ⟨k1, 0, some 0⟩))), (3, v178.v), (4, (.int .i64 (k125 : Int))), (5, (.int .i64 c138))] ∧ Ent cs' [cboR k1 38 (.agg [v0_0.v, v0_1.v].toArray), crd (RdS 3 rdInt) v0_0.v a_q.Head, crd (RdS 102 rd102) v0_1.v a_q.Atoms, crd (RdS 3 rdInt) v178.v c177]) ?_ ?_
      · replace hF := hio150
        refine CW_block (K_region (C_val (V_fieldAddr (off := 1) fd38_1.h (.tmp rfl rfl)) ?_))
        iterate 2 refine au ?_
        refine Ai hx130 (fun k152 j153 => ?_)
        refine au ?_
        refine C_ldV (R' := (RdS 3 rdInt)) ag22.h (.tmp rfl rfl) .h lv102_1 (fun w154 => ?_)
        refine au ?_
        obtain ⟨x155, hx156, hF⟩ := bind_some hF
        obtain ⟨hp157, hx158⟩ := ix_some hx156
        refine Ai hx158 (fun k159 j160 => ?_)
        refine Al ls3_0 ?_
        obtain ⟨r161, hx162, hF⟩ := bind_some hF
        refine Cx0 (s_l1In_ok _ _ _ _ hx162) (fun _ => ?_)
        refine au ?_
        refine Cc (fun hb176 => ?_) (fun hb176 => ?_)
        · rw [if_pos hb176] at hF
          iterate 5 refine au ?_
          refine Ai hx130 (fun k164 j165 => ?_)
          refine au ?_
          refine C_ldV (R' := (RdS 3 rdInt)) ag22.h (.tmp rfl rfl) .h lv102_1 (fun w166 => ?_)
          refine au ?_
          obtain ⟨x167, hx168, hF⟩ := bind_some hF
          obtain ⟨hp169, hx170⟩ := ix_some hx168
          refine Ai hx170 (fun k171 j172 => ?_)
          refine Al ls3_0 ?_
          obtain ⟨r173, hx174, hF⟩ := bind_some hF
          refine Cx1 (s_l3Put_ok _ _ _ _ hx174) (fun p175 => ?_)
          iterate 2 refine au ?_
          cases hF
          exact ⟨_, p175, _, rfl, eqA, entA⟩
        rw [if_neg (nt hb176)] at hF
        refine au ?_
        cases hF
        exact ⟨_, v137, _, rfl, eqA, entA⟩
      rintro _ _ ⟨c177, v178, g179, rfl, rfl, hE⟩
      replace hF := hO151
      clear hO151
      try dsimp only at hF
      refine K_ent hE ?_
      iterate 5 refine au ?_
      exact ⟨m139, Nat.lt_succ_self _, _, _, _, v178, eqA, entA, hF⟩
    rw [if_neg (nt hb180)] at hF
    iterate 4 refine au ?_
    cases hF
    exact ⟨_, v137, _, rfl, eqA, entA⟩
  rintro _ _ ⟨c181, v182, g184, rfl, rfl, hE⟩
  replace hF := hO135
  clear hO135
  try dsimp only at hF
  refine K_ent hE ?_
  iterate 5 refine au ?_
  rw [wk k125]
  exact ⟨_, Nat.lt_succ_self _, _, k125 + 1, rest126, _, v182, rfl, eqA, hd131, entA, hF⟩

/-! spec.StartReach -/
def s_StartReach_L1 : List Int → Nat → (List Fact) → (List Int) → (List Access) → (List Fact) → (List Int) → (List Access) → Option (Reached)
  | [], k99, c79, c82, c85, c88, c91, c93 => some ({ Facts := c88, Values := c91, Log := c93, Rounds := 0 } : Reached)
  | x101 :: rest100, k99, c79, c82, c85, c88, c91, c93 => ((s_l1In x101 0 9).bind fun r112 =>
      if r112 then (
        (s_l3Put c91 x101).bind fun r117 =>
        some r117)
      else (
        some c91)).bind fun o108 =>
    match o108 with
    | c121 => s_StartReach_L1 rest100 (k99 + 1) c79 c82 c85 c88 c121 c93
def s_StartReach (a_seeds : List Int) : Option (Reached) :=
  s_StartReach_L1 a_seeds 0 ([] : List Fact) ([] : List Int) ([] : List Access) ([] : List Fact) ([] : List Int) ([] : List Access)
theorem s_StartReach_ok (a_seeds : List Int) (v0_0 : Sv) (R : Reached) (hF : s_StartReach a_seeds = some R) :
    Fw.Spec Tryz.prog 69 [v0_0.v] [crd (RdS 3 rdInt) v0_0.v a_seeds] (fun p : Sv × List Nat × Sv × Sv × List Nat => (.agg [p.1.v, p.2.2.1.v, p.2.2.2.1.v, (.int .i64 R.Rounds)].toArray)) (fun p => [cown (OwnS 80 ow80) p.2.1 p.1.v R.Facts, crd (RdS 3 rdInt) p.2.2.1.v R.Values, cown (OwnS 141 ow141) p.2.2.2.2 p.2.2.2.1.v R.Log]) := by
  refine Spec_enter (n := 26) Tryz.func69 rfl rfl (rs := [.cell 2 73]) rfl rfl rfl ?_
  intro H0 F0
  unfold s_StartReach at hF
  refine au ?_
  refine AnW (fun k1 => ?_)
  iterate 2 refine au ?_
  refine C_val (V_build ty73.h rfl (vs := []) .nil (cells := [(.slice none 0 0), (.slice none 0 0), (.slice none 0 0), (.int .i64 0)]) rfl) ?_
  refine AnW (fun k2 => ?_)
  refine As (.agg [(.slice none 0 0), (.slice none 0 0), (.slice none 0 0), (.int .i64 0)].toArray) ?_
  iterate 5 refine au ?_
  refine CW_block (CW_loop (m := a_seeds.length) (fun m97 f' cs' => ∃ (g : Fr) (k99 : Nat) (rest100 : List Int) (c79 : List Fact) (c82 : List Int) (c85 : List Access) (c88 : List Fact) (c91 : List Int) (c93 : List Access) (v80 : Sv) (F81 : List Nat) (v83 : Sv) (F84 : List Nat) (v86 : Sv) (F87 : List Nat) (v89 : Sv) (F90 : List Nat) (v92 : Sv) (v94 : Sv) (F95 : List Nat), m97 = rest100.length ∧ f' = updL g [(0, v0_0.v), (2, (.pointer (some ⟨k1, 0, some 0⟩))), (3, (.pointer (some ⟨k2, 0, some 0⟩))), (4, (.int .i64 (k99 : Int)))] ∧ List.drop k99 a_seeds = rest100 ∧ Ent cs' [crd (RdS 3 rdInt) v0_0.v a_seeds, cbox k1 73 (.agg [v80.v, v83.v, v86.v, (.int .i64 0)].toArray), cown (OwnS 80 ow80) F81 v80.v c79, cown (OwnS 3 (roE rdInt)) F84 v83.v c82, cown (OwnS 141 ow141) F87 v86.v c85, cbox k2 73 (.agg [v89.v, v92.v, v94.v, (.int .i64 0)].toArray), cown (OwnS 80 ow80) F90 v89.v c88, crd (RdS 3 rdInt) v92.v c91, cown (OwnS 141 ow141) F95 v94.v c93] ∧ s_StartReach_L1 rest100 k99 c79 c82 c85 c88 c91 c93 = some R) ⟨_, 0, _, _, _, _, _, _, _, ⟨none, 0, 0⟩, [], ⟨none, 0, 0⟩, [], ⟨none, 0, 0⟩, [], ⟨none, 0, 0⟩, [], ⟨none, 0, 0⟩, ⟨none, 0, 0⟩, [], rfl, eqA, rfl, (.conv .nil (own_nil (Ro := ow80) (E := 80)) (.cons .nil) (.conv .nil (own_nil (Ro := (roE rdInt)) (E := 3)) (.cons .nil) (.conv .nil (own_nil (Ro := ow141) (E := 141)) (.cons .nil) (.conv .nil (own_nil (Ro := ow80) (E := 80)) (.cons .nil) (.conv .nil (rd_nil (R := rdInt) (E := 3)) (.cons .nil) (.conv .nil (own_nil (Ro := ow141) (E := 141)) (.cons .nil) entA)))))), hF⟩ ?_)
  clear hF
  rintro m97 _ _ ⟨g98, k99, rest100, c79, c82, c85, c88, c91, c93, v80, F81, v83, F84, v86, F87, v89, F90, v92, v94, F95, rfl, rfl, hd102, hE, hF⟩
  refine K_ent hE ?_
  clear hE
  refine K_pure (c := crd (RdS 3 rdInt) v0_0.v a_seeds) .h crd_bound (fun hbd107 => ?_)
  rcases rest100 with _ | ⟨x101, rest100⟩
  · have hk103 := List.drop_eq_nil_iff.1 hd102
    rw [s_StartReach_L1] at hF
    iterate 7 refine au ?_
    refine CdF ?_
    iterate 6 refine au ?_
    refine As (.agg [v89.v, v92.v, v94.v, (.int .i64 0)].toArray) ?_
    iterate 2 refine au ?_
    cases hF
    exact Er (v89, F90, v92, v94, F95)
  obtain ⟨hk103, hx104, hd105⟩ := drop_cons hd102
  rw [s_StartReach_L1] at hF
  iterate 7 refine au ?_
  refine CdT ?_
  refine au ?_
  obtain ⟨o108, hio108, hO109⟩ := bind_some hF
  refine K_cut (fun f' cs' => ∃ (c121 : List Int) (v122 : Sv) (g : Fr), c121 = o108 ∧ f' = updL g [(0, v0_0.v), (2, (.pointer (some ⟨k1, 0, some 0⟩))), (3, (.pointer (some ⟨k2, 0, some 0⟩))), (4, (.int .i64 (k99 : Int)))] ∧ Ent cs' [crd (RdS 3 rdInt) v0_0.v a_seeds, cbox k1 73 (.agg [v80.v, v83.v, v86.v, (.int .i64 0)].toArray), cown (OwnS 80 ow80) F81 v80.v c79, cown (OwnS 3 (roE rdInt)) F84 v83.v c82, cown (OwnS 141 ow141) F87 v86.v c85, cbox k2 73 (.agg [v89.v, v122.v, v94.v, (.int .i64 0)].toArray), cown (OwnS 80 ow80) F90 v89.v c88, crd (RdS 3 rdInt) v122.v c121, cown (OwnS 141 ow141) F95 v94.v c93]) ?_ ?_
  · replace hF := hio108
    refine CW_block (K_region (Cm v0_0.v rfl rfl ?_))
    refine au ?_
    refine Ai hx104 (fun k110 j111 => ?_)
    refine Al ls3_0 ?_
    obtain ⟨r112, hx113, hF⟩ := bind_some hF
    refine Cx0 (s_l1In_ok _ _ _ _ hx113) (fun _ => ?_)
    refine au ?_
    refine Cc (fun hb120 => ?_) (fun hb120 => ?_)
    · rw [if_pos hb120] at hF
      refine CW_draw [0, 1, 2, 3, 4, 5, 6, 7, 8] [0, 1, 0, 0, 12, 28, 63, 127, 255] [6, 8] mixed (by decide +kernel) ?_
      refine du ?_
      refine D_atO rfl .no (.t (.t (.t (.t (.t (.t .h)))))) (fun ha hp => V_load (v := v92.v) ag22.h (EN ha (.tmp rfl rfl) rfl) hp.2 rfl rfl) ?_
      iterate 2 refine du ?_
      refine Di hx104 (fun k115 j116 => ?_)
      refine Dl ls3_0 ?_
      obtain ⟨r117, hx118, hF⟩ := bind_some hF
      refine Dx1 (s_l3Put_ok _ _ _ _ hx118) (fun p119 => ?_)
      refine du ?_
      refine D_act1 rfl rfl .no (.cons (.t (.t (.t (.t (.t (.t (.t (.t .h)))))))) .nil) (.dep rfl .nil) (fun ha => X_storeB (e' := (.agg [v89.v, p119.v, v94.v, (.int .i64 0)].toArray)) ty22.h.sz (EN ha (.tmp rfl rfl) rfl) (EN ha (.tmp rfl rfl) rfl) rfl rfl rfl rfl rfl) (fun _ => ?_)
      refine du ?_
      cases hF
      exact ⟨_, p119, _, rfl, eqA, entA⟩
    rw [if_neg (nt hb120)] at hF
    refine au ?_
    cases hF
    exact ⟨_, v92, _, rfl, eqA, entA⟩
  rintro _ _ ⟨c121, v122, g124, rfl, rfl, hE⟩
  replace hF := hO109
  clear hO109
  try dsimp only at hF
  refine K_ent hE ?_
  iterate 5 refine au ?_
  rw [wk k99]
  exact ⟨_, Nat.lt_succ_self _, _, k99 + 1, rest100, _, _, _, _, _, _, v80, F81, v83, F84, v86, F87, v89, F90, v122, v94, F95, rfl, eqA, hd105, entA, hF⟩

/-! spec.l8Values -/
def s_l8Values_L1 (a_l : List Int) : List Int → Nat → Option (Bool)
  | [], k4 => some true
  | x6 :: rest5, k4 => ((s_l1In x6 0 9).bind fun r17 =>
      bif (!r17) then (some true)
      else (bif (decide ((0 : Int) < (k4 : Int))) then ((ix a_l (IntKind.i64.wrap ((k4 : Int) - 1))).bind fun x24 =>
          some (decide ((x6 : Int) ≤ x24)))
        else (some false))).bind fun o13 =>
    match o13 with
    | c30 => if c30 then (
        some false)
      else (
        s_l8Values_L1 a_l rest5 (k4 + 1))
def s_l8Values (a_l : List Int) : Option (Bool) :=
  s_l8Values_L1 a_l a_l 0
theorem s_l8Values_ok (a_l : List Int) (v0_0 : Sv) (R : Bool) (hF : s_l8Values a_l = some R) :
    Fw.Spec Tryz.prog 104 [v0_0.v] [crd (RdS 3 rdInt) v0_0.v a_l] (fun _ : Unit => (.bool R)) (fun _ => []) := by
  refine Spec_enter (n := 32) Tryz.func104 rfl rfl (rs := [.tmp 2]) rfl rfl rfl ?_
  intro H0 F0
  unfold s_l8Values at hF
  iterate 7 refine au ?_
  refine CW_block (CW_loop (m := a_l.length) (fun m2 f' cs' => ∃ (g : Fr) (k4 : Nat) (rest5 : List Int), m2 = rest5.length ∧ f' = updL g [(0, v0_0.v), (3, (.int .i64 (k4 : Int)))] ∧ List.drop k4 a_l = rest5 ∧ Ent cs' [crd (RdS 3 rdInt) v0_0.v a_l] ∧ s_l8Values_L1 a_l rest5 k4 = some R) ⟨_, 0, _, rfl, eqA, rfl, entA, hF⟩ ?_)
  clear hF
  rintro m2 _ _ ⟨g3, k4, rest5, rfl, rfl, hd7, hE, hF⟩
  refine K_ent hE ?_
  clear hE
  refine K_pure (c := crd (RdS 3 rdInt) v0_0.v a_l) .h crd_bound (fun hbd12 => ?_)
  rcases rest5 with _ | ⟨x6, rest5⟩
  · have hk8 := List.drop_eq_nil_iff.1 hd7
    rw [s_l8Values_L1] at hF
    iterate 7 refine au ?_
    refine CdF ?_
    iterate 8 refine au ?_
    cases hF
    exact Er ()
  obtain ⟨hk8, hx9, hd10⟩ := drop_cons hd7
  rw [s_l8Values_L1] at hF
  iterate 7 refine au ?_
  refine CdT ?_
  iterate 2 refine au ?_
  obtain ⟨o13, hio13, hO14⟩ := bind_some hF
  refine K_draw [0, 1, 2, 3, 4, 5, 6, 7, 8, 9, 10, 11, 12, 13, 14, 15, 16, 17, 18, 19, 20, 21] [0, 0, 3, 7, 15, 31, 63, 127, 255, 511, 1023, 1023, 4095, 8191, 1023, 1023, 33791, 115711, 246783, 524287, 1048575, 2097151] [4] mixed (by decide +kernel) ?_
  refine D_cut (fun f' cs' => ∃ (c30 : Bool) (g : Fr), c30 = o13 ∧ f' = updL g [(0, v0_0.v), (3, (.int .i64 (k4 : Int))), (31, (.bool c30))] ∧ Ent cs' [crd (RdS 3 rdInt) v0_0.v a_l]) ?_ ?_
  · replace hF := hio13
    iterate 2 refine du ?_
    refine Di hx9 (fun k15 j16 => ?_)
    refine Dl ls3_0 ?_
    obtain ⟨r17, hx18, hF⟩ := bind_some hF
    refine Dx0 (s_l1In_ok _ _ _ _ hx18) (fun _ => ?_)
    iterate 2 refine du ?_
    rcases Bool.eq_false_or_eq_true (!r17) with hg20 | hg20
    · rw [hg20]
      try rw [hg20] at hF; dsimp only [cond_true, cond_false] at hF
      iterate 16 refine du ?_
      cases hF
      exact ⟨_, _, rfl, eqA, entA⟩
    rw [hg20]
    try rw [hg20] at hF; dsimp only [cond_true, cond_false] at hF
    iterate 3 refine du ?_
    rcases Bool.eq_false_or_eq_true (decide ((0 : Int) < (k4 : Int))) with hg21 | hg21
    · rw [hg21]
      try rw [hg21] at hF; dsimp only [cond_true, cond_false] at hF
      iterate 2 refine du ?_
      refine Di hx9 (fun k22 j23 => ?_)
      refine Dl ls3_0 ?_
      iterate 3 refine du ?_
      obtain ⟨x24, hx25, hF⟩ := bind_some hF
      obtain ⟨hp26, hx27⟩ := ix_some hx25
      refine Di hx27 (fun k28 j29 => ?_)
      refine Dl ls3_0 ?_
      iterate 4 refine du ?_
      cases hF
      exact ⟨_, _, rfl, eqA, entA⟩
    rw [hg21]
    try rw [hg21] at hF; dsimp only [cond_true, cond_false] at hF
    iterate 13 refine du ?_
    cases hF
    exact ⟨_, _, rfl, eqA, entA⟩
  rintro _ _ ⟨c30, g33, rfl, rfl, hE⟩
  replace hF := hO14
  clear hO14
  try dsimp only at hF
  refine K_ent hE ?_
  refine Cc (fun hb32 => ?_) (fun hb32 => ?_)
  · rw [if_pos hb32] at hF
    iterate 4 refine au ?_
    cases hF
    exact Er ()
  rw [if_neg (nt hb32)] at hF
  iterate 6 refine au ?_
  rw [wk k4]
  exact ⟨_, Nat.lt_succ_self _, _, k4 + 1, rest5, rfl, eqA, hd10, entA, hF⟩

/-! spec.l2One -/
def s_l2One (a_rel : Int) (a_values : List Int) : Option (Fact) :=
  (app ([] : List Int) a_values).bind fun z3 =>
  some ({ Rel := a_rel, Values := z3 } : Fact)
theorem s_l2One_ok (a_rel : Int) (a_values : List Int) (v1_0 : Sv) (R : Fact) (hF : s_l2One a_rel a_values = some R) :
    Fw.Spec Tryz.prog 178 [(.int .i64 a_rel), v1_0.v] [crd (RdS 3 rdInt) v1_0.v a_values] (fun p : Sv × List Nat => (.agg [(.int .i64 R.Rel), p.1.v].toArray)) (fun p => [cown (OwnS 3 (roE rdInt)) p.2 p.1.v R.Values]) := by
  refine Spec_enter (n := 10) Tryz.func178 rfl rfl (rs := [.cell 4 80]) rfl rfl rfl ?_
  intro H0 F0
  unfold s_l2One at hF
  refine au ?_
  refine AnW (fun k1 => ?_)
  iterate 3 refine au ?_
  refine C_new rfl (N_buildSliceT (g := true) sl22.h ty3.h .nil (vs := []) rfl rfl rfl (by simp)) (fun k2 => ?_)
  refine Cv1 (.cons .h .nil) (own_lit (Ro := (roE rdInt)) (E := 3) (F := []) (xs := ([] : List Int)) MkL_nil rfl rfl) ?_
  refine au ?_
  obtain ⟨z3, hx4, hF⟩ := bind_some hF
  refine C_x1 (.cons .h (.rd (.t .h) rfl .nil)) (X_appendO (Ro := (roE rdInt)) sl22.h ni22 ty3.h rfl rfl rfl (.tmp rfl rfl) (.tmp rfl rfl) hx4 src_rd) (fun p5 => ?_)
  refine C_val (V_build ty80.h rfl (vs := [(.int .i64 a_rel), p5.1.v]) (.cons (.tmp rfl rfl) (.cons (.tmp rfl rfl) .nil)) (cells := [(.int .i64 a_rel), p5.1.v]) rfl) ?_
  refine As (.agg [(.int .i64 a_rel), p5.1.v].toArray) ?_
  iterate 2 refine au ?_
  cases hF
  exact Er (p5.1, p5.2)

/-! spec.l2Copy -/
def s_l2Copy_L1 : List Fact → Nat → (List Fact) → Option ((List Fact))
  | [], k8, c2 => some c2
  | x10 :: rest9, k8, c2 => (s_l2One x10.Rel x10.Values).bind fun r22 =>
    (app c2 ([r22] : List Fact)).bind fun z26 =>
    s_l2Copy_L1 rest9 (k8 + 1) z26
def s_l2Copy (a_l : List Fact) : Option ((List Fact)) :=
  s_l2Copy_L1 a_l 0 ([] : List Fact)
theorem s_l2Copy_ok (a_l : List Fact) (v0_0 : Sv) (R : (List Fact)) (hF : s_l2Copy a_l = some R) :
    Fw.Spec Tryz.prog 143 [v0_0.v] [crd (RdS 80 rd80) v0_0.v a_l] (fun p : Sv × List Nat => p.1.v) (fun p => [cown (OwnS 80 ow80) p.2 p.1.v R]) := by
  refine Spec_enter (n := 27) Tryz.func143 rfl rfl (rs := [.tmp 2]) rfl rfl rfl ?_
  intro H0 F0
  unfold s_l2Copy at hF
  iterate 4 refine au ?_
  refine C_new rfl (N_buildSliceT (g := true) sl40.h ty80.h .nil (vs := []) rfl rfl rfl (by simp)) (fun k1 => ?_)
  refine Cv1 (.cons .h .nil) (own_lit (Ro := ow80) (E := 80) (F := []) (xs := ([] : List Fact)) MkL_nil rfl rfl) ?_
  iterate 6 refine au ?_
  refine CW_block (CW_loop (m := a_l.length) (fun m6 f' cs' => ∃ (g : Fr) (k8 : Nat) (rest9 : List Fact) (c2 : List Fact) (v3 : Sv) (F4 : List Nat), m6 = rest9.length ∧ f' = updL g [(0, v0_0.v), (3, v3.v), (4, (.int .i64 (k8 : Int)))] ∧ List.drop k8 a_l = rest9 ∧ Ent cs' [crd (RdS 80 rd80) v0_0.v a_l, cown (OwnS 80 ow80) F4 v3.v c2] ∧ s_l2Copy_L1 rest9 k8 c2 = some R) ⟨_, 0, _, _, ⟨(some ⟨k1, 0, none⟩), 0, 1⟩, (k1 :: []), rfl, eqA, rfl, entA, hF⟩ ?_)
  clear hF
  rintro m6 _ _ ⟨g7, k8, rest9, c2, v3, F4, rfl, rfl, hd11, hE, hF⟩
  refine K_ent hE ?_
  clear hE
  refine K_pure (c := crd (RdS 80 rd80) v0_0.v a_l) .h crd_bound (fun hbd16 => ?_)
  rcases rest9 with _ | ⟨x10, rest9⟩
  · have hk12 := List.drop_eq_nil_iff.1 hd11
    rw [s_l2Copy_L1] at hF
    iterate 7 refine au ?_
    refine CdF ?_
    iterate 9 refine au ?_
    cases hF
    exact Er (v3, F4)
  obtain ⟨hk12, hx13, hd14⟩ := drop_cons hd11
  rw [s_l2Copy_L1] at hF
  iterate 7 refine au ?_
  refine CdT ?_
  iterate 2 refine au ?_
  refine CW_draw [0, 1, 2, 3, 4, 5, 6, 7, 8, 9, 10, 11, 12, 13, 14] [0, 0, 0, 6, 14, 30, 0, 0, 192, 448, 960, 2046, 4094, 8191, 16383] [11, 13] mixed (by decide +kernel) ?_
  iterate 3 refine du ?_
  refine Di hx13 (fun k17 j18 => ?_)
  refine du ?_
  refine Dl ls80_0 ?_
  iterate 2 refine du ?_
  refine Di hx13 (fun k19 j20 => ?_)
  refine du ?_
  refine D_ldV (R' := (RdS 3 rdInt)) ag22.h rfl .no (.tmp rfl rfl) rfl .h lv80_1 (fun w21 => ?_)
  obtain ⟨r22, hx23, hF⟩ := bind_some hF
  refine Dx1 (s_l2One_ok _ _ _ _ hx23) (fun p24 => ?_)
  refine D_new rfl .no rfl (fun ha => N_buildSliceT (g := true) (len := 1) (parts := [(0, .tmp 23)]) sl40.h ty80.h (.cons (EN ha (.tmp rfl rfl) rfl) .nil) (vs := [(.agg [(.int .i64 r22.Rel), p24.1.v].toArray)]) rfl rfl rfl (by intro v hv; simp at hv; rcases hv with rfl <;> rfl)) (fun k25 => ?_)
  refine Dv1 (.cons .h (.cons .h .nil)) (own_lit (Ro := ow80) (E := 80) (F := (p24.2 ++ [])) (xs := ([r22] : List Fact)) (MkL_cons mk80 MkL_nil apps) rfl rfl) ?_
  obtain ⟨z26, hx27, hF⟩ := bind_some hF
  refine D_act1 rfl rfl .no (.cons (.t (.t (.t (.t (.t .h))))) (.cons .h .nil)) (.dep rfl .nil) (fun ha => X_appendO (Ro := ow80) sl40.h ni40 ty80.h rfl rfl rfl (EN ha (.tmp rfl rfl) rfl) (EN ha (.tmp rfl rfl) rfl) hx27 src_own) (fun p28 => ?_)
  iterate 2 refine du ?_
  iterate 5 refine au ?_
  rw [wk k8]
  exact ⟨_, Nat.lt_succ_self _, _, k8 + 1, rest9, _, p28.1, p28.2, rfl, eqA, hd14, entA, hF⟩

/-! spec.l8Access -/
def s_l8Access (a_m : Int) (a_values : List Int) : Option (Access) :=
  (app ([] : List Int) a_values).bind fun z3 =>
  some ({ Method := a_m, Values := z3 } : Access)
theorem s_l8Access_ok (a_m : Int) (a_values : List Int) (v1_0 : Sv) (R : Access) (hF : s_l8Access a_m a_values = some R) :
    Fw.Spec Tryz.prog 179 [(.int .i64 a_m), v1_0.v] [crd (RdS 3 rdInt) v1_0.v a_values] (fun p : Sv × List Nat => (.agg [(.int .i64 R.Method), p.1.v].toArray)) (fun p => [cown (OwnS 3 (roE rdInt)) p.2 p.1.v R.Values]) := by
  refine Spec_enter (n := 10) Tryz.func179 rfl rfl (rs := [.cell 4 141]) rfl rfl rfl ?_
  intro H0 F0
  unfold s_l8Access at hF
  refine au ?_
  refine AnW (fun k1 => ?_)
  iterate 3 refine au ?_
  refine C_new rfl (N_buildSliceT (g := true) sl22.h ty3.h .nil (vs := []) rfl rfl rfl (by simp)) (fun k2 => ?_)
  refine Cv1 (.cons .h .nil) (own_lit (Ro := (roE rdInt)) (E := 3) (F := []) (xs := ([] : List Int)) MkL_nil rfl rfl) ?_
  refine au ?_
  obtain ⟨z3, hx4, hF⟩ := bind_some hF
  refine C_x1 (.cons .h (.rd (.t .h) rfl .nil)) (X_appendO (Ro := (roE rdInt)) sl22.h ni22 ty3.h rfl rfl rfl (.tmp rfl rfl) (.tmp rfl rfl) hx4 src_rd) (fun p5 => ?_)
  refine C_val (V_build ty141.h rfl (vs := [(.int .i64 a_m), p5.1.v]) (.cons (.tmp rfl rfl) (.cons (.tmp rfl rfl) .nil)) (cells := [(.int .i64 a_m), p5.1.v]) rfl) ?_
  refine As (.agg [(.int .i64 a_m), p5.1.v].toArray) ?_
  iterate 2 refine au ?_
  cases hF
  exact Er (p5.1, p5.2)

/-! spec.l8Log -/
def s_l8Log_L1 : List Access → Nat → (List Access) → Option ((List Access))
  | [], k8, c2 => some c2
  | x10 :: rest9, k8, c2 => (s_l8Access x10.Method x10.Values).bind fun r22 =>
    (app c2 ([r22] : List Access)).bind fun z26 =>
    s_l8Log_L1 rest9 (k8 + 1) z26
def s_l8Log (a_l : List Access) : Option ((List Access)) :=
  s_l8Log_L1 a_l 0 ([] : List Access)
theorem s_l8Log_ok (a_l : List Access) (v0_0 : Sv) (R : (List Access)) (hF : s_l8Log a_l = some R) :
    Fw.Spec Tryz.prog 144 [v0_0.v] [crd (RdS 141 rd141) v0_0.v a_l] (fun p : Sv × List Nat => p.1.v) (fun p => [cown (OwnS 141 ow141) p.2 p.1.v R]) := by
  refine Spec_enter (n := 27) Tryz.func144 rfl rfl (rs := [.tmp 2]) rfl rfl rfl ?_
  intro H0 F0
  unfold s_l8Log at hF
  iterate 4 refine au ?_
  refine C_new rfl (N_buildSliceT (g := true) sl71.h ty141.h .nil (vs := []) rfl rfl rfl (by simp)) (fun k1 => ?_)
  refine Cv1 (.cons .h .nil) (own_lit (Ro := ow141) (E := 141) (F := []) (xs := ([] : List Access)) MkL_nil rfl rfl) ?_
  iterate 6 refine au ?_
  refine CW_block (CW_loop (m := a_l.length) (fun m6 f' cs' => ∃ (g : Fr) (k8 : Nat) (rest9 : List Access) (c2 : List Access) (v3 : Sv) (F4 : List Nat), m6 = rest9.length ∧ f' = updL g [(0, v0_0.v), (3, v3.v), (4, (.int .i64 (k8 : Int)))] ∧ List.drop k8 a_l = rest9 ∧ Ent cs' [crd (RdS 141 rd141) v0_0.v a_l, cown (OwnS 141 ow141) F4 v3.v c2] ∧ s_l8Log_L1 rest9 k8 c2 = some R) ⟨_, 0, _, _, ⟨(some ⟨k1, 0, none⟩), 0, 1⟩, (k1 :: []), rfl, eqA, rfl, entA, hF⟩ ?_)
  clear hF
  rintro m6 _ _ ⟨g7, k8, rest9, c2, v3, F4, rfl, rfl, hd11, hE, hF⟩
  refine K_ent hE ?_
  clear hE
  refine K_pure (c := crd (RdS 141 rd141) v0_0.v a_l) .h crd_bound (fun hbd16 => ?_)
  rcases rest9 with _ | ⟨x10, rest9⟩
  · have hk12 := List.drop_eq_nil_iff.1 hd11
    rw [s_l8Log_L1] at hF
    iterate 7 refine au ?_
    refine CdF ?_
    iterate 9 refine au ?_
    cases hF
    exact Er (v3, F4)
  obtain ⟨hk12, hx13, hd14⟩ := drop_cons hd11
  rw [s_l8Log_L1] at hF
  iterate 7 refine au ?_
  refine CdT ?_
  iterate 2 refine au ?_
  refine CW_draw [0, 1, 2, 3, 4, 5, 6, 7, 8, 9, 10, 11, 12, 13, 14] [0, 0, 0, 6, 14, 30, 0, 0, 192, 448, 960, 2046, 4094, 8191, 16383] [11, 13] mixed (by decide +kernel) ?_
  iterate 3 refine du ?_
  refine Di hx13 (fun k17 j18 => ?_)
  refine du ?_
  refine Dl ls141_0 ?_
  iterate 2 refine du ?_
  refine Di hx13 (fun k19 j20 => ?_)
  refine du ?_
  refine D_ldV (R' := (RdS 3 rdInt)) ag22.h rfl .no (.tmp rfl rfl) rfl .h lv141_1 (fun w21 => ?_)
  obtain ⟨r22, hx23, hF⟩ := bind_some hF
  refine Dx1 (s_l8Access_ok _ _ _ _ hx23) (fun p24 => ?_)
  refine D_new rfl .no rfl (fun ha => N_buildSliceT (g := true) (len := 1) (parts := [(0, .tmp 23)]) sl71.h ty141.h (.cons (EN ha (.tmp rfl rfl) rfl) .nil) (vs := [(.agg [(.int .i64 r22.Method), p24.1.v].toArray)]) rfl rfl rfl (by intro v hv; simp at hv; rcases hv with rfl <;> rfl)) (fun k25 => ?_)
  refine Dv1 (.cons .h (.cons .h .nil)) (own_lit (Ro := ow141) (E := 141) (F := (p24.2 ++ [])) (xs := ([r22] : List Access)) (MkL_cons mk141 MkL_nil apps) rfl rfl) ?_
  obtain ⟨z26, hx27, hF⟩ := bind_some hF
  refine D_act1 rfl rfl .no (.cons (.t (.t (.t (.t (.t .h))))) (.cons .h .nil)) (.dep rfl .nil) (fun ha => X_appendO (Ro := ow141) sl71.h ni71 ty141.h rfl rfl rfl (EN ha (.tmp rfl rfl) rfl) (EN ha (.tmp rfl rfl) rfl) hx27 src_own) (fun p28 => ?_)
  iterate 2 refine du ?_
  iterate 5 refine au ?_
  rw [wk k8]
  exact ⟨_, Nat.lt_succ_self _, _, k8 + 1, rest9, _, p28.1, p28.2, rfl, eqA, hd14, entA, hF⟩

/-! spec.l8Copy -/
def s_l8Copy (a_r : Reached) : Option (Reached) :=
  (s_l2Copy a_r.Facts).bind fun r5 =>
  (app ([] : List Int) a_r.Values).bind fun z8 =>
  (s_l8Log a_r.Log).bind fun r11 =>
  some ({ Facts := r5, Values := z8, Log := r11, Rounds := a_r.Rounds } : Reached)
theorem s_l8Copy_ok (a_r : Reached) (v0_0 : Sv) (v0_1 : Sv) (v0_2 : Sv) (R : Reached) (hF : s_l8Copy a_r = some R) :
    Fw.Spec Tryz.prog 105 [(.agg [v0_0.v, v0_1.v, v0_2.v, (.int .i64 a_r.Rounds)].toArray)] [crd (RdS 80 rd80) v0_0.v a_r.Facts, crd (RdS 3 rdInt) v0_1.v a_r.Values, crd (RdS 141 rd141) v0_2.v a_r.Log] (fun p : Sv × List Nat × Sv × List Nat × Sv × List Nat => (.agg [p.1.v, p.2.2.1.v, p.2.2.2.2.1.v, (.int .i64 R.Rounds)].toArray)) (fun p => [cown (OwnS 80 ow80) p.2.1 p.1.v R.Facts, cown (OwnS 3 (roE rdInt)) p.2.2.2.1 p.2.2.1.v R.Values, cown (OwnS 141 ow141) p.2.2.2.2.2 p.2.2.2.2.1.v R.Log]) := by
  refine Spec_enter (n := 19) Tryz.func105 rfl rfl (rs := [.cell 2 73]) rfl rfl rfl ?_
  intro H0 F0
  unfold s_l8Copy at hF
  refine au ?_
  refine AbR (fun k1 => ?_)
  refine AnW (fun k2 => ?_)
  refine au ?_
  refine K_draw [0, 1, 3, 4, 5, 7, 8, 10, 2, 6, 9, 11] [0, 1, 3, 0, 0, 16, 63, 0, 128, 511, 0, 2047] [2, 6, 11] mixed (by decide +kernel) ?_
  iterate 2 refine du ?_
  refine D_new rfl .no rfl (fun ha => N_buildSliceT (g := true) (len := 0) (parts := []) sl22.h ty3.h .nil (vs := []) rfl rfl rfl (by simp)) (fun k3 => ?_)
  refine Dv1 (.cons .h .nil) (own_lit (Ro := (roE rdInt)) (E := 3) (F := []) (xs := ([] : List Int)) MkL_nil rfl rfl) ?_
  iterate 4 refine du ?_
  refine D_new rfl .no rfl (fun ha => N_allocT (g := true) ty73.h rfl rfl) (fun k4 => ?_)
  obtain ⟨r5, hx6, hF⟩ := bind_some hF
  refine D_act1 rfl rfl .no (.rd (.t (.t (.t (.t .h)))) rfl .nil) (.own .h (fun _ h => h) (.own (.t .h) (by simp [cown]) .nil)) (fun ha => X_callS cf143.h (.cons (EN ha (.tmp rfl rfl) rfl) .nil) (s_l2Copy_ok a_r.Facts v0_0 _ hx6)) (fun p7 => ?_)
  obtain ⟨z8, hx9, hF⟩ := bind_some hF
  refine D_act1 rfl rfl .no (.cons (.t (.t .h)) (.rd (.t (.t (.t (.t (.t .h))))) rfl .nil)) (.own (.t .h) (fun _ h => h) (.dep rfl .nil)) (fun ha => X_appendO (Ro := (roE rdInt)) sl22.h ni22 ty3.h rfl rfl rfl (EN ha (.tmp rfl rfl) rfl) (EN ha (.tmp rfl rfl) rfl) hx9 src_rd) (fun p10 => ?_)
  refine D_val rfl .no (fun ha => V_build ty73.h rfl (vs := [p7.1.v, p10.1.v, (.int .i64 a_r.Rounds)]) (.cons (EN ha (.tmp rfl rfl) rfl) (.cons (EN ha (.tmp rfl rfl) rfl) (.cons (EN ha (.tmp rfl rfl) rfl) .nil))) (cells := [p7.1.v, p10.1.v, (.slice none 0 0), (.int .i64 a_r.Rounds)]) rfl) ?_
  refine D_act1 rfl rfl .no (.cons (.t (.t .h)) .nil) (.dep rfl (.dep rfl .nil)) (fun ha => X_storeB (e' := (.agg [p7.1.v, p10.1.v, (.slice none 0 0), (.int .i64 a_r.Rounds)].toArray)) (v := (.agg [p7.1.v, p10.1.v, (.slice none 0 0), (.int .i64 a_r.Rounds)].toArray)) ty73.h.sz (EN ha (.tmp rfl rfl) rfl) (EN ha (.tmp rfl rfl) rfl) rfl rfl rfl rfl rfl) (fun _ => ?_)
  refine du ?_
  iterate 3 refine au ?_
  obtain ⟨r11, hx12, hF⟩ := bind_some hF
  refine Cx1 (s_l8Log_ok _ _ _ hx12) (fun p13 => ?_)
  refine au ?_
  refine As (.agg [p7.1.v, p10.1.v, p13.1.v, (.int .i64 a_r.Rounds)].toArray) ?_
  iterate 3 refine au ?_
  refine As (.agg [p7.1.v, p10.1.v, p13.1.v, (.int .i64 a_r.Rounds)].toArray) ?_
  iterate 2 refine au ?_
  cases hF
  exact Er (p7.1, p7.2, p10.1, p10.2, p13.1, p13.2)

/-! spec.l8Lists -/
def s_l8Lists_L5 (c207 : List (List Int)) (c212 : Int) : List Int → Nat → (List (List Int)) → Option ((List (List Int)))
  | [], k229, c223 => some c223
  | x231 :: rest230, k229, c223 => (ix c207 c212).bind fun x239 =>
    (app ([] : List Int) x239).bind fun z249 =>
    (app z249 ([x231] : List Int)).bind fun z252 =>
    (app c223 ([z252] : List (List Int))).bind fun z256 =>
    s_l8Lists_L5 c207 c212 rest230 (k229 + 1) z256
def s_l8Lists_L2 (a_values : List Int) : Nat → (List (List Int)) → (List (List Int)) → Int → Option ((List (List Int)))
  | 0, _, _, _ => none
  | m213 + 1, c207, c209, c212 => if (decide ((c212 : Int) < (c207.length : Int))) then (
      (s_l8Lists_L5 c207 c212 a_values 0 c209).bind fun o221 =>
      match o221 with
      | c260 => s_l8Lists_L2 a_values m213 c207 c260 (IntKind.i64.wrap (c212 + 1)))
    else (
      some c209)
def s_l8Lists_L1 (a_values : List Int) (a_n : Int) : Nat → (List (List Int)) → Int → Option ((List (List Int)))
  | 0, _, _ => none
  | m7 + 1, c3, c6 => if (decide ((c6 : Int) < a_n)) then (
      (s_l8Lists_L2 a_values (((c3.length : Int) - 0).toNat + 2) c3 ([] : List (List Int)) 0).bind fun o15 =>
      match o15 with
      | c265 => s_l8Lists_L1 a_values a_n m7 c265 (IntKind.i64.wrap (c6 + 1)))
    else (
      some c3)
def s_l8Lists (a_values : List Int) (a_n : Int) : Option ((List (List Int))) :=
  s_l8Lists_L1 a_values a_n ((a_n - 0).toNat + 2) ([([] : List Int)] : List (List Int)) 0
theorem s_l8Lists_ok (a_values : List Int) (v0_0 : Sv) (a_n : Int) (R : (List (List Int))) (hF : s_l8Lists a_values a_n = some R) :
    Fw.Spec Tryz.prog 180 [v0_0.v, (.int .i64 a_n)] [crd (RdS 3 rdInt) v0_0.v a_values] (fun p : Sv × List Nat => p.1.v) (fun p => [cown (OwnS 22 (OwnS 3 (roE rdInt))) p.2 p.1.v R]) := by
  refine Spec_enter (n := 47) Tryz.func180 rfl rfl (rs := [.tmp 4]) rfl rfl rfl ?_
  intro H0 F0
  unfold s_l8Lists at hF
  iterate 4 refine au ?_
  refine C_new rfl (N_buildSliceT (g := true) sl22.h ty3.h .nil (vs := []) rfl rfl rfl (by simp)) (fun k1 => ?_)
  refine Cv1 (.cons .h .nil) (own_lit (Ro := (roE rdInt)) (E := 3) (F := []) (xs := ([] : List Int)) MkL_nil rfl rfl) ?_
  refine C_new rfl (N_buildSliceT (g := true) sl31.h ty22.h (.cons (.tmp rfl rfl) .nil) (vs := [(.slice (some ⟨k1, 0, none⟩) 0 1)]) rfl rfl rfl (by intro v hv; simp at hv; rcases hv with rfl <;> rfl)) (fun k2 => ?_)
  refine Cv1 (.cons .h (.cons .h .nil)) (own_lit (Ro := (OwnS 3 (roE rdInt))) (E := 22) (F := ((k1 :: []) ++ [])) (xs := ([([] : List Int)] : List (List Int))) (MkL_cons Mk_own MkL_nil apps) rfl rfl) ?_
  iterate 6 refine au ?_
  refine CW_block (CW_loop (m := ((a_n - 0).toNat + 2)) (fun m7 f' cs' => ∃ (g : Fr) (c3 : List (List Int)) (c6 : Int) (v4 : Sv) (F5 : List Nat), f' = updL g [(0, v0_0.v), (1, (.int .i64 a_n)), (5, v4.v), (6, (.int .i64 c6))] ∧ Ent cs' [crd (RdS 3 rdInt) v0_0.v a_values, cown (OwnS 22 (OwnS 3 (roE rdInt))) F5 v4.v c3] ∧ s_l8Lists_L1 a_values a_n m7 c3 c6 = some R) ⟨_, _, _, ⟨(some ⟨k2, 0, none⟩), 1, 1⟩, (k2 :: ((k1 :: []) ++ [])), eqA, entA, hF⟩ ?_)
  clear hF
  rintro m7 _ _ ⟨g8, c3, c6, v4, F5, rfl, hE, hF⟩
  refine K_ent hE ?_
  clear hE
  rcases m7 with _ | m7
  · rw [s_l8Lists_L1] at hF
    exact absurd hF (by simp)
  rw [s_l8Lists_L1] at hF
  iterate 6 refine au ?_
  refine Cc (fun hb269 => ?_) (fun hb269 => ?_)
  · rw [if_pos hb269] at hF
    refine au ?_
    obtain ⟨o15, hio15, hO16⟩ := bind_some hF
    refine K_cut (fun f' cs' => ∃ (c265 : List (List Int)) (v266 : Sv) (F267 : List Nat) (g : Fr), c265 = o15 ∧ f' = updL g [(0, v0_0.v), (1, (.int .i64 a_n)), (5, v266.v), (6, (.int .i64 c6))] ∧ Ent cs' [crd (RdS 3 rdInt) v0_0.v a_values, cown (OwnS 22 (OwnS 3 (roE rdInt))) F267 v266.v c265]) ?_ ?_
    · replace hF := hio15
      refine CW_block (K_region (C_new rfl (N_buildSliceT (g := true) sl31.h ty22.h .nil (vs := []) rfl rfl rfl (by simp)) (fun k17 => ?_)))
      refine Cv1 (.cons .h .nil) (own_lit (Ro := (OwnS 3 (roE rdInt))) (E := 22) (F := []) (xs := ([] : List (List Int))) MkL_nil rfl rfl) ?_
      iterate 6 refine au ?_
      refine CW_block (CW_loop (m := (((c3.length : Int) - 0).toNat + 2)) (fun m213 f' cs' => ∃ (g : Fr) (c207 : List (List Int)) (c209 : List (List Int)) (c212 : Int) (v208 : Sv) (v210 : Sv) (F211 : List Nat), f' = updL g [(0, v0_0.v), (1, (.int .i64 a_n)), (5, v208.v), (6, (.int .i64 c6)), (7, v210.v), (8, (.int .i64 c212))] ∧ Ent cs' [crd (RdS 3 rdInt) v0_0.v a_values, crd (RdS 22 (RdS 3 rdInt)) v208.v c207, cown (OwnS 22 (OwnS 3 (roE rdInt))) F211 v210.v c209] ∧ s_l8Lists_L2 a_values m213 c207 c209 c212 = some o15) ⟨_, _, _, _, v4, ⟨(some ⟨k17, 0, none⟩), 0, 1⟩, (k17 :: []), eqA, (.frz (.t (.t .h)) frz_own entA), hF⟩ ?_)
      clear hF
      rintro m213 _ _ ⟨g214, c207, c209, c212, v208, v210, F211, rfl, hE, hF⟩
      refine K_ent hE ?_
      clear hE
      rcases m213 with _ | m213
      · rw [s_l8Lists_L2] at hF
        exact absurd hF (by simp)
      rw [s_l8Lists_L2] at hF
      iterate 7 refine au ?_
      refine Cc (fun hb264 => ?_) (fun hb264 => ?_)
      · rw [if_pos hb264] at hF
        refine au ?_
        obtain ⟨o221, hio221, hO222⟩ := bind_some hF
        refine K_cut (fun f' cs' => ∃ (c260 : List (List Int)) (v261 : Sv) (F262 : List Nat) (g : Fr), c260 = o221 ∧ f' = updL g [(0, v0_0.v), (1, (.int .i64 a_n)), (5, v208.v), (6, (.int .i64 c6)), (7, v261.v), (8, (.int .i64 c212))] ∧ Ent cs' [crd (RdS 3 rdInt) v0_0.v a_values, crd (RdS 22 (RdS 3 rdInt)) v208.v c207, cown (OwnS 22 (OwnS 3 (roE rdInt))) F262 v261.v c260]) ?_ ?_
        · replace hF := hio221
          refine CW_block (K_region (C_val (V_assign (v := (.int .i64 0)) (.int _ _)) ?_))
          refine au ?_
          refine CW_block (CW_loop (m := a_values.length) (fun m227 f' cs' => ∃ (g : Fr) (k229 : Nat) (rest230 : List Int) (c223 : List (List Int)) (v224 : Sv) (F225 : List Nat), m227 = rest230.length ∧ f' = updL g [(0, v0_0.v), (1, (.int .i64 a_n)), (5, v208.v), (6, (.int .i64 c6)), (7, v224.v), (8, (.int .i64 c212)), (9, (.int .i64 (k229 : Int)))] ∧ List.drop k229 a_values = rest230 ∧ Ent cs' [crd (RdS 3 rdInt) v0_0.v a_values, crd (RdS 22 (RdS 3 rdInt)) v208.v c207, cown (OwnS 22 (OwnS 3 (roE rdInt))) F225 v224.v c223] ∧ s_l8Lists_L5 c207 c212 rest230 k229 c223 = some o221) ⟨_, 0, _, _, v210, F211, rfl, eqA, rfl, entA, hF⟩ ?_)
          clear hF
          rintro m227 _ _ ⟨g228, k229, rest230, c223, v224, F225, rfl, rfl, hd232, hE, hF⟩
          refine K_ent hE ?_
          clear hE
          refine K_pure (c := crd (RdS 3 rdInt) v0_0.v a_values) .h crd_bound (fun hbd237 => ?_)
          rcases rest230 with _ | ⟨x231, rest230⟩
          · have hk233 := List.drop_eq_nil_iff.1 hd232
            rw [s_l8Lists_L5] at hF
            iterate 7 refine au ?_
            refine CdF ?_
            iterate 4 refine au ?_
            cases hF
            exact ⟨_, v224, F225, _, rfl, eqA, entA⟩
          obtain ⟨hk233, hx234, hd235⟩ := drop_cons hd232
          rw [s_l8Lists_L5] at hF
          iterate 7 refine au ?_
          refine CdT ?_
          iterate 2 refine au ?_
          refine CW_draw [0, 1, 2, 3, 4, 5, 7, 8, 9, 10, 11, 6, 12, 13, 14, 15] [0, 0, 0, 0, 12, 28, 62, 0, 0, 384, 896, 1920, 4094, 8190, 16383, 32767] [6, 12, 14] mixed (by decide +kernel) ?_
          refine du ?_
          refine D_new rfl .no rfl (fun ha => N_buildSliceT (g := true) (len := 0) (parts := []) sl22.h ty3.h .nil (vs := []) rfl rfl rfl (by simp)) (fun k238 => ?_)
          refine Dv1 (.cons .h .nil) (own_lit (Ro := (roE rdInt)) (E := 3) (F := []) (xs := ([] : List Int)) MkL_nil rfl rfl) ?_
          iterate 2 refine du ?_
          obtain ⟨x239, hx240, hF⟩ := bind_some hF
          obtain ⟨hp241, hx242⟩ := ix_some hx240
          refine Di hx242 (fun k243 j244 => ?_)
          refine D_ldV (R' := (RdS 3 rdInt)) ag22.h rfl .no (.tmp rfl rfl) rfl .h lv22_0 (fun w245 => ?_)
          iterate 2 refine du ?_
          refine Di hx234 (fun k246 j247 => ?_)
          refine Dl ls3_0 ?_
          refine D_new rfl .no rfl (fun ha => N_buildSliceT (g := true) (len := 1) (parts := [(0, .tmp 40)]) sl22.h ty3.h (.cons (EN ha (.tmp rfl rfl) rfl) .nil) (vs := [(.int .i64 x231)]) rfl rfl rfl (by intro v hv; simp at hv; rcases hv with rfl <;> rfl)) (fun k248 => ?_)
          refine Dv1 (.cons .h .nil) (own_lit (Ro := (roE rdInt)) (E := 3) (F := ([] ++ [])) (xs := ([x231] : List Int)) (MkL_cons (Mk_pure (fun _ => rfl)) MkL_nil apps) rfl rfl) ?_
          obtain ⟨z249, hx250, hF⟩ := bind_some hF
          refine D_act1 rfl rfl .no (.cons (.t (.t (.t (.t .h)))) (.rd (.t (.t .h)) rfl .nil)) (.own .h (by simp [cown]) (.dep rfl .nil)) (fun ha => X_appendO (Ro := (roE rdInt)) sl22.h ni22 ty3.h rfl rfl rfl (EN ha (.tmp rfl rfl) rfl) (EN ha (.tmp rfl rfl) rfl) hx250 src_rd) (fun p251 => ?_)
          obtain ⟨z252, hx253, hF⟩ := bind_some hF
          refine D_act1 rfl rfl .no (.cons .h (.cons .h .nil)) (.dep rfl (.dep rfl .nil)) (fun ha => X_appendO (Ro := (roE rdInt)) sl22.h ni22 ty3.h rfl rfl rfl (EN ha (.tmp rfl rfl) rfl) (EN ha (.tmp rfl rfl) rfl) hx253 src_own) (fun p254 => ?_)
          refine D_new rfl .no rfl (fun ha => N_buildSliceT (g := true) (len := 1) (parts := [(0, .tmp 42)]) sl31.h ty22.h (.cons (EN ha (.tmp rfl rfl) rfl) .nil) (vs := [p254.1.v]) rfl rfl rfl (by intro v hv; simp at hv; rcases hv with rfl <;> rfl)) (fun k255 => ?_)
          refine Dv1 (.cons .h (.cons .h .nil)) (own_lit (Ro := (OwnS 3 (roE rdInt))) (E := 22) (F := (p254.2 ++ [])) (xs := ([z252] : List (List Int))) (MkL_cons Mk_own MkL_nil apps) rfl rfl) ?_
          obtain ⟨z256, hx257, hF⟩ := bind_some hF
          refine D_act1 rfl rfl .no (.cons (.t (.t (.t (.t (.t (.t .h)))))) (.cons .h .nil)) (.dep rfl (.dep rfl (.dep rfl .nil))) (fun ha => X_appendO (Ro := (OwnS 3 (roE rdInt))) sl31.h ni31 ty22.h rfl rfl rfl (EN ha (.tmp rfl rfl) rfl) (EN ha (.tmp rfl rfl) rfl) hx257 src_own) (fun p258 => ?_)
          iterate 2 refine du ?_
          iterate 5 refine au ?_
          rw [wk k229]
          exact ⟨_, Nat.lt_succ_self _, _, k229 + 1, rest230, _, p258.1, p258.2, rfl, eqA, hd235, entA, hF⟩
        rintro _ _ ⟨c260, v261, F262, g263, rfl, rfl, hE⟩
        replace hF := hO222
        clear hO222
        try dsimp only at hF
        refine K_ent hE ?_
        iterate 5 refine au ?_
        exact ⟨m213, Nat.lt_succ_self _, _, _, _, _, v208, v261, F262, eqA, entA, hF⟩
      rw [if_neg (nt hb264)] at hF
      iterate 8 refine au ?_
      cases hF
      exact ⟨_, v210, F211, _, rfl, eqA, entA⟩
    rintro _ _ ⟨c265, v266, F267, g268, rfl, rfl, hE⟩
    replace hF := hO16
    clear hO16
    try dsimp only at hF
    refine K_ent hE ?_
    iterate 5 refine au ?_
    exact ⟨m7, Nat.lt_succ_self _, _, _, _, v266, F267, eqA, entA, hF⟩
  rw [if_neg (nt hb269)] at hF
  iterate 9 refine au ?_
  cases hF
  exact Er (v4, F5)

/-! spec.l2Ints -/
def s_l2Ints_L1 (a_b : List Int) : List Int → Nat → Option (Bool)
  | [], k4 => some true
  | x6 :: rest5, k4 => (ix a_b (k4 : Int)).bind fun x15 =>
    if ((x6 : Int) != x15) then (
      some false)
    else (
      s_l2Ints_L1 a_b rest5 (k4 + 1))
def s_l2Ints (a_a : List Int) (a_b : List Int) : Option (Bool) :=
  if (((a_a.length : Int) : Int) != (a_b.length : Int)) then (
    some false)
  else (
    s_l2Ints_L1 a_b a_a 0)
theorem s_l2Ints_ok (a_a : List Int) (v0_0 : Sv) (a_b : List Int) (v1_0 : Sv) (R : Bool) (hF : s_l2Ints a_a a_b = some R) :
    Fw.Spec Tryz.prog 60 [v0_0.v, v1_0.v] [crd (RdS 3 rdInt) v0_0.v a_a, crd (RdS 3 rdInt) v1_0.v a_b] (fun _ : Unit => (.bool R)) (fun _ => []) := by
  refine Spec_enter (n := 26) Tryz.func60 rfl rfl (rs := [.tmp 4]) rfl rfl rfl ?_
  intro H0 F0
  unfold s_l2Ints at hF
  iterate 11 refine au ?_
  refine Cc (fun hb23 => ?_) (fun hb23 => ?_)
  · rw [if_pos hb23] at hF
    iterate 4 refine au ?_
    cases hF
    exact Er ()
  rw [if_neg (nt hb23)] at hF
  iterate 5 refine au ?_
  refine CW_block (CW_loop (m := a_a.length) (fun m2 f' cs' => ∃ (g : Fr) (k4 : Nat) (rest5 : List Int), m2 = rest5.length ∧ f' = updL g [(0, v0_0.v), (1, v1_0.v), (5, (.int .i64 (k4 : Int)))] ∧ List.drop k4 a_a = rest5 ∧ Ent cs' [crd (RdS 3 rdInt) v0_0.v a_a, crd (RdS 3 rdInt) v1_0.v a_b] ∧ s_l2Ints_L1 a_b rest5 k4 = some R) ⟨_, 0, _, rfl, eqA, rfl, entA, hF⟩ ?_)
  clear hF
  rintro m2 _ _ ⟨g3, k4, rest5, rfl, rfl, hd7, hE, hF⟩
  refine K_ent hE ?_
  clear hE
  refine K_pure (c := crd (RdS 3 rdInt) v0_0.v a_a) .h crd_bound (fun hbd12 => ?_)
  rcases rest5 with _ | ⟨x6, rest5⟩
  · have hk8 := List.drop_eq_nil_iff.1 hd7
    rw [s_l2Ints_L1] at hF
    iterate 7 refine au ?_
    refine CdF ?_
    iterate 8 refine au ?_
    cases hF
    exact Er ()
  obtain ⟨hk8, hx9, hd10⟩ := drop_cons hd7
  rw [s_l2Ints_L1] at hF
  iterate 7 refine au ?_
  refine CdT ?_
  iterate 2 refine au ?_
  refine K_draw [0, 1, 2, 3, 4, 5, 6, 7, 8] [0, 0, 3, 7, 0, 0, 48, 112, 255] [] mixed (by decide +kernel) ?_
  iterate 2 refine du ?_
  refine Di hx9 (fun k13 j14 => ?_)
  refine Dl ls3_0 ?_
  iterate 2 refine du ?_
  obtain ⟨x15, hx16, hF⟩ := bind_some hF
  obtain ⟨hp17, hx18⟩ := ix_some hx16
  refine Di hx18 (fun k19 j20 => ?_)
  refine Dl ls3_0 ?_
  iterate 2 refine du ?_
  refine Cc (fun hb22 => ?_) (fun hb22 => ?_)
  · rw [if_pos hb22] at hF
    iterate 4 refine au ?_
    cases hF
    exact Er ()
  rw [if_neg (nt hb22)] at hF
  iterate 6 refine au ?_
  rw [wk k4]
  exact ⟨_, Nat.lt_succ_self _, _, k4 + 1, rest5, rfl, eqA, hd10, entA, hF⟩

/-! spec.l5Same -/
def s_l5Same (a_a : Access) (a_b : Access) : Option (Bool) :=
  (bif ((a_a.Method : Int) == a_b.Method) then ((s_l2Ints a_a.Values a_b.Values).bind fun r6 =>
      some r6)
    else (some false)).bind fun o3 =>
  match o3 with
  | c9 => some c9
theorem s_l5Same_ok (a_a : Access) (v0_1 : Sv) (a_b : Access) (v1_1 : Sv) (R : Bool) (hF : s_l5Same a_a a_b = some R) :
    Fw.Spec Tryz.prog 132 [(.agg [(.int .i64 a_a.Method), v0_1.v].toArray), (.agg [(.int .i64 a_b.Method), v1_1.v].toArray)] [crd (RdS 3 rdInt) v0_1.v a_a.Values, crd (RdS 3 rdInt) v1_1.v a_b.Values] (fun _ : Unit => (.bool R)) (fun _ => []) := by
  refine Spec_enter (n := 17) Tryz.func132 rfl rfl (rs := [.tmp 4]) rfl rfl rfl ?_
  intro H0 F0
  unfold s_l5Same at hF
  refine au ?_
  refine AbR (fun k1 => ?_)
  refine AbR (fun k2 => ?_)
  iterate 2 refine au ?_
  obtain ⟨o3, hio3, hO4⟩ := bind_some hF
  refine au ?_
  refine C_cut (fun f' cs' => ∃ (c9 : Bool) (g : Fr), c9 = o3 ∧ f' = updL g [(4, (.bool c9))] ∧ Ent cs' []) ?_ ?_
  · replace hF := hio3
    iterate 6 refine au ?_
    rcases Bool.eq_false_or_eq_true ((a_a.Method : Int) == a_b.Method) with hg5 | hg5
    · rw [hg5]
      try rw [hg5] at hF; dsimp only [cond_true, cond_false] at hF
      iterate 9 refine au ?_
      obtain ⟨r6, hx7, hF⟩ := bind_some hF
      refine Cx0 (s_l2Ints_ok _ _ _ _ _ hx7) (fun _ => ?_)
      iterate 3 refine au ?_
      cases hF
      exact ⟨_, _, rfl, eqA, entA⟩
    rw [hg5]
    try rw [hg5] at hF; dsimp only [cond_true, cond_false] at hF
    iterate 8 refine au ?_
    cases hF
    exact ⟨_, _, rfl, eqA, entA⟩
  rintro _ _ ⟨c9, g10, rfl, rfl, hE⟩
  replace hF := hO4
  clear hO4
  try dsimp only at hF
  refine K_ent hE ?_
  refine au ?_
  cases hF
  exact Er ()

/-! spec.l7Logged -/
def s_l7Logged_L1 (a_a : Access) : List Access → Nat → Option (Bool)
  | [], k5 => some false
  | x7 :: rest6, k5 => (s_l5Same x7 a_a).bind fun r17 =>
    if r17 then (
      some true)
    else (
      s_l7Logged_L1 a_a rest6 (k5 + 1))
def s_l7Logged (a_log : List Access) (a_a : Access) : Option (Bool) :=
  s_l7Logged_L1 a_a a_log 0
theorem s_l7Logged_ok (a_log : List Access) (v0_0 : Sv) (a_a : Access) (v1_1 : Sv) (R : Bool) (hF : s_l7Logged a_log a_a = some R) :
    Fw.Spec Tryz.prog 181 [v0_0.v, (.agg [(.int .i64 a_a.Method), v1_1.v].toArray)] [crd (RdS 141 rd141) v0_0.v a_log, crd (RdS 3 rdInt) v1_1.v a_a.Values] (fun _ : Unit => (.bool R)) (fun _ => []) := by
  refine Spec_enter (n := 18) Tryz.func181 rfl rfl (rs := [.tmp 4]) rfl rfl rfl ?_
  intro H0 F0
  unfold s_l7Logged at hF
  refine K_region (C_newR rfl (N_box (g := false) (v := (.agg [(.int .i64 a_a.Method), v1_1.v].toArray)) ty141.h.sz (.tmp rfl rfl) rfl) (fun k1 => ?_))
  refine C_val (V_assign (v := (.bool false)) (.bool _)) ?_
  refine C_nil (K_in (K_region (C_val (V_assign (v := (.int .i64 0)) (.int _ _)) ?_)))
  refine C_nil (CW_block (CW_loop (m := a_log.length) (fun m3 f' cs' => ∃ (g : Fr) (k5 : Nat) (rest6 : List Access), m3 = rest6.length ∧ f' = updL g [(0, v0_0.v), (3, (.pointer (some ⟨k1, 0, some 0⟩))), (5, (.int .i64 (k5 : Int)))] ∧ List.drop k5 a_log = rest6 ∧ Ent cs' [crd (RdS 141 rd141) v0_0.v a_log, cboR k1 141 (.agg [(.int .i64 a_a.Method), v1_1.v].toArray), crd (RdS 3 rdInt) v1_1.v a_a.Values] ∧ s_l7Logged_L1 a_a rest6 k5 = some R) ⟨_, 0, _, rfl, (EqL.cons rfl (EqL.cons rfl (EqL.cons rfl (EqL.nil)))).eq, rfl, (.sel (.rd (.t .h) rfl (.rd .h rfl (.rd (.t (.t .h)) rfl .nil)))), hF⟩ ?_))
  clear hF
  rintro m3 _ _ ⟨g4, k5, rest6, rfl, rfl, hd8, hE, hF⟩
  refine K_ent hE ?_
  clear hE
  refine K_pure (c := crd (RdS 141 rd141) v0_0.v a_log) .h crd_bound (fun hbd13 => ?_)
  rcases rest6 with _ | ⟨x7, rest6⟩
  · have hk9 := List.drop_eq_nil_iff.1 hd8
    have hfe12 : (decide (((k5 : Int) : Int) < (a_log.length : Int))) = false := decide_eq_false (by omega)
    rw [s_l7Logged_L1] at hF
    refine K_in (K_region (Cm (.int .i64 (k5 : Int)) rfl rfl ?_))
    refine Cm v0_0.v rfl rfl ?_
    refine C_at .h (fun hp => V_lenR (l := a_log.length) sl71.h (.tmp rfl rfl) (crd_len hp)) ?_
    refine C_val (V_lss (i := (k5 : Int)) (j := (a_log.length : Int)) (.tmp rfl rfl) (.tmp rfl rfl)) ?_
    refine C_nil (CW_cond (b := (decide (((k5 : Int) : Int) < (a_log.length : Int)))) (.tmp rfl rfl) (fun hb => absurd (hfe12.symm.trans hb) (by decide)) (fun _ => ?_))
    refine CW_exit ?_
    iterate 2 refine CThen_exit ?_
    refine CIn_self (K_region (C_val (V_assign (v := (.bool false)) (.bool _)) ?_))
    refine C_nil (CW_ret ?_)
    obtain rfl := Option.some.inj hF
    exact End_ret () (.tmp rfl rfl .nil) rfl (.sel .nil)
  obtain ⟨hk9, hx10, hd11⟩ := drop_cons hd8
  have hfe12 : (decide (((k5 : Int) : Int) < (a_log.length : Int))) = true := decide_eq_true (by omega)
  rw [s_l7Logged_L1] at hF
  refine K_in (K_region (Cm (.int .i64 (k5 : Int)) rfl rfl ?_))
  refine Cm v0_0.v rfl rfl ?_
  refine C_at .h (fun hp => V_lenR (l := a_log.length) sl71.h (.tmp rfl rfl) (crd_len hp)) ?_
  refine C_val (V_lss (i := (k5 : Int)) (j := (a_log.length : Int)) (.tmp rfl rfl) (.tmp rfl rfl)) ?_
  refine C_nil (CW_cond (b := (decide (((k5 : Int) : Int) < (a_log.length : Int)))) (.tmp rfl rfl) (fun _ => ?_) (fun hb => absurd (hfe12.symm.trans hb) (by decide)))
  refine CW_skip (K_block (K_draw [0, 1, 2, 3, 4, 5] [0, 0, 3, 7, 0, 31] [5] mixed (by decide +kernel) ?_))
  refine Dm v0_0.v rfl rfl rfl rfl ?_
  refine Dm (.int .i64 (k5 : Int)) rfl rfl rfl rfl ?_
  refine D_idx (a := x7) sl71.h ty141.h.sz rfl .no (.tmp rfl rfl) (.tmp rfl rfl) rfl rfl .h (Int.natCast_nonneg k5) hx10 (fun k14 j15 => ?_)
  refine D_ldA1 (ul141_0_141 x7) ag141.h ty141.h.sz rfl rfl .no (.tmp rfl rfl) rfl .h la141_0_141 (fun p16 => ?_)
  refine D_at rfl .no (.t (.t (.t .h))) rfl (fun ha hp => V_loadBox ag141.h ty141.h.sz rfl (EN ha (.tmp rfl rfl) rfl) hp.2 rfl) ?_
  obtain ⟨r17, hx18, hF⟩ := bind_some hF
  refine D_act0 rfl rfl .no (.rd .h rfl (.rd (.t (.t (.t (.t .h)))) rfl .nil)) .nil (fun ha => X_callS cf132.h (.cons (EN ha (.tmp rfl rfl) rfl) (.cons (EN ha (.tmp rfl rfl) rfl) .nil)) (s_l5Same_ok x7 p16 a_a v1_1 _ hx18)) (fun _ => ?_)
  refine D_nil (CW_cond (b := r17) (.tmp rfl rfl) (fun hb21 => ?_) (fun hb21 => ?_))
  · rw [if_pos hb21] at hF
    refine K_region (C_val (V_assign (v := (.bool true)) (.bool _)) ?_)
    refine C_nil (CW_ret ?_)
    obtain rfl := Option.some.inj hF
    exact End_ret () (.tmp rfl rfl .nil) rfl (.sel .nil)
  rw [if_neg (by rw [hb21]; exact Bool.false_ne_true)] at hF
  refine CW_skip (CW_region (Cm (.int .i64 (k5 : Int)) rfl rfl ?_))
  refine C_val (V_add (i := (k5 : Int)) (j := 1) (.tmp rfl rfl) (.int _ _)) ?_
  refine Ca (.int .i64 (IntKind.i64.wrap ((k5 : Int) + 1))) rfl rfl ?_
  refine C_nil ?_
  have hw20 : IntKind.i64.wrap ((k5 : Int) + 1) = ((k5 + 1 : Nat) : Int) := by rw [wrap_in (by omega) (by omega)]; rfl
  rw [hw20]
  exact ⟨_, Nat.lt_succ_self _, _, k5 + 1, rest6, rfl, (EqL.cons rfl (EqL.cons rfl (EqL.cons rfl (EqL.nil)))).eq, hd11, (.sel (.rd (.t (.t .h)) rfl (.rd (.t (.t (.t .h))) rfl (.rd (.t (.t (.t (.t .h)))) rfl .nil)))), hF⟩

/-! spec.l8Open -/
def s_l8Open_L2 (a_r : Reached) (k9 : Nat) : List (List Int) → Nat → (List Access) → Option ((List Access))
  | [], k70, c64 => some c64
  | x72 :: rest71, k70, c64 => ((s_l8Access (k9 : Int) x72).bind fun r84 =>
      (s_l7Logged a_r.Log r84).bind fun r88 =>
      if (!r88) then (
        (app c64 ([r84] : List Access)).bind fun z92 =>
        some z92)
      else (
        some c64)).bind fun o79 =>
    match o79 with
    | c96 => s_l8Open_L2 a_r k9 rest71 (k70 + 1) c96
def s_l8Open_L1 (a_r : Reached) : List Method → Nat → (List Access) → Option ((List Access))
  | [], k9, c3 => some c3
  | x11 :: rest10, k9, c3 => (if ((x11.Limit : Int) != 0) then (
        some c3)
      else (
        (s_l8Lists a_r.Values (x11.Inputs.length : Int)).bind fun r25 =>
        s_l8Open_L2 a_r k9 r25 0 c3)).bind fun o18 =>
    match o18 with
    | c102 => s_l8Open_L1 a_r rest10 (k9 + 1) c102
def s_l8Open (a_l : List Method) (a_r : Reached) : Option ((List Access)) :=
  s_l8Open_L1 a_r a_l 0 ([] : List Access)
theorem s_l8Open_ok (a_l : List Method) (v0_0 : Sv) (a_r : Reached) (v1_0 : Sv) (v1_1 : Sv) (v1_2 : Sv) (R : (List Access)) (hF : s_l8Open a_l a_r = some R) :
    Fw.Spec Tryz.prog 145 [v0_0.v, (.agg [v1_0.v, v1_1.v, v1_2.v, (.int .i64 a_r.Rounds)].toArray)] [crd (RdS 77 rd77) v0_0.v a_l, crd (RdS 80 rd80) v1_0.v a_r.Facts, crd (RdS 3 rdInt) v1_1.v a_r.Values, crd (RdS 141 rd141) v1_2.v a_r.Log] (fun p : Sv × List Nat => p.1.v) (fun p => [cown (OwnS 141 ow141) p.2 p.1.v R]) := by
  refine Spec_enter (n := 54) Tryz.func145 rfl rfl (rs := [.tmp 4]) rfl rfl rfl ?_
  intro H0 F0
  unfold s_l8Open at hF
  refine au ?_
  refine AbR (fun k1 => ?_)
  iterate 3 refine au ?_
  refine C_new rfl (N_buildSliceT (g := true) sl71.h ty141.h .nil (vs := []) rfl rfl rfl (by simp)) (fun k2 => ?_)
  refine Cv1 (.cons .h .nil) (own_lit (Ro := ow141) (E := 141) (F := []) (xs := ([] : List Access)) MkL_nil rfl rfl) ?_
  iterate 6 refine au ?_
  refine CW_block (CW_loop (m := a_l.length) (fun m7 f' cs' => ∃ (g : Fr) (k9 : Nat) (rest10 : List Method) (c3 : List Access) (v4 : Sv) (F5 : List Nat), m7 = rest10.length ∧ f' = updL g [(0, v0_0.v), (3, (.pointer (some ⟨k1, 0, some 0⟩))), (5, v4.v), (6, (.int .i64 (k9 : Int)))] ∧ List.drop k9 a_l = rest10 ∧ Ent cs' [crd (RdS 77 rd77) v0_0.v a_l, cboR k1 73 (.agg [v1_0.v, v1_1.v, v1_2.v, (.int .i64 a_r.Rounds)].toArray), crd (RdS 80 rd80) v1_0.v a_r.Facts, crd (RdS 3 rdInt) v1_1.v a_r.Values, crd (RdS 141 rd141) v1_2.v a_r.Log, cown (OwnS 141 ow141) F5 v4.v c3] ∧ s_l8Open_L1 a_r rest10 k9 c3 = some R) ⟨_, 0, _, _, ⟨(some ⟨k2, 0, none⟩), 0, 1⟩, (k2 :: []), rfl, eqA, rfl, entA, hF⟩ ?_)
  clear hF
  rintro m7 _ _ ⟨g8, k9, rest10, c3, v4, F5, rfl, rfl, hd12, hE, hF⟩
  refine K_ent hE ?_
  clear hE
  refine K_pure (c := crd (RdS 77 rd77) v0_0.v a_l) .h crd_bound (fun hbd17 => ?_)
  rcases rest10 with _ | ⟨x11, rest10⟩
  · have hk13 := List.drop_eq_nil_iff.1 hd12
    rw [s_l8Open_L1] at hF
    iterate 7 refine au ?_
    refine CdF ?_
    iterate 9 refine au ?_
    cases hF
    exact Er (v4, F5)
  obtain ⟨hk13, hx14, hd15⟩ := drop_cons hd12
  rw [s_l8Open_L1] at hF
  iterate 7 refine au ?_
  refine CdT ?_
  refine au ?_
  obtain ⟨o18, hio18, hO19⟩ := bind_some hF
  refine K_cut (fun f' cs' => ∃ (c102 : List Access) (v103 : Sv) (F104 : List Nat) (g : Fr), c102 = o18 ∧ f' = updL g [(0, v0_0.v), (3, (.pointer (some ⟨k1, 0, some 0⟩))), (5, v103.v), (6, (.int .i64 (k9 : Int)))] ∧ Ent cs' [crd (RdS 77 rd77) v0_0.v a_l, cboR k1 73 (.agg [v1_0.v, v1_1.v, v1_2.v, (.int .i64 a_r.Rounds)].toArray), crd (RdS 80 rd80) v1_0.v a_r.Facts, crd (RdS 3 rdInt) v1_1.v a_r.Values, crd (RdS 141 rd141) v1_2.v a_r.Log, cown (OwnS 141 ow141) F104 v103.v c102]) ?_ ?_
  · replace hF := hio18
    refine CW_block (K_in (K_region (Cm v0_0.v rfl rfl ?_)))
    refine au ?_
    refine Ai hx14 (fun k20 j21 => ?_)
    refine au ?_
    refine Al ls77_2 ?_
    iterate 2 refine au ?_
    refine Cc (fun hb101 => ?_) (fun hb101 => ?_)
    · rw [if_pos hb101] at hF
      iterate 3 refine au ?_
      cases hF
      exact ⟨_, v4, F5, _, rfl, eqA, entA⟩
    rw [if_neg (nt hb101)] at hF
    refine au ?_
    refine K_draw [0, 1, 2, 3, 4, 5, 6, 7, 8, 9] [0, 1, 0, 0, 12, 28, 60, 124, 255, 511] [8] mixed (by decide +kernel) ?_
    iterate 4 refine du ?_
    refine Di hx14 (fun k22 j23 => ?_)
    refine du ?_
    refine D_ldV (R' := (RdS 3 rdInt)) ag22.h rfl .no (.tmp rfl rfl) rfl .h lv77_1 (fun w24 => ?_)
    refine du ?_
    obtain ⟨r25, hx26, hF⟩ := bind_some hF
    refine Dx1 (s_l8Lists_ok _ _ _ _ hx26) (fun p27 => ?_)
    iterate 2 refine du ?_
    iterate 3 refine au ?_
    refine CW_block (K_frz .h frz_own ?_)
    refine CW_loop (m := r25.length) (fun m68 f' cs' => ∃ (g : Fr) (k70 : Nat) (rest71 : List (List Int)) (c64 : List Access) (v65 : Sv) (F66 : List Nat), m68 = rest71.length ∧ f' = updL g [(0, v0_0.v), (3, (.pointer (some ⟨k1, 0, some 0⟩))), (5, v65.v), (6, (.int .i64 (k9 : Int))), (7, p27.1.v), (8, (.int .i64 (k70 : Int)))] ∧ List.drop k70 r25 = rest71 ∧ Ent cs' [crd (RdS 77 rd77) v0_0.v a_l, cboR k1 73 (.agg [v1_0.v, v1_1.v, v1_2.v, (.int .i64 a_r.Rounds)].toArray), crd (RdS 80 rd80) v1_0.v a_r.Facts, crd (RdS 3 rdInt) v1_1.v a_r.Values, crd (RdS 141 rd141) v1_2.v a_r.Log, cown (OwnS 141 ow141) F66 v65.v c64, crd (RdS 22 (RdS 3 rdInt)) p27.1.v r25] ∧ s_l8Open_L2 a_r k9 rest71 k70 c64 = some o18) ⟨_, 0, _, _, v4, F5, rfl, eqA, rfl, entA, hF⟩ ?_
    clear hF
    rintro m68 _ _ ⟨g69, k70, rest71, c64, v65, F66, rfl, rfl, hd73, hE, hF⟩
    refine K_ent hE ?_
    clear hE
    refine K_pure (c := crd (RdS 22 (RdS 3 rdInt)) p27.1.v r25) (.t (.t (.t (.t (.t (.t .h)))))) crd_bound (fun hbd78 => ?_)
    rcases rest71 with _ | ⟨x72, rest71⟩
    · have hk74 := List.drop_eq_nil_iff.1 hd73
      rw [s_l8Open_L2] at hF
      iterate 7 refine au ?_
      refine CdF ?_
      iterate 4 refine au ?_
      cases hF
      exact ⟨_, v65, F66, _, rfl, eqA, entA⟩
    obtain ⟨hk74, hx75, hd76⟩ := drop_cons hd73
    rw [s_l8Open_L2] at hF
    iterate 7 refine au ?_
    refine CdT ?_
    refine au ?_
    obtain ⟨o79, hio79, hO80⟩ := bind_some hF
    refine K_cut (fun f' cs' => ∃ (c96 : List Access) (v97 : Sv) (F98 : List Nat) (g : Fr), c96 = o79 ∧ f' = updL g [(0, v0_0.v), (3, (.pointer (some ⟨k1, 0, some 0⟩))), (5, v97.v), (6, (.int .i64 (k9 : Int))), (7, p27.1.v), (8, (.int .i64 (k70 : Int)))] ∧ Ent cs' [crd (RdS 77 rd77) v0_0.v a_l, cboR k1 73 (.agg [v1_0.v, v1_1.v, v1_2.v, (.int .i64 a_r.Rounds)].toArray), crd (RdS 80 rd80) v1_0.v a_r.Facts, crd (RdS 3 rdInt) v1_1.v a_r.Values, crd (RdS 141 rd141) v1_2.v a_r.Log, cown (OwnS 141 ow141) F98 v97.v c96, crd (RdS 22 (RdS 3 rdInt)) p27.1.v r25]) ?_ ?_
    · replace hF := hio79
      refine CW_block (K_region (Cm (.int .i64 (k9 : Int)) rfl rfl ?_))
      iterate 2 refine au ?_
      refine Ai hx75 (fun k81 j82 => ?_)
      refine C_ldV (R' := (RdS 3 rdInt)) ag22.h (.tmp rfl rfl) .h lv22_0 (fun w83 => ?_)
      obtain ⟨r84, hx85, hF⟩ := bind_some hF
      refine Cx1 (s_l8Access_ok _ _ _ _ hx85) (fun p86 => ?_)
      refine AnW (fun k87 => ?_)
      refine As (.agg [(.int .i64 r84.Method), p86.1.v].toArray) ?_
      iterate 5 refine au ?_
      obtain ⟨r88, hx89, hF⟩ := bind_some hF
      refine C_x1 (.cons (.t .h) (.rd (.t (.t (.t (.t (.t (.t (.t .h))))))) rfl .nil)) (XC_bor frz_own (fun _ => .nil) (XC_pre (.rd (.t .h) rfl (.rd .h rfl .nil)) (X_callS cf181.h (.cons (.tmp rfl rfl) (.cons (.tmp rfl rfl) .nil)) (s_l7Logged_ok a_r.Log v1_2 r84 p86.1 _ hx89)))) (fun _ => ?_)
      iterate 2 refine au ?_
      refine Cc (fun hb95 => ?_) (fun hb95 => ?_)
      · rw [if_pos hb95] at hF
        iterate 3 refine au ?_
        refine C_new rfl (N_buildSliceT (g := true) sl71.h ty141.h (.cons (.tmp rfl rfl) .nil) (vs := [(.agg [(.int .i64 r84.Method), p86.1.v].toArray)]) rfl rfl rfl (by intro v hv; simp at hv; rcases hv with rfl <;> rfl)) (fun k91 => ?_)
        refine Cv1 (.cons .h (.cons .h .nil)) (own_lit (Ro := ow141) (E := 141) (F := (p86.2 ++ [])) (xs := ([r84] : List Access)) (MkL_cons mk141 MkL_nil apps) rfl rfl) ?_
        obtain ⟨z92, hx93, hF⟩ := bind_some hF
        refine C_x1 (.cons (.t (.t (.t (.t (.t (.t (.t (.t (.t .h))))))))) (.cons .h .nil)) (X_appendO (Ro := ow141) sl71.h ni71 ty141.h rfl rfl rfl (.tmp rfl rfl) (.tmp rfl rfl) hx93 src_own) (fun p94 => ?_)
        iterate 2 refine au ?_
        cases hF
        exact ⟨_, p94.1, p94.2, _, rfl, eqA, entA⟩
      rw [if_neg (nt hb95)] at hF
      refine au ?_
      cases hF
      exact ⟨_, v65, F66, _, rfl, eqA, entA⟩
    rintro _ _ ⟨c96, v97, F98, g100, rfl, rfl, hE⟩
    replace hF := hO80
    clear hO80
    try dsimp only at hF
    refine K_ent hE ?_
    iterate 5 refine au ?_
    rw [wk k70]
    exact ⟨_, Nat.lt_succ_self _, _, k70 + 1, rest71, _, v97, F98, rfl, eqA, hd76, entA, hF⟩
  rintro _ _ ⟨c102, v103, F104, g106, rfl, rfl, hE⟩
  replace hF := hO19
  clear hO19
  try dsimp only at hF
  refine K_ent hE ?_
  iterate 5 refine au ?_
  rw [wk k9]
  exact ⟨_, Nat.lt_succ_self _, _, k9 + 1, rest10, _, v103, F104, rfl, eqA, hd15, entA, hF⟩

/-! spec.l5Fits -/
def s_l5Fits_L1 (a_values : List Int) (a_f : Fact) : List Int → Nat → Option (Bool)
  | [], k6 => some true
  | x8 :: rest7, k6 => (ix a_f.Values x8).bind fun x17 =>
    (ix a_values (k6 : Int)).bind fun x23 =>
    if ((x17 : Int) != x23) then (
      some false)
    else (
      s_l5Fits_L1 a_values a_f rest7 (k6 + 1))
def s_l5Fits (a_m : Method) (a_values : List Int) (a_f : Fact) : Option (Bool) :=
  if ((a_f.Rel : Int) != a_m.Rel) then (
    some false)
  else (
    s_l5Fits_L1 a_values a_f a_m.Inputs 0)
theorem s_l5Fits_ok (a_m : Method) (v0_1 : Sv) (a_values : List Int) (v1_0 : Sv) (a_f : Fact) (v2_1 : Sv) (R : Bool) (hF : s_l5Fits a_m a_values a_f = some R) :
    Fw.Spec Tryz.prog 182 [(.agg [(.int .i64 a_m.Rel), v0_1.v, (.int .i64 a_m.Limit), (.int .i64 a_m.Cost), (.int .i64 a_m.Quota)].toArray), v1_0.v, (.agg [(.int .i64 a_f.Rel), v2_1.v].toArray)] [crd (RdS 3 rdInt) v0_1.v a_m.Inputs, crd (RdS 3 rdInt) v1_0.v a_values, crd (RdS 3 rdInt) v2_1.v a_f.Values] (fun _ : Unit => (.bool R)) (fun _ => []) := by
  refine Spec_enter (n := 34) Tryz.func182 rfl rfl (rs := [.tmp 6]) rfl rfl rfl ?_
  intro H0 F0
  unfold s_l5Fits at hF
  refine au ?_
  refine AbR (fun k1 => ?_)
  refine AbR (fun k2 => ?_)
  iterate 10 refine au ?_
  refine Cc (fun hb31 => ?_) (fun hb31 => ?_)
  · rw [if_pos hb31] at hF
    iterate 4 refine au ?_
    cases hF
    exact Er ()
  rw [if_neg (nt hb31)] at hF
  iterate 5 refine au ?_
  refine CW_block (CW_loop (m := a_m.Inputs.length) (fun m4 f' cs' => ∃ (g : Fr) (k6 : Nat) (rest7 : List Int), m4 = rest7.length ∧ f' = updL g [(1, v1_0.v), (3, (.pointer (some ⟨k1, 0, some 0⟩))), (5, (.pointer (some ⟨k2, 0, some 0⟩))), (7, (.int .i64 (k6 : Int)))] ∧ List.drop k6 a_m.Inputs = rest7 ∧ Ent cs' [crd (RdS 3 rdInt) v1_0.v a_values, cboR k1 77 (.agg [(.int .i64 a_m.Rel), v0_1.v, (.int .i64 a_m.Limit), (.int .i64 a_m.Cost), (.int .i64 a_m.Quota)].toArray), crd (RdS 3 rdInt) v0_1.v a_m.Inputs, cboR k2 80 (.agg [(.int .i64 a_f.Rel), v2_1.v].toArray), crd (RdS 3 rdInt) v2_1.v a_f.Values] ∧ s_l5Fits_L1 a_values a_f rest7 k6 = some R) ⟨_, 0, _, rfl, eqA, rfl, entA, hF⟩ ?_)
  clear hF
  rintro m4 _ _ ⟨g5, k6, rest7, rfl, rfl, hd9, hE, hF⟩
  refine K_ent hE ?_
  clear hE
  refine K_pure (c := crd (RdS 3 rdInt) v0_1.v a_m.Inputs) (.t (.t .h)) crd_bound (fun hbd14 => ?_)
  rcases rest7 with _ | ⟨x8, rest7⟩
  · have hk10 := List.drop_eq_nil_iff.1 hd9
    rw [s_l5Fits_L1] at hF
    iterate 8 refine au ?_
    refine CdF ?_
    iterate 8 refine au ?_
    cases hF
    exact Er ()
  obtain ⟨hk10, hx11, hd12⟩ := drop_cons hd9
  rw [s_l5Fits_L1] at hF
  iterate 8 refine au ?_
  refine CdT ?_
  iterate 2 refine au ?_
  refine K_draw [0, 1, 2, 3, 4, 5, 6, 7, 8, 9, 10, 11, 12, 13] [0, 1, 0, 4, 0, 28, 60, 127, 255, 0, 0, 1536, 3584, 8191] [] mixed (by decide +kernel) ?_
  iterate 5 refine du ?_
  refine Di hx11 (fun k15 j16 => ?_)
  refine Dl ls3_0 ?_
  obtain ⟨x17, hx18, hF⟩ := bind_some hF
  obtain ⟨hp19, hx20⟩ := ix_some hx18
  refine Di hx20 (fun k21 j22 => ?_)
  refine Dl ls3_0 ?_
  iterate 2 refine du ?_
  obtain ⟨x23, hx24, hF⟩ := bind_some hF
  obtain ⟨hp25, hx26⟩ := ix_some hx24
  refine Di hx26 (fun k27 j28 => ?_)
  refine Dl ls3_0 ?_
  iterate 2 refine du ?_
  refine Cc (fun hb30 => ?_) (fun hb30 => ?_)
  · rw [if_pos hb30] at hF
    iterate 4 refine au ?_
    cases hF
    exact Er ()
  rw [if_neg (nt hb30)] at hF
  iterate 6 refine au ?_
  rw [wk k6]
  exact ⟨_, Nat.lt_succ_self _, _, k6 + 1, rest7, rfl, eqA, hd12, entA, hF⟩

/-! spec.l5Matches -/
def s_l5Matches_L1 (a_m : Method) (a_values : List Int) : List Fact → Nat → (List Fact) → Option ((List Fact))
  | [], k9, c3 => some c3
  | x11 :: rest10, k9, c3 => ((s_l5Fits a_m a_values x11).bind fun r23 =>
      if r23 then (
        (s_l2One x11.Rel x11.Values).bind fun r31 =>
        (app c3 ([r31] : List Fact)).bind fun z35 =>
        some z35)
      else (
        some c3)).bind fun o18 =>
    match o18 with
    | c39 => s_l5Matches_L1 a_m a_values rest10 (k9 + 1) c39
def s_l5Matches (a_m : Method) (a_values : List Int) (a_facts : List Fact) : Option ((List Fact)) :=
  s_l5Matches_L1 a_m a_values a_facts 0 ([] : List Fact)
theorem s_l5Matches_ok (a_m : Method) (v0_1 : Sv) (a_values : List Int) (v1_0 : Sv) (a_facts : List Fact) (v2_0 : Sv) (R : (List Fact)) (hF : s_l5Matches a_m a_values a_facts = some R) :
    Fw.Spec Tryz.prog 146 [(.agg [(.int .i64 a_m.Rel), v0_1.v, (.int .i64 a_m.Limit), (.int .i64 a_m.Cost), (.int .i64 a_m.Quota)].toArray), v1_0.v, v2_0.v] [crd (RdS 3 rdInt) v0_1.v a_m.Inputs, crd (RdS 3 rdInt) v1_0.v a_values, crd (RdS 80 rd80) v2_0.v a_facts] (fun p : Sv × List Nat => p.1.v) (fun p => [cown (OwnS 80 ow80) p.2 p.1.v R]) := by
  refine Spec_enter (n := 38) Tryz.func146 rfl rfl (rs := [.tmp 6]) rfl rfl rfl ?_
  intro H0 F0
  unfold s_l5Matches at hF
  refine K_region (C_newR rfl (N_box (g := false) (v := (.agg [(.int .i64 a_m.Rel), v0_1.v, (.int .i64 a_m.Limit), (.int .i64 a_m.Cost), (.int .i64 a_m.Quota)].toArray)) ty77.h.sz (.tmp rfl rfl) rfl) (fun k1 => ?_))
  refine C_val (V_assign (v := (.slice none 0 0)) EV.nilSlice) ?_
  refine C_nil (K_region (C_new rfl (N_buildSliceT (g := true) sl40.h ty80.h .nil (vs := []) rfl rfl rfl (by simp)) (fun k2 => ?_)))
  refine C_conv (.cons .h .nil) (own_lit (Ro := ow80) (E := 80) (F := []) (xs := ([] : List Fact)) MkL_nil rfl rfl) apps ?_
  refine Ca (.slice (some ⟨k2, 0, none⟩) 0 1) rfl rfl ?_
  refine C_nil (K_in (K_region (C_val (V_assign (v := (.int .i64 0)) (.int _ _)) ?_)))
  refine C_nil (CW_block (CW_loop (m := a_facts.length) (fun m7 f' cs' => ∃ (g : Fr) (k9 : Nat) (rest10 : List Fact) (c3 : List Fact) (v4 : Sv) (F5 : List Nat), m7 = rest10.length ∧ f' = updL g [(1, v1_0.v), (2, v2_0.v), (3, (.pointer (some ⟨k1, 0, some 0⟩))), (7, v4.v), (8, (.int .i64 (k9 : Int)))] ∧ List.drop k9 a_facts = rest10 ∧ Ent cs' [crd (RdS 3 rdInt) v1_0.v a_values, crd (RdS 80 rd80) v2_0.v a_facts, cboR k1 77 (.agg [(.int .i64 a_m.Rel), v0_1.v, (.int .i64 a_m.Limit), (.int .i64 a_m.Cost), (.int .i64 a_m.Quota)].toArray), crd (RdS 3 rdInt) v0_1.v a_m.Inputs, cown (OwnS 80 ow80) F5 v4.v c3] ∧ s_l5Matches_L1 a_m a_values rest10 k9 c3 = some R) ⟨_, 0, _, _, ⟨(some ⟨k2, 0, none⟩), 0, 1⟩, (k2 :: []), rfl, (EqL.cons rfl (EqL.cons rfl (EqL.cons rfl (EqL.cons rfl (EqL.cons rfl (EqL.nil)))))).eq, rfl, (.sel (.rd (.t (.t (.t .h))) rfl (.rd (.t (.t (.t (.t .h)))) rfl (.rd (.t .h) rfl (.rd (.t (.t .h)) rfl (.cons .h .nil)))))), hF⟩ ?_))
  clear hF
  rintro m7 _ _ ⟨g8, k9, rest10, c3, v4, F5, rfl, rfl, hd12, hE, hF⟩
  refine K_ent hE ?_
  clear hE
  refine K_pure (c := crd (RdS 80 rd80) v2_0.v a_facts) (.t .h) crd_bound (fun hbd17 => ?_)
  rcases rest10 with _ | ⟨x11, rest10⟩
  · have hk13 := List.drop_eq_nil_iff.1 hd12
    have hfe16 : (decide (((k9 : Int) : Int) < (a_facts.length : Int))) = false := decide_eq_false (by omega)
    rw [s_l5Matches_L1] at hF
    refine K_in (K_region (Cm (.int .i64 (k9 : Int)) rfl rfl ?_))
    refine Cm v2_0.v rfl rfl ?_
    refine C_at (.t .h) (fun hp => V_lenR (l := a_facts.length) sl40.h (.tmp rfl rfl) (crd_len hp)) ?_
    refine C_val (V_lss (i := (k9 : Int)) (j := (a_facts.length : Int)) (.tmp rfl rfl) (.tmp rfl rfl)) ?_
    refine C_nil (CW_cond (b := (decide (((k9 : Int) : Int) < (a_facts.length : Int)))) (.tmp rfl rfl) (fun hb => absurd (hfe16.symm.trans hb) (by decide)) (fun _ => ?_))
    refine CW_exit ?_
    iterate 2 refine CThen_exit ?_
    refine CIn_self (K_region (Cm v4.v rfl rfl ?_))
    refine Ca v4.v rfl rfl ?_
    refine C_nil (CW_ret ?_)
    obtain rfl := Option.some.inj hF
    exact End_ret (v4, F5) (.tmp rfl rfl .nil) rfl (.sel (.cons (.t (.t (.t (.t .h)))) .nil))
  obtain ⟨hk13, hx14, hd15⟩ := drop_cons hd12
  have hfe16 : (decide (((k9 : Int) : Int) < (a_facts.length : Int))) = true := decide_eq_true (by omega)
  rw [s_l5Matches_L1] at hF
  refine K_in (K_region (Cm (.int .i64 (k9 : Int)) rfl rfl ?_))
  refine Cm v2_0.v rfl rfl ?_
  refine C_at (.t .h) (fun hp => V_lenR (l := a_facts.length) sl40.h (.tmp rfl rfl) (crd_len hp)) ?_
  refine C_val (V_lss (i := (k9 : Int)) (j := (a_facts.length : Int)) (.tmp rfl rfl) (.tmp rfl rfl)) ?_
  refine C_nil (CW_cond (b := (decide (((k9 : Int) : Int) < (a_facts.length : Int)))) (.tmp rfl rfl) (fun _ => ?_) (fun hb => absurd (hfe16.symm.trans hb) (by decide)))
  refine CW_skip ?_
  obtain ⟨o18, hio18, hO19⟩ := bind_some hF
  refine K_cut (fun f' cs' => ∃ (c39 : List Fact) (v40 : Sv) (F41 : List Nat) (g : Fr), c39 = o18 ∧ f' = updL g [(1, v1_0.v), (2, v2_0.v), (3, (.pointer (some ⟨k1, 0, some 0⟩))), (7, v40.v), (8, (.int .i64 (k9 : Int)))] ∧ Ent cs' [crd (RdS 3 rdInt) v1_0.v a_values, crd (RdS 80 rd80) v2_0.v a_facts, cboR k1 77 (.agg [(.int .i64 a_m.Rel), v0_1.v, (.int .i64 a_m.Limit), (.int .i64 a_m.Cost), (.int .i64 a_m.Quota)].toArray), crd (RdS 3 rdInt) v0_1.v a_m.Inputs, cown (OwnS 80 ow80) F41 v40.v c39]) ?_ ?_
  · replace hF := hio18
    refine CW_block (K_draw [0, 1, 2, 3, 4, 5, 6] [0, 0, 0, 0, 12, 28, 63] [6] mixed (by decide +kernel) ?_)
    refine D_at rfl .no (.t (.t .h)) rfl (fun ha hp => V_loadBox ag77.h ty77.h.sz rfl (EN ha (.tmp rfl rfl) rfl) hp.2 rfl) ?_
    refine Dm v1_0.v rfl rfl rfl rfl ?_
    refine Dm v2_0.v rfl rfl rfl rfl ?_
    refine Dm (.int .i64 (k9 : Int)) rfl rfl rfl rfl ?_
    refine D_idx (a := x11) sl40.h ty80.h.sz rfl .no (.tmp rfl rfl) (.tmp rfl rfl) rfl rfl (.t .h) (Int.natCast_nonneg k9) hx14 (fun k20 j21 => ?_)
    refine D_ldA1 (ul80_0_80 x11) ag80.h ty80.h.sz rfl rfl .no (.tmp rfl rfl) rfl .h la80_0_80 (fun p22 => ?_)
    obtain ⟨r23, hx24, hF⟩ := bind_some hF
    refine D_act0 rfl rfl .no (.rd (.t (.t (.t (.t (.t .h))))) rfl (.rd (.t (.t .h)) rfl (.rd .h rfl .nil))) .nil (fun ha => X_callS cf182.h (.cons (EN ha (.tmp rfl rfl) rfl) (.cons (EN ha (.tmp rfl rfl) rfl) (.cons (EN ha (.tmp rfl rfl) rfl) .nil))) (s_l5Fits_ok a_m v0_1 a_values v1_0 x11 p22 _ hx24)) (fun _ => ?_)
    refine D_nil (CW_cond (b := r23) (.tmp rfl rfl) (fun hb38 => ?_) (fun hb38 => ?_))
    · rw [if_pos hb38] at hF
      refine CW_draw [0, 1, 2, 3, 4, 5, 6, 7, 8, 9, 10, 11, 12, 13, 14] [0, 0, 0, 6, 14, 30, 0, 0, 192, 448, 960, 2046, 4094, 8191, 16383] [11, 13] mixed (by decide +kernel) ?_
      refine Dm v4.v rfl rfl rfl rfl ?_
      refine Dm v2_0.v rfl rfl rfl rfl ?_
      refine Dm (.int .i64 (k9 : Int)) rfl rfl rfl rfl ?_
      refine D_idx (a := x11) sl40.h ty80.h.sz rfl .no (.tmp rfl rfl) (.tmp rfl rfl) rfl rfl (.t (.t (.t .h))) (Int.natCast_nonneg k9) hx14 (fun k26 j27 => ?_)
      refine D_val rfl .no (fun ha => V_fieldAddr (off := 0) fd80_0.h (EN ha (.tmp rfl rfl) rfl)) ?_
      refine D_ldS (w := (.int .i64 x11.Rel)) ag3.h rfl .no (.tmp rfl rfl) rfl .h ls80_0 ?_
      refine Dm v2_0.v rfl rfl rfl rfl ?_
      refine Dm (.int .i64 (k9 : Int)) rfl rfl rfl rfl ?_
      refine D_idx (a := x11) sl40.h ty80.h.sz rfl .no (.tmp rfl rfl) (.tmp rfl rfl) rfl rfl (.t (.t (.t (.t .h)))) (Int.natCast_nonneg k9) hx14 (fun k28 j29 => ?_)
      refine D_val rfl .no (fun ha => V_fieldAddr (off := 1) fd80_1.h (EN ha (.tmp rfl rfl) rfl)) ?_
      refine D_ldV (R' := (RdS 3 rdInt)) ag22.h rfl .no (.tmp rfl rfl) rfl .h lv80_1 (fun w30 => ?_)
      obtain ⟨r31, hx32, hF⟩ := bind_some hF
      refine D_act1 rfl rfl .no (.rd .h rfl .nil) .nil (fun ha => X_callS cf178.h (.cons (EN ha (.tmp rfl rfl) rfl) (.cons (EN ha (.tmp rfl rfl) rfl) .nil)) (s_l2One_ok x11.Rel x11.Values w30 _ hx32)) (fun p33 => ?_)
      refine D_new rfl .no rfl (fun ha => N_buildSliceT (g := true) (len := 1) (parts := [(0, .tmp 34)]) sl40.h ty80.h (.cons (EN ha (.tmp rfl rfl) rfl) .nil) (vs := [(.agg [(.int .i64 r31.Rel), p33.1.v].toArray)]) rfl rfl rfl (by intro v hv; simp at hv; rcases hv with rfl <;> rfl)) (fun k34 => ?_)
      refine D_conv (.cons .h (.cons .h .nil)) (own_lit (Ro := ow80) (E := 80) (F := (p33.2 ++ [])) (xs := ([r31] : List Fact)) (MkL_cons mk80 MkL_nil apps) rfl rfl) apps ?_
      obtain ⟨z35, hx36, hF⟩ := bind_some hF
      refine D_act1 rfl rfl .no (.cons (.t (.t (.t (.t (.t (.t (.t (.t (.t (.t .h)))))))))) (.cons .h .nil)) (.dep rfl .nil) (fun ha => X_appendO (Ro := ow80) sl40.h ni40 ty80.h rfl rfl rfl (EN ha (.tmp rfl rfl) rfl) (EN ha (.tmp rfl rfl) rfl) hx36 src_own) (fun p37 => ?_)
      refine Da p37.1.v rfl rfl rfl rfl ?_
      refine D_nil ?_
      obtain rfl := Option.some.inj hF
      exact ⟨_, p37.1, p37.2, _, rfl, (EqL.cons rfl (EqL.cons rfl (EqL.cons rfl (EqL.cons rfl (EqL.cons rfl (EqL.nil)))))).eq, (.sel (.rd (.t (.t (.t (.t (.t (.t .h)))))) rfl (.rd (.t (.t (.t (.t (.t (.t (.t .h))))))) rfl (.rd (.t (.t (.t (.t (.t (.t (.t (.t .h)))))))) rfl (.rd (.t (.t (.t (.t (.t (.t (.t (.t (.t .h))))))))) rfl (.cons .h .nil))))))⟩
    rw [if_neg (by rw [hb38]; exact Bool.false_ne_true)] at hF
    refine CW_skip ?_
    obtain rfl := Option.some.inj hF
    exact ⟨_, v4, F5, _, rfl, (EqL.cons rfl (EqL.cons rfl (EqL.cons rfl (EqL.cons rfl (EqL.cons rfl (EqL.nil)))))).eq, (.sel (.rd (.t (.t .h)) rfl (.rd (.t (.t (.t .h))) rfl (.rd (.t (.t (.t (.t .h)))) rfl (.rd (.t (.t (.t (.t (.t .h))))) rfl (.cons (.t (.t (.t (.t (.t (.t .h)))))) .nil))))))⟩
  rintro _ _ ⟨c39, v40, F41, g43, rfl, rfl, hE⟩
  replace hF := hO19
  clear hO19
  try dsimp only at hF
  refine K_ent hE ?_
  refine CW_region (Cm (.int .i64 (k9 : Int)) rfl rfl ?_)
  refine C_val (V_add (i := (k9 : Int)) (j := 1) (.tmp rfl rfl) (.int _ _)) ?_
  refine Ca (.int .i64 (IntKind.i64.wrap ((k9 : Int) + 1))) rfl rfl ?_
  refine C_nil ?_
  have hw42 : IntKind.i64.wrap ((k9 : Int) + 1) = ((k9 + 1 : Nat) : Int) := by rw [wrap_in (by omega) (by omega)]; rfl
  rw [hw42]
  exact ⟨_, Nat.lt_succ_self _, _, k9 + 1, rest10, _, v40, F41, rfl, (EqL.cons rfl (EqL.cons rfl (EqL.cons rfl (EqL.cons rfl (EqL.cons rfl (EqL.nil)))))).eq, hd15, (.sel (.rd .h rfl (.rd (.t .h) rfl (.rd (.t (.t .h)) rfl (.rd (.t (.t (.t .h))) rfl (.cons (.t (.t (.t (.t .h)))) .nil)))))), hF⟩

/-! spec.HasFact -/
def s_HasFact_L1 (a_f : Fact) : List Fact → Nat → Option (Bool)
  | [], k5 => some false
  | x7 :: rest6, k5 => (s_CompareFacts x7 a_f).bind fun r17 =>
    if ((r17 : Int) == 0) then (
      some true)
    else (
      s_HasFact_L1 a_f rest6 (k5 + 1))
def s_HasFact (a_l : List Fact) (a_f : Fact) : Option (Bool) :=
  s_HasFact_L1 a_f a_l 0
theorem s_HasFact_ok (a_l : List Fact) (v0_0 : Sv) (a_f : Fact) (v1_1 : Sv) (R : Bool) (hF : s_HasFact a_l a_f = some R) :
    Fw.Spec Tryz.prog 183 [v0_0.v, (.agg [(.int .i64 a_f.Rel), v1_1.v].toArray)] [crd (RdS 80 rd80) v0_0.v a_l, crd (RdS 3 rdInt) v1_1.v a_f.Values] (fun _ : Unit => (.bool R)) (fun _ => []) := by
  refine Spec_enter (n := 19) Tryz.func183 rfl rfl (rs := [.tmp 4]) rfl rfl rfl ?_
  intro H0 F0
  unfold s_HasFact at hF
  refine K_region (C_newR rfl (N_box (g := false) (v := (.agg [(.int .i64 a_f.Rel), v1_1.v].toArray)) ty80.h.sz (.tmp rfl rfl) rfl) (fun k1 => ?_))
  refine C_val (V_assign (v := (.bool false)) (.bool _)) ?_
  refine C_nil (K_in (K_region (C_val (V_assign (v := (.int .i64 0)) (.int _ _)) ?_)))
  refine C_nil (CW_block (CW_loop (m := a_l.length) (fun m3 f' cs' => ∃ (g : Fr) (k5 : Nat) (rest6 : List Fact), m3 = rest6.length ∧ f' = updL g [(0, v0_0.v), (3, (.pointer (some ⟨k1, 0, some 0⟩))), (5, (.int .i64 (k5 : Int)))] ∧ List.drop k5 a_l = rest6 ∧ Ent cs' [crd (RdS 80 rd80) v0_0.v a_l, cboR k1 80 (.agg [(.int .i64 a_f.Rel), v1_1.v].toArray), crd (RdS 3 rdInt) v1_1.v a_f.Values] ∧ s_HasFact_L1 a_f rest6 k5 = some R) ⟨_, 0, _, rfl, (EqL.cons rfl (EqL.cons rfl (EqL.cons rfl (EqL.nil)))).eq, rfl, (.sel (.rd (.t .h) rfl (.rd .h rfl (.rd (.t (.t .h)) rfl .nil)))), hF⟩ ?_))
  clear hF
  rintro m3 _ _ ⟨g4, k5, rest6, rfl, rfl, hd8, hE, hF⟩
  refine K_ent hE ?_
  clear hE
  refine K_pure (c := crd (RdS 80 rd80) v0_0.v a_l) .h crd_bound (fun hbd13 => ?_)
  rcases rest6 with _ | ⟨x7, rest6⟩
  · have hk9 := List.drop_eq_nil_iff.1 hd8
    have hfe12 : (decide (((k5 : Int) : Int) < (a_l.length : Int))) = false := decide_eq_false (by omega)
    rw [s_HasFact_L1] at hF
    refine K_in (K_region (Cm (.int .i64 (k5 : Int)) rfl rfl ?_))
    refine Cm v0_0.v rfl rfl ?_
    refine C_at .h (fun hp => V_lenR (l := a_l.length) sl40.h (.tmp rfl rfl) (crd_len hp)) ?_
    refine C_val (V_lss (i := (k5 : Int)) (j := (a_l.length : Int)) (.tmp rfl rfl) (.tmp rfl rfl)) ?_
    refine C_nil (CW_cond (b := (decide (((k5 : Int) : Int) < (a_l.length : Int)))) (.tmp rfl rfl) (fun hb => absurd (hfe12.symm.trans hb) (by decide)) (fun _ => ?_))
    refine CW_exit ?_
    iterate 2 refine CThen_exit ?_
    refine CIn_self (K_region (C_val (V_assign (v := (.bool false)) (.bool _)) ?_))
    refine C_nil (CW_ret ?_)
    obtain rfl := Option.some.inj hF
    exact End_ret () (.tmp rfl rfl .nil) rfl (.sel .nil)
  obtain ⟨hk9, hx10, hd11⟩ := drop_cons hd8
  have hfe12 : (decide (((k5 : Int) : Int) < (a_l.length : Int))) = true := decide_eq_true (by omega)
  rw [s_HasFact_L1] at hF
  refine K_in (K_region (Cm (.int .i64 (k5 : Int)) rfl rfl ?_))
  refine Cm v0_0.v rfl rfl ?_
  refine C_at .h (fun hp => V_lenR (l := a_l.length) sl40.h (.tmp rfl rfl) (crd_len hp)) ?_
  refine C_val (V_lss (i := (k5 : Int)) (j := (a_l.length : Int)) (.tmp rfl rfl) (.tmp rfl rfl)) ?_
  refine C_nil (CW_cond (b := (decide (((k5 : Int) : Int) < (a_l.length : Int)))) (.tmp rfl rfl) (fun _ => ?_) (fun hb => absurd (hfe12.symm.trans hb) (by decide)))
  refine CW_skip (K_block (K_draw [0, 1, 2, 3, 4, 5, 6] [0, 0, 3, 7, 0, 31, 63] [5] mixed (by decide +kernel) ?_))
  refine Dm v0_0.v rfl rfl rfl rfl ?_
  refine Dm (.int .i64 (k5 : Int)) rfl rfl rfl rfl ?_
  refine D_idx (a := x7) sl40.h ty80.h.sz rfl .no (.tmp rfl rfl) (.tmp rfl rfl) rfl rfl .h (Int.natCast_nonneg k5) hx10 (fun k14 j15 => ?_)
  refine D_ldA1 (ul80_0_80 x7) ag80.h ty80.h.sz rfl rfl .no (.tmp rfl rfl) rfl .h la80_0_80 (fun p16 => ?_)
  refine D_at rfl .no (.t (.t (.t .h))) rfl (fun ha hp => V_loadBox ag80.h ty80.h.sz rfl (EN ha (.tmp rfl rfl) rfl) hp.2 rfl) ?_
  obtain ⟨r17, hx18, hF⟩ := bind_some hF
  refine D_act0 rfl rfl .no (.rd .h rfl (.rd (.t (.t (.t (.t .h)))) rfl .nil)) .nil (fun ha => X_callS cf67.h (.cons (EN ha (.tmp rfl rfl) rfl) (.cons (EN ha (.tmp rfl rfl) rfl) .nil)) (s_CompareFacts_ok x7 p16 a_f v1_1 _ hx18)) (fun _ => ?_)
  refine D_val rfl .no (fun ha => V_eql (i := r17) (j := 0) (EN ha (.tmp rfl rfl) rfl) (EN ha (.int _ _) rfl)) ?_
  refine D_nil (CW_cond (b := ((r17 : Int) == 0)) (.tmp rfl rfl) (fun hb21 => ?_) (fun hb21 => ?_))
  · rw [if_pos hb21] at hF
    refine K_region (C_val (V_assign (v := (.bool true)) (.bool _)) ?_)
    refine C_nil (CW_ret ?_)
    obtain rfl := Option.some.inj hF
    exact End_ret () (.tmp rfl rfl .nil) rfl (.sel .nil)
  rw [if_neg (by rw [hb21]; exact Bool.false_ne_true)] at hF
  refine CW_skip (CW_region (Cm (.int .i64 (k5 : Int)) rfl rfl ?_))
  refine C_val (V_add (i := (k5 : Int)) (j := 1) (.tmp rfl rfl) (.int _ _)) ?_
  refine Ca (.int .i64 (IntKind.i64.wrap ((k5 : Int) + 1))) rfl rfl ?_
  refine C_nil ?_
  have hw20 : IntKind.i64.wrap ((k5 : Int) + 1) = ((k5 + 1 : Nat) : Int) := by rw [wrap_in (by omega) (by omega)]; rfl
  rw [hw20]
  exact ⟨_, Nat.lt_succ_self _, _, k5 + 1, rest6, rfl, (EqL.cons rfl (EqL.cons rfl (EqL.cons rfl (EqL.nil)))).eq, hd11, (.sel (.rd (.t (.t .h)) rfl (.rd (.t (.t (.t .h))) rfl (.rd (.t (.t (.t (.t .h)))) rfl .nil)))), hF⟩

end Go.Proofs.YtlfebfhfgfjceabGreat
