/-
  Functions of the program as Lean functions, and that the calls return what these say: part 1. No conditions.
-/
import Derived.Test.YtmjhcoelkbcmkaaGreatFcViolatedNow
import Derived.Test.YtmjhcoelkbcmkaaGreatProg
import Derived.KernelRfl
set_option maxRecDepth 100000
set_option maxHeartbeats 1000000
set_option linter.unusedVariables false
namespace Go.Proofs.YtmjhcoelkbcmkaaGreat
open Go Go.Fw

instance : LaidP Tryz.prog := ⟨fun _ => True⟩

structure Method where
  Rel : Int
  Inputs : List Int
  Limit : Int
  Cost : Int
  Quota : Int
structure Rule where
  From : Int
  To : Int
  Map : List Int
structure Fact where
  Rel : Int
  Values : List Int
structure Source where
  Facts : List Fact
  Version : Int
structure Access where
  Method : Int
  Values : List Int
structure Stored where
  Access : Access
  Facts : List Fact
  At : Int
structure Cache where
  Entries : List Stored
  Age : Int
structure Mediator where
  Schema : List Int
  Methods : List Method
  Rules : List Rule
  Source : Source
  Cache : Cache
  Now : Int
  Log : List Access
  Times : List Int
  Spent : Int
  Results : List (List (List Int))
instance ty34 : ITY Tryz.prog 34 12 224 (.agg [(.slice none 0 0), (.slice none 0 0), (.slice none 0 0), (.slice none 0 0), (.int .i64 0), (.slice none 0 0), (.int .i64 0), (.int .i64 0), (.slice none 0 0), (.slice none 0 0), (.int .i64 0), (.slice none 0 0)].toArray) := ⟨by unfold TY; kernel_rfl⟩
instance ag34 : IAG Tryz.prog 34 true := ⟨by unfold AG; kernel_rfl⟩
instance cf7 : ICF Tryz.prog 7 := ⟨fun _ _ => Tryz.call7 _ _⟩
instance fd34_0 : IFD Tryz.prog 34 0 0 := ⟨by unfold FD; kernel_rfl⟩
instance ag22 : IAG Tryz.prog 22 false := ⟨by unfold AG; kernel_rfl⟩
instance cf31 : ICF Tryz.prog 31 := ⟨fun _ _ => Tryz.call31 _ _⟩
instance sl22 : ISL Tryz.prog 22 3 := ⟨by unfold SL; kernel_rfl⟩
instance fd34_1 : IFD Tryz.prog 34 1 1 := ⟨by unfold FD; kernel_rfl⟩
instance ag23 : IAG Tryz.prog 23 false := ⟨by unfold AG; kernel_rfl⟩
instance cf32 : ICF Tryz.prog 32 := ⟨fun _ _ => Tryz.call32 _ _⟩
instance sl23 : ISL Tryz.prog 23 36 := ⟨by unfold SL; kernel_rfl⟩
def rd36 (H : AHeap) (v : Value) (a : Method) : Prop := ∃ v0 : Sv, v = .agg [(.int .i64 a.Rel), v0.v, (.int .i64 a.Limit), (.int .i64 a.Cost), (.int .i64 a.Quota)].toArray ∧ (RdS 3 rdInt) H v0.v a.Inputs
instance : Mono rd36 := ⟨fun h hi => by
  obtain ⟨v0, h, h0⟩ := h
  exact ⟨v0, h, Mono.up h0 hi⟩⟩
instance : Cells rd36 5 := ⟨fun h => by
  obtain ⟨v0, rfl, h0⟩ := h
  exact ⟨rfl, rfl⟩⟩
instance ty36 : ITY Tryz.prog 36 5 56 (.agg [(.int .i64 0), (.slice none 0 0), (.int .i64 0), (.int .i64 0), (.int .i64 0)].toArray) := ⟨by unfold TY; kernel_rfl⟩
def ul36_0_36 (a : Method) (p : Sv) : List Value := [(.int .i64 a.Rel), p.v, (.int .i64 a.Limit), (.int .i64 a.Cost), (.int .i64 a.Quota)]
theorem la36_0_36 {a : Method} : ∀ H e, rd36 H e a → ∃ i : Sv, 0 + 5 ≤ e.cells.size ∧ (e.cells.toList.drop 0).take 5 = ul36_0_36 a i ∧ ∀ c ∈ ([crd (RdS 3 rdInt) i.v a.Inputs] : List Comp), c.P H ∧ c.F = [] := by
  intro H e h
  obtain ⟨v0, rfl, h0⟩ := h
  refine ⟨v0, Nat.le_of_ble_eq_true rfl, rfl, fun c hc => by
    simp only [List.mem_cons, List.not_mem_nil, or_false] at hc
    rcases hc with rfl
    · exact ⟨h0, rfl⟩
⟩
instance ag36 : IAG Tryz.prog 36 true := ⟨by unfold AG; kernel_rfl⟩
instance cf8 : ICF Tryz.prog 8 := ⟨fun _ _ => Tryz.call8 _ _⟩
instance fd36_1 : IFD Tryz.prog 36 1 1 := ⟨by unfold FD; kernel_rfl⟩
instance fd34_2 : IFD Tryz.prog 34 2 2 := ⟨by unfold FD; kernel_rfl⟩
instance ag24 : IAG Tryz.prog 24 false := ⟨by unfold AG; kernel_rfl⟩
instance cf33 : ICF Tryz.prog 33 := ⟨fun _ _ => Tryz.call33 _ _⟩
instance sl24 : ISL Tryz.prog 24 61 := ⟨by unfold SL; kernel_rfl⟩
def rd61 (H : AHeap) (v : Value) (a : Rule) : Prop := ∃ v0 : Sv, v = .agg [(.int .i64 a.From), (.int .i64 a.To), v0.v].toArray ∧ (RdS 3 rdInt) H v0.v a.Map
instance : Mono rd61 := ⟨fun h hi => by
  obtain ⟨v0, h, h0⟩ := h
  exact ⟨v0, h, Mono.up h0 hi⟩⟩
instance : Cells rd61 3 := ⟨fun h => by
  obtain ⟨v0, rfl, h0⟩ := h
  exact ⟨rfl, rfl⟩⟩
instance ty61 : ITY Tryz.prog 61 3 40 (.agg [(.int .i64 0), (.int .i64 0), (.slice none 0 0)].toArray) := ⟨by unfold TY; kernel_rfl⟩
def ul61_0_61 (a : Rule) (p : Sv) : List Value := [(.int .i64 a.From), (.int .i64 a.To), p.v]
theorem la61_0_61 {a : Rule} : ∀ H e, rd61 H e a → ∃ i : Sv, 0 + 3 ≤ e.cells.size ∧ (e.cells.toList.drop 0).take 3 = ul61_0_61 a i ∧ ∀ c ∈ ([crd (RdS 3 rdInt) i.v a.Map] : List Comp), c.P H ∧ c.F = [] := by
  intro H e h
  obtain ⟨v0, rfl, h0⟩ := h
  refine ⟨v0, Nat.le_of_ble_eq_true rfl, rfl, fun c hc => by
    simp only [List.mem_cons, List.not_mem_nil, or_false] at hc
    rcases hc with rfl
    · exact ⟨h0, rfl⟩
⟩
instance ag61 : IAG Tryz.prog 61 true := ⟨by unfold AG; kernel_rfl⟩
instance cf18 : ICF Tryz.prog 18 := ⟨fun _ _ => Tryz.call18 _ _⟩
instance fd61_2 : IFD Tryz.prog 61 2 2 := ⟨by unfold FD; kernel_rfl⟩
instance fd34_3 : IFD Tryz.prog 34 3 3 := ⟨by unfold FD; kernel_rfl⟩
instance ag27 : IAG Tryz.prog 27 true := ⟨by unfold AG; kernel_rfl⟩
instance ty27 : ITY Tryz.prog 27 2 32 (.agg [(.slice none 0 0), (.int .i64 0)].toArray) := ⟨by unfold TY; kernel_rfl⟩
instance cf34 : ICF Tryz.prog 34 := ⟨fun _ _ => Tryz.call34 _ _⟩
instance fd27_0 : IFD Tryz.prog 27 0 0 := ⟨by unfold FD; kernel_rfl⟩
instance ag25 : IAG Tryz.prog 25 false := ⟨by unfold AG; kernel_rfl⟩
instance cf84 : ICF Tryz.prog 84 := ⟨fun _ _ => Tryz.call84 _ _⟩
instance sl25 : ISL Tryz.prog 25 157 := ⟨by unfold SL; kernel_rfl⟩
def rd157 (H : AHeap) (v : Value) (a : Fact) : Prop := ∃ v0 : Sv, v = .agg [(.int .i64 a.Rel), v0.v].toArray ∧ (RdS 3 rdInt) H v0.v a.Values
instance : Mono rd157 := ⟨fun h hi => by
  obtain ⟨v0, h, h0⟩ := h
  exact ⟨v0, h, Mono.up h0 hi⟩⟩
instance : Cells rd157 2 := ⟨fun h => by
  obtain ⟨v0, rfl, h0⟩ := h
  exact ⟨rfl, rfl⟩⟩
instance ty157 : ITY Tryz.prog 157 2 32 (.agg [(.int .i64 0), (.slice none 0 0)].toArray) := ⟨by unfold TY; kernel_rfl⟩
def ul157_0_157 (a : Fact) (p : Sv) : List Value := [(.int .i64 a.Rel), p.v]
theorem la157_0_157 {a : Fact} : ∀ H e, rd157 H e a → ∃ i : Sv, 0 + 2 ≤ e.cells.size ∧ (e.cells.toList.drop 0).take 2 = ul157_0_157 a i ∧ ∀ c ∈ ([crd (RdS 3 rdInt) i.v a.Values] : List Comp), c.P H ∧ c.F = [] := by
  intro H e h
  obtain ⟨v0, rfl, h0⟩ := h
  refine ⟨v0, Nat.le_of_ble_eq_true rfl, rfl, fun c hc => by
    simp only [List.mem_cons, List.not_mem_nil, or_false] at hc
    rcases hc with rfl
    · exact ⟨h0, rfl⟩
⟩
instance ag157 : IAG Tryz.prog 157 true := ⟨by unfold AG; kernel_rfl⟩
instance cf138 : ICF Tryz.prog 138 := ⟨fun _ _ => Tryz.call138 _ _⟩
instance fd157_1 : IFD Tryz.prog 157 1 1 := ⟨by unfold FD; kernel_rfl⟩
instance fd34_4 : IFD Tryz.prog 34 4 5 := ⟨by unfold FD; kernel_rfl⟩
instance ag30 : IAG Tryz.prog 30 true := ⟨by unfold AG; kernel_rfl⟩
instance ty30 : ITY Tryz.prog 30 2 32 (.agg [(.slice none 0 0), (.int .i64 0)].toArray) := ⟨by unfold TY; kernel_rfl⟩
instance cf35 : ICF Tryz.prog 35 := ⟨fun _ _ => Tryz.call35 _ _⟩
instance fd30_0 : IFD Tryz.prog 30 0 0 := ⟨by unfold FD; kernel_rfl⟩
instance ag28 : IAG Tryz.prog 28 false := ⟨by unfold AG; kernel_rfl⟩
instance cf85 : ICF Tryz.prog 85 := ⟨fun _ _ => Tryz.call85 _ _⟩
instance sl28 : ISL Tryz.prog 28 160 := ⟨by unfold SL; kernel_rfl⟩
def rd160 (H : AHeap) (v : Value) (a : Stored) : Prop := ∃ v0 v1 : Sv, v = .agg [(.int .i64 a.Access.Method), v0.v, v1.v, (.int .i64 a.At)].toArray ∧ (RdS 3 rdInt) H v0.v a.Access.Values ∧ (RdS 157 rd157) H v1.v a.Facts
instance : Mono rd160 := ⟨fun h hi => by
  obtain ⟨v0, v1, h, h0, h1⟩ := h
  exact ⟨v0, v1, h, Mono.up h0 hi, Mono.up h1 hi⟩⟩
instance : Cells rd160 4 := ⟨fun h => by
  obtain ⟨v0, v1, rfl, h0, h1⟩ := h
  exact ⟨rfl, rfl⟩⟩
instance ty160 : ITY Tryz.prog 160 4 64 (.agg [(.int .i64 0), (.slice none 0 0), (.slice none 0 0), (.int .i64 0)].toArray) := ⟨by unfold TY; kernel_rfl⟩
def ul160_0_160 (a : Stored) (p : Sv × Sv) : List Value := [(.int .i64 a.Access.Method), p.1.v, p.2.v, (.int .i64 a.At)]
theorem la160_0_160 {a : Stored} : ∀ H e, rd160 H e a → ∃ i : Sv × Sv, 0 + 4 ≤ e.cells.size ∧ (e.cells.toList.drop 0).take 4 = ul160_0_160 a i ∧ ∀ c ∈ ([crd (RdS 3 rdInt) i.1.v a.Access.Values, crd (RdS 157 rd157) i.2.v a.Facts] : List Comp), c.P H ∧ c.F = [] := by
  intro H e h
  obtain ⟨v0, v1, rfl, h0, h1⟩ := h
  refine ⟨(v0, v1), Nat.le_of_ble_eq_true rfl, rfl, fun c hc => by
    simp only [List.mem_cons, List.not_mem_nil, or_false] at hc
    rcases hc with rfl | rfl
    · exact ⟨h0, rfl⟩
    · exact ⟨h1, rfl⟩
⟩
instance ag160 : IAG Tryz.prog 160 true := ⟨by unfold AG; kernel_rfl⟩
instance cf139 : ICF Tryz.prog 139 := ⟨fun _ _ => Tryz.call139 _ _⟩
instance fd160_0 : IFD Tryz.prog 160 0 0 := ⟨by unfold FD; kernel_rfl⟩
instance ag118 : IAG Tryz.prog 118 true := ⟨by unfold AG; kernel_rfl⟩
instance ty118 : ITY Tryz.prog 118 2 32 (.agg [(.int .i64 0), (.slice none 0 0)].toArray) := ⟨by unfold TY; kernel_rfl⟩
instance cf86 : ICF Tryz.prog 86 := ⟨fun _ _ => Tryz.call86 _ _⟩
instance fd118_1 : IFD Tryz.prog 118 1 1 := ⟨by unfold FD; kernel_rfl⟩
instance fd160_1 : IFD Tryz.prog 160 1 2 := ⟨by unfold FD; kernel_rfl⟩
instance fd34_6 : IFD Tryz.prog 34 6 8 := ⟨by unfold FD; kernel_rfl⟩
instance ag31 : IAG Tryz.prog 31 false := ⟨by unfold AG; kernel_rfl⟩
instance cf36 : ICF Tryz.prog 36 := ⟨fun _ _ => Tryz.call36 _ _⟩
instance sl31 : ISL Tryz.prog 31 118 := ⟨by unfold SL; kernel_rfl⟩
def rd118 (H : AHeap) (v : Value) (a : Access) : Prop := ∃ v0 : Sv, v = .agg [(.int .i64 a.Method), v0.v].toArray ∧ (RdS 3 rdInt) H v0.v a.Values
instance : Mono rd118 := ⟨fun h hi => by
  obtain ⟨v0, h, h0⟩ := h
  exact ⟨v0, h, Mono.up h0 hi⟩⟩
instance : Cells rd118 2 := ⟨fun h => by
  obtain ⟨v0, rfl, h0⟩ := h
  exact ⟨rfl, rfl⟩⟩
def ul118_0_118 (a : Access) (p : Sv) : List Value := [(.int .i64 a.Method), p.v]
theorem la118_0_118 {a : Access} : ∀ H e, rd118 H e a → ∃ i : Sv, 0 + 2 ≤ e.cells.size ∧ (e.cells.toList.drop 0).take 2 = ul118_0_118 a i ∧ ∀ c ∈ ([crd (RdS 3 rdInt) i.v a.Values] : List Comp), c.P H ∧ c.F = [] := by
  intro H e h
  obtain ⟨v0, rfl, h0⟩ := h
  refine ⟨v0, Nat.le_of_ble_eq_true rfl, rfl, fun c hc => by
    simp only [List.mem_cons, List.not_mem_nil, or_false] at hc
    rcases hc with rfl
    · exact ⟨h0, rfl⟩
⟩
instance fd34_7 : IFD Tryz.prog 34 7 9 := ⟨by unfold FD; kernel_rfl⟩
instance fd34_9 : IFD Tryz.prog 34 9 11 := ⟨by unfold FD; kernel_rfl⟩
instance ag32 : IAG Tryz.prog 32 false := ⟨by unfold AG; kernel_rfl⟩
instance cf37 : ICF Tryz.prog 37 := ⟨fun _ _ => Tryz.call37 _ _⟩
instance sl32 : ISL Tryz.prog 32 120 := ⟨by unfold SL; kernel_rfl⟩
instance ty120 : ITY Tryz.prog 120 1 24 (.slice none 0 0) := ⟨by unfold TY; kernel_rfl⟩
theorem lv120_0 {a : List (List Int)} : ∀ H e, (RdS 22 (RdS 3 rdInt)) H e a → ∃ w : Sv, e.cells.toList[0]? = some w.v ∧ (RdS 22 (RdS 3 rdInt)) H w.v a := by
  intro H e h
  obtain ⟨a0, m, rfl⟩ := RdS.len h
  exact ⟨⟨a0, _, m⟩, rfl, h⟩
instance ag120 : IAG Tryz.prog 120 false := ⟨by unfold AG; kernel_rfl⟩
instance cf87 : ICF Tryz.prog 87 := ⟨fun _ _ => Tryz.call87 _ _⟩
instance sl120 : ISL Tryz.prog 120 22 := ⟨by unfold SL; kernel_rfl⟩
instance ty22 : ITY Tryz.prog 22 1 24 (.slice none 0 0) := ⟨by unfold TY; kernel_rfl⟩
theorem lv22_0 {a : List Int} : ∀ H e, (RdS 3 rdInt) H e a → ∃ w : Sv, e.cells.toList[0]? = some w.v ∧ (RdS 3 rdInt) H w.v a := by
  intro H e h
  obtain ⟨a0, m, rfl⟩ := RdS.len h
  exact ⟨⟨a0, _, m⟩, rfl, h⟩
instance cf10 : ICF Tryz.prog 10 := ⟨fun _ _ => Tryz.call10 _ _⟩
instance ty49 : ITY Tryz.prog 49 12 224 (.agg [(.slice none 0 0), (.slice none 0 0), (.slice none 0 0), (.slice none 0 0), (.int .i64 0), (.slice none 0 0), (.int .i64 0), (.int .i64 0), (.slice none 0 0), (.slice none 0 0), (.int .i64 0), (.slice none 0 0)].toArray) := ⟨by unfold TY; kernel_rfl⟩
instance cf42 : ICF Tryz.prog 42 := ⟨fun _ _ => Tryz.call42 _ _⟩
instance ty3 : ITY Tryz.prog 3 1 8 (.int .i64 0) := ⟨by unfold TY; kernel_rfl⟩
theorem ls3_0 {a : Int} : ∀ H e, rdInt H e a → e.cells.toList[0]? = some (.int .i64 a) := by
  intro H e h
  subst h
  rfl
instance ag3 : IAG Tryz.prog 3 false := ⟨by unfold AG; kernel_rfl⟩
instance fd49_0 : IFD Tryz.prog 49 0 0 := ⟨by unfold FD; kernel_rfl⟩
instance cf43 : ICF Tryz.prog 43 := ⟨fun _ _ => Tryz.call43 _ _⟩
instance sl39 : ISL Tryz.prog 39 53 := ⟨by unfold SL; kernel_rfl⟩
instance ty53 : ITY Tryz.prog 53 5 56 (.agg [(.int .i64 0), (.slice none 0 0), (.int .i64 0), (.int .i64 0), (.int .i64 0)].toArray) := ⟨by unfold TY; kernel_rfl⟩
def rd53 (H : AHeap) (v : Value) (a : Method) : Prop := ∃ v0 : Sv, v = .agg [(.int .i64 a.Rel), v0.v, (.int .i64 a.Limit), (.int .i64 a.Cost), (.int .i64 a.Quota)].toArray ∧ (RdS 3 rdInt) H v0.v a.Inputs
instance : Mono rd53 := ⟨fun h hi => by
  obtain ⟨v0, h, h0⟩ := h
  exact ⟨v0, h, Mono.up h0 hi⟩⟩
instance : Cells rd53 5 := ⟨fun h => by
  obtain ⟨v0, rfl, h0⟩ := h
  exact ⟨rfl, rfl⟩⟩
def ow53 : ORel Method := fun F H v a => ∃ (v0 : Sv) (F0 : List Nat), v = .agg [(.int .i64 a.Rel), v0.v, (.int .i64 a.Limit), (.int .i64 a.Cost), (.int .i64 a.Quota)].toArray ∧ F0 = F ∧ (OwnS 3 (roE rdInt)) F0 H v0.v a.Inputs
instance : Keep ow53 := ⟨fun h hi hg => by
  obtain ⟨v0, F0, rfl, rfl, h0⟩ := h
  exact ⟨v0, F0, rfl, rfl, Keep.keep h0 hi (fun k hk => hg k (by simp [hk]))⟩⟩
instance : Local ow53 := ⟨fun h hg => by
  obtain ⟨v0, F0, rfl, rfl, h0⟩ := h
  exact ⟨v0, F0, rfl, rfl, Local.keep h0 (fun k hk => hg k (by simp [hk]))⟩⟩
instance : Owns ow53 := ⟨fun h k hk => by
  obtain ⟨v0, F0, rfl, rfl, h0⟩ := h
  exact Owns.owns h0 k hk
⟩
instance : OCells ow53 5 := ⟨fun h => by
  obtain ⟨v0, F0, rfl, rfl, h0⟩ := h
  exact ⟨rfl, rfl⟩⟩
instance : Frz ow53 rd53 := ⟨fun h hg => by
  obtain ⟨v0, F0, rfl, rfl, h0⟩ := h
  exact ⟨v0, rfl, Frz.frz h0 (fun k hk => hg k (by simp [hk]))⟩⟩
instance cf11 : ICF Tryz.prog 11 := ⟨fun _ _ => Tryz.call11 _ _⟩
instance fd36_0 : IFD Tryz.prog 36 0 0 := ⟨by unfold FD; kernel_rfl⟩
instance fd53_0 : IFD Tryz.prog 53 0 0 := ⟨by unfold FD; kernel_rfl⟩
instance fd53_1 : IFD Tryz.prog 53 1 1 := ⟨by unfold FD; kernel_rfl⟩
instance fd36_2 : IFD Tryz.prog 36 2 2 := ⟨by unfold FD; kernel_rfl⟩
instance fd53_2 : IFD Tryz.prog 53 2 2 := ⟨by unfold FD; kernel_rfl⟩
instance fd36_3 : IFD Tryz.prog 36 3 3 := ⟨by unfold FD; kernel_rfl⟩
instance fd53_3 : IFD Tryz.prog 53 3 3 := ⟨by unfold FD; kernel_rfl⟩
instance fd36_4 : IFD Tryz.prog 36 4 4 := ⟨by unfold FD; kernel_rfl⟩
instance fd53_4 : IFD Tryz.prog 53 4 4 := ⟨by unfold FD; kernel_rfl⟩
instance ag53 : IAG Tryz.prog 53 true := ⟨by unfold AG; kernel_rfl⟩
theorem mk53 {a : Method} {v0 : Sv} {F0 : List Nat} : Mk ow53 F0 (.agg [(.int .i64 a.Rel), v0.v, (.int .i64 a.Limit), (.int .i64 a.Cost), (.int .i64 a.Quota)].toArray) a [cown (OwnS 3 (roE rdInt)) F0 v0.v a.Inputs] :=
  ⟨fun H h => ⟨v0, F0, rfl, rfl, h (cown (OwnS 3 (roE rdInt)) F0 v0.v a.Inputs) (by simp)⟩, by simp [cown]⟩
instance fd49_1 : IFD Tryz.prog 49 1 1 := ⟨by unfold FD; kernel_rfl⟩
instance ty39 : ITY Tryz.prog 39 1 24 (.slice none 0 0) := ⟨by unfold TY; kernel_rfl⟩
instance cf44 : ICF Tryz.prog 44 := ⟨fun _ _ => Tryz.call44 _ _⟩
instance sl40 : ISL Tryz.prog 40 64 := ⟨by unfold SL; kernel_rfl⟩
instance ty64 : ITY Tryz.prog 64 3 40 (.agg [(.int .i64 0), (.int .i64 0), (.slice none 0 0)].toArray) := ⟨by unfold TY; kernel_rfl⟩
def rd64 (H : AHeap) (v : Value) (a : Rule) : Prop := ∃ v0 : Sv, v = .agg [(.int .i64 a.From), (.int .i64 a.To), v0.v].toArray ∧ (RdS 3 rdInt) H v0.v a.Map
instance : Mono rd64 := ⟨fun h hi => by
  obtain ⟨v0, h, h0⟩ := h
  exact ⟨v0, h, Mono.up h0 hi⟩⟩
instance : Cells rd64 3 := ⟨fun h => by
  obtain ⟨v0, rfl, h0⟩ := h
  exact ⟨rfl, rfl⟩⟩
def ow64 : ORel Rule := fun F H v a => ∃ (v0 : Sv) (F0 : List Nat), v = .agg [(.int .i64 a.From), (.int .i64 a.To), v0.v].toArray ∧ F0 = F ∧ (OwnS 3 (roE rdInt)) F0 H v0.v a.Map
instance : Keep ow64 := ⟨fun h hi hg => by
  obtain ⟨v0, F0, rfl, rfl, h0⟩ := h
  exact ⟨v0, F0, rfl, rfl, Keep.keep h0 hi (fun k hk => hg k (by simp [hk]))⟩⟩
instance : Local ow64 := ⟨fun h hg => by
  obtain ⟨v0, F0, rfl, rfl, h0⟩ := h
  exact ⟨v0, F0, rfl, rfl, Local.keep h0 (fun k hk => hg k (by simp [hk]))⟩⟩
instance : Owns ow64 := ⟨fun h k hk => by
  obtain ⟨v0, F0, rfl, rfl, h0⟩ := h
  exact Owns.owns h0 k hk
⟩
instance : OCells ow64 3 := ⟨fun h => by
  obtain ⟨v0, F0, rfl, rfl, h0⟩ := h
  exact ⟨rfl, rfl⟩⟩
instance : Frz ow64 rd64 := ⟨fun h hg => by
  obtain ⟨v0, F0, rfl, rfl, h0⟩ := h
  exact ⟨v0, rfl, Frz.frz h0 (fun k hk => hg k (by simp [hk]))⟩⟩
instance cf20 : ICF Tryz.prog 20 := ⟨fun _ _ => Tryz.call20 _ _⟩
instance fd61_0 : IFD Tryz.prog 61 0 0 := ⟨by unfold FD; kernel_rfl⟩
instance fd64_0 : IFD Tryz.prog 64 0 0 := ⟨by unfold FD; kernel_rfl⟩
instance fd61_1 : IFD Tryz.prog 61 1 1 := ⟨by unfold FD; kernel_rfl⟩
instance fd64_1 : IFD Tryz.prog 64 1 1 := ⟨by unfold FD; kernel_rfl⟩
instance fd64_2 : IFD Tryz.prog 64 2 2 := ⟨by unfold FD; kernel_rfl⟩
instance ag64 : IAG Tryz.prog 64 true := ⟨by unfold AG; kernel_rfl⟩
theorem mk64 {a : Rule} {v0 : Sv} {F0 : List Nat} : Mk ow64 F0 (.agg [(.int .i64 a.From), (.int .i64 a.To), v0.v].toArray) a [cown (OwnS 3 (roE rdInt)) F0 v0.v a.Map] :=
  ⟨fun H h => ⟨v0, F0, rfl, rfl, h (cown (OwnS 3 (roE rdInt)) F0 v0.v a.Map) (by simp)⟩, by simp [cown]⟩
instance fd49_2 : IFD Tryz.prog 49 2 2 := ⟨by unfold FD; kernel_rfl⟩
instance ty40 : ITY Tryz.prog 40 1 24 (.slice none 0 0) := ⟨by unfold TY; kernel_rfl⟩
instance cf45 : ICF Tryz.prog 45 := ⟨fun _ _ => Tryz.call45 _ _⟩
instance ty43 : ITY Tryz.prog 43 2 32 (.agg [(.slice none 0 0), (.int .i64 0)].toArray) := ⟨by unfold TY; kernel_rfl⟩
instance cf99 : ICF Tryz.prog 99 := ⟨fun _ _ => Tryz.call99 _ _⟩
instance sl41 : ISL Tryz.prog 41 113 := ⟨by unfold SL; kernel_rfl⟩
instance ty113 : ITY Tryz.prog 113 2 32 (.agg [(.int .i64 0), (.slice none 0 0)].toArray) := ⟨by unfold TY; kernel_rfl⟩
def rd113 (H : AHeap) (v : Value) (a : Fact) : Prop := ∃ v0 : Sv, v = .agg [(.int .i64 a.Rel), v0.v].toArray ∧ (RdS 3 rdInt) H v0.v a.Values
instance : Mono rd113 := ⟨fun h hi => by
  obtain ⟨v0, h, h0⟩ := h
  exact ⟨v0, h, Mono.up h0 hi⟩⟩
instance : Cells rd113 2 := ⟨fun h => by
  obtain ⟨v0, rfl, h0⟩ := h
  exact ⟨rfl, rfl⟩⟩
def ow113 : ORel Fact := fun F H v a => ∃ (v0 : Sv) (F0 : List Nat), v = .agg [(.int .i64 a.Rel), v0.v].toArray ∧ F0 = F ∧ (OwnS 3 (roE rdInt)) F0 H v0.v a.Values
instance : Keep ow113 := ⟨fun h hi hg => by
  obtain ⟨v0, F0, rfl, rfl, h0⟩ := h
  exact ⟨v0, F0, rfl, rfl, Keep.keep h0 hi (fun k hk => hg k (by simp [hk]))⟩⟩
instance : Local ow113 := ⟨fun h hg => by
  obtain ⟨v0, F0, rfl, rfl, h0⟩ := h
  exact ⟨v0, F0, rfl, rfl, Local.keep h0 (fun k hk => hg k (by simp [hk]))⟩⟩
instance : Owns ow113 := ⟨fun h k hk => by
  obtain ⟨v0, F0, rfl, rfl, h0⟩ := h
  exact Owns.owns h0 k hk
⟩
instance : OCells ow113 2 := ⟨fun h => by
  obtain ⟨v0, F0, rfl, rfl, h0⟩ := h
  exact ⟨rfl, rfl⟩⟩
instance : Frz ow113 rd113 := ⟨fun h hg => by
  obtain ⟨v0, F0, rfl, rfl, h0⟩ := h
  exact ⟨v0, rfl, Frz.frz h0 (fun k hk => hg k (by simp [hk]))⟩⟩
instance cf145 : ICF Tryz.prog 145 := ⟨fun _ _ => Tryz.call145 _ _⟩
instance fd157_0 : IFD Tryz.prog 157 0 0 := ⟨by unfold FD; kernel_rfl⟩
instance fd113_0 : IFD Tryz.prog 113 0 0 := ⟨by unfold FD; kernel_rfl⟩
instance fd113_1 : IFD Tryz.prog 113 1 1 := ⟨by unfold FD; kernel_rfl⟩
instance ag113 : IAG Tryz.prog 113 true := ⟨by unfold AG; kernel_rfl⟩
theorem mk113 {a : Fact} {v0 : Sv} {F0 : List Nat} : Mk ow113 F0 (.agg [(.int .i64 a.Rel), v0.v].toArray) a [cown (OwnS 3 (roE rdInt)) F0 v0.v a.Values] :=
  ⟨fun H h => ⟨v0, F0, rfl, rfl, h (cown (OwnS 3 (roE rdInt)) F0 v0.v a.Values) (by simp)⟩, by simp [cown]⟩
instance fd43_0 : IFD Tryz.prog 43 0 0 := ⟨by unfold FD; kernel_rfl⟩
instance ty41 : ITY Tryz.prog 41 1 24 (.slice none 0 0) := ⟨by unfold TY; kernel_rfl⟩
instance fd27_1 : IFD Tryz.prog 27 1 1 := ⟨by unfold FD; kernel_rfl⟩
instance fd43_1 : IFD Tryz.prog 43 1 1 := ⟨by unfold FD; kernel_rfl⟩
instance ag43 : IAG Tryz.prog 43 true := ⟨by unfold AG; kernel_rfl⟩
instance fd49_3 : IFD Tryz.prog 49 3 3 := ⟨by unfold FD; kernel_rfl⟩
instance cf46 : ICF Tryz.prog 46 := ⟨fun _ _ => Tryz.call46 _ _⟩
instance ty46 : ITY Tryz.prog 46 2 32 (.agg [(.slice none 0 0), (.int .i64 0)].toArray) := ⟨by unfold TY; kernel_rfl⟩
instance cf100 : ICF Tryz.prog 100 := ⟨fun _ _ => Tryz.call100 _ _⟩
instance sl44 : ISL Tryz.prog 44 145 := ⟨by unfold SL; kernel_rfl⟩
instance ty145 : ITY Tryz.prog 145 4 64 (.agg [(.int .i64 0), (.slice none 0 0), (.slice none 0 0), (.int .i64 0)].toArray) := ⟨by unfold TY; kernel_rfl⟩
def rd145 (H : AHeap) (v : Value) (a : Stored) : Prop := ∃ v0 v1 : Sv, v = .agg [(.int .i64 a.Access.Method), v0.v, v1.v, (.int .i64 a.At)].toArray ∧ (RdS 3 rdInt) H v0.v a.Access.Values ∧ (RdS 113 rd113) H v1.v a.Facts
instance : Mono rd145 := ⟨fun h hi => by
  obtain ⟨v0, v1, h, h0, h1⟩ := h
  exact ⟨v0, v1, h, Mono.up h0 hi, Mono.up h1 hi⟩⟩
instance : Cells rd145 4 := ⟨fun h => by
  obtain ⟨v0, v1, rfl, h0, h1⟩ := h
  exact ⟨rfl, rfl⟩⟩
def ow145 : ORel Stored := fun F H v a => ∃ (v0 v1 : Sv) (F0 F1 : List Nat), v = .agg [(.int .i64 a.Access.Method), v0.v, v1.v, (.int .i64 a.At)].toArray ∧ F = (F0 ++ F1) ∧ (OwnS 3 (roE rdInt)) F0 H v0.v a.Access.Values ∧ (OwnS 113 ow113) F1 H v1.v a.Facts
instance : Keep ow145 := ⟨fun h hi hg => by
  obtain ⟨v0, v1, F0, F1, rfl, rfl, h0, h1⟩ := h
  exact ⟨v0, v1, F0, F1, rfl, rfl, Keep.keep h0 hi (fun k hk => hg k (by simp [hk])), Keep.keep h1 hi (fun k hk => hg k (by simp [hk]))⟩⟩
instance : Local ow145 := ⟨fun h hg => by
  obtain ⟨v0, v1, F0, F1, rfl, rfl, h0, h1⟩ := h
  exact ⟨v0, v1, F0, F1, rfl, rfl, Local.keep h0 (fun k hk => hg k (by simp [hk])), Local.keep h1 (fun k hk => hg k (by simp [hk]))⟩⟩
instance : Owns ow145 := ⟨fun h k hk => by
  obtain ⟨v0, v1, F0, F1, rfl, rfl, h0, h1⟩ := h
  simp only [List.mem_append] at hk
  rcases hk with hk | hk
  · exact Owns.owns h0 k hk
  · exact Owns.owns h1 k hk
⟩
instance : OCells ow145 4 := ⟨fun h => by
  obtain ⟨v0, v1, F0, F1, rfl, rfl, h0, h1⟩ := h
  exact ⟨rfl, rfl⟩⟩
instance : Frz ow145 rd145 := ⟨fun h hg => by
  obtain ⟨v0, v1, F0, F1, rfl, rfl, h0, h1⟩ := h
  exact ⟨v0, v1, rfl, Frz.frz h0 (fun k hk => hg k (by simp [hk])), Frz.frz h1 (fun k hk => hg k (by simp [hk]))⟩⟩
instance cf146 : ICF Tryz.prog 146 := ⟨fun _ _ => Tryz.call146 _ _⟩
instance cf101 : ICF Tryz.prog 101 := ⟨fun _ _ => Tryz.call101 _ _⟩
instance ty131 : ITY Tryz.prog 131 2 32 (.agg [(.int .i64 0), (.slice none 0 0)].toArray) := ⟨by unfold TY; kernel_rfl⟩
instance fd118_0 : IFD Tryz.prog 118 0 0 := ⟨by unfold FD; kernel_rfl⟩
instance fd131_0 : IFD Tryz.prog 131 0 0 := ⟨by unfold FD; kernel_rfl⟩
instance fd131_1 : IFD Tryz.prog 131 1 1 := ⟨by unfold FD; kernel_rfl⟩
instance ag131 : IAG Tryz.prog 131 true := ⟨by unfold AG; kernel_rfl⟩
instance fd145_0 : IFD Tryz.prog 145 0 0 := ⟨by unfold FD; kernel_rfl⟩
instance fd145_1 : IFD Tryz.prog 145 1 2 := ⟨by unfold FD; kernel_rfl⟩
instance fd160_2 : IFD Tryz.prog 160 2 3 := ⟨by unfold FD; kernel_rfl⟩
instance fd145_2 : IFD Tryz.prog 145 2 3 := ⟨by unfold FD; kernel_rfl⟩
instance ag145 : IAG Tryz.prog 145 true := ⟨by unfold AG; kernel_rfl⟩
theorem mk145 {a : Stored} {v0 v1 : Sv} {F0 F1 : List Nat} : Mk ow145 (F0 ++ F1) (.agg [(.int .i64 a.Access.Method), v0.v, v1.v, (.int .i64 a.At)].toArray) a [cown (OwnS 3 (roE rdInt)) F0 v0.v a.Access.Values, cown (OwnS 113 ow113) F1 v1.v a.Facts] :=
  ⟨fun H h => ⟨v0, v1, F0, F1, rfl, rfl, h (cown (OwnS 3 (roE rdInt)) F0 v0.v a.Access.Values) (by simp), h (cown (OwnS 113 ow113) F1 v1.v a.Facts) (by simp)⟩, by simp [cown]⟩
instance fd46_0 : IFD Tryz.prog 46 0 0 := ⟨by unfold FD; kernel_rfl⟩
instance ty44 : ITY Tryz.prog 44 1 24 (.slice none 0 0) := ⟨by unfold TY; kernel_rfl⟩
instance fd30_1 : IFD Tryz.prog 30 1 1 := ⟨by unfold FD; kernel_rfl⟩
instance fd46_1 : IFD Tryz.prog 46 1 1 := ⟨by unfold FD; kernel_rfl⟩
instance ag46 : IAG Tryz.prog 46 true := ⟨by unfold AG; kernel_rfl⟩
instance fd49_4 : IFD Tryz.prog 49 4 5 := ⟨by unfold FD; kernel_rfl⟩
instance fd34_5 : IFD Tryz.prog 34 5 7 := ⟨by unfold FD; kernel_rfl⟩
instance fd49_5 : IFD Tryz.prog 49 5 7 := ⟨by unfold FD; kernel_rfl⟩
instance cf47 : ICF Tryz.prog 47 := ⟨fun _ _ => Tryz.call47 _ _⟩
instance sl47 : ISL Tryz.prog 47 131 := ⟨by unfold SL; kernel_rfl⟩
def rd131 (H : AHeap) (v : Value) (a : Access) : Prop := ∃ v0 : Sv, v = .agg [(.int .i64 a.Method), v0.v].toArray ∧ (RdS 3 rdInt) H v0.v a.Values
instance : Mono rd131 := ⟨fun h hi => by
  obtain ⟨v0, h, h0⟩ := h
  exact ⟨v0, h, Mono.up h0 hi⟩⟩
instance : Cells rd131 2 := ⟨fun h => by
  obtain ⟨v0, rfl, h0⟩ := h
  exact ⟨rfl, rfl⟩⟩
def ow131 : ORel Access := fun F H v a => ∃ (v0 : Sv) (F0 : List Nat), v = .agg [(.int .i64 a.Method), v0.v].toArray ∧ F0 = F ∧ (OwnS 3 (roE rdInt)) F0 H v0.v a.Values
instance : Keep ow131 := ⟨fun h hi hg => by
  obtain ⟨v0, F0, rfl, rfl, h0⟩ := h
  exact ⟨v0, F0, rfl, rfl, Keep.keep h0 hi (fun k hk => hg k (by simp [hk]))⟩⟩
instance : Local ow131 := ⟨fun h hg => by
  obtain ⟨v0, F0, rfl, rfl, h0⟩ := h
  exact ⟨v0, F0, rfl, rfl, Local.keep h0 (fun k hk => hg k (by simp [hk]))⟩⟩
instance : Owns ow131 := ⟨fun h k hk => by
  obtain ⟨v0, F0, rfl, rfl, h0⟩ := h
  exact Owns.owns h0 k hk
⟩
instance : OCells ow131 2 := ⟨fun h => by
  obtain ⟨v0, F0, rfl, rfl, h0⟩ := h
  exact ⟨rfl, rfl⟩⟩
instance : Frz ow131 rd131 := ⟨fun h hg => by
  obtain ⟨v0, F0, rfl, rfl, h0⟩ := h
  exact ⟨v0, rfl, Frz.frz h0 (fun k hk => hg k (by simp [hk]))⟩⟩
theorem mk131 {a : Access} {v0 : Sv} {F0 : List Nat} : Mk ow131 F0 (.agg [(.int .i64 a.Method), v0.v].toArray) a [cown (OwnS 3 (roE rdInt)) F0 v0.v a.Values] :=
  ⟨fun H h => ⟨v0, F0, rfl, rfl, h (cown (OwnS 3 (roE rdInt)) F0 v0.v a.Values) (by simp)⟩, by simp [cown]⟩
instance fd49_6 : IFD Tryz.prog 49 6 8 := ⟨by unfold FD; kernel_rfl⟩
instance ty47 : ITY Tryz.prog 47 1 24 (.slice none 0 0) := ⟨by unfold TY; kernel_rfl⟩
instance fd49_7 : IFD Tryz.prog 49 7 9 := ⟨by unfold FD; kernel_rfl⟩
instance fd34_8 : IFD Tryz.prog 34 8 10 := ⟨by unfold FD; kernel_rfl⟩
instance fd49_8 : IFD Tryz.prog 49 8 10 := ⟨by unfold FD; kernel_rfl⟩
instance cf48 : ICF Tryz.prog 48 := ⟨fun _ _ => Tryz.call48 _ _⟩
instance cf102 : ICF Tryz.prog 102 := ⟨fun _ _ => Tryz.call102 _ _⟩
instance fd49_9 : IFD Tryz.prog 49 9 11 := ⟨by unfold FD; kernel_rfl⟩
instance ty32 : ITY Tryz.prog 32 1 24 (.slice none 0 0) := ⟨by unfold TY; kernel_rfl⟩
instance ag49 : IAG Tryz.prog 49 true := ⟨by unfold AG; kernel_rfl⟩
instance cf26 : ICF Tryz.prog 26 := ⟨fun _ _ => Tryz.call26 _ _⟩
instance cf39 : ICF Tryz.prog 39 := ⟨fun _ _ => Tryz.call39 _ _⟩
instance cf92 : ICF Tryz.prog 92 := ⟨fun _ _ => Tryz.call92 _ _⟩
instance cf77 : ICF Tryz.prog 77 := ⟨fun _ _ => Tryz.call77 _ _⟩
instance ag39 : IAG Tryz.prog 39 false := ⟨by unfold AG; kernel_rfl⟩
instance cf93 : ICF Tryz.prog 93 := ⟨fun _ _ => Tryz.call93 _ _⟩
def ul53_0_53 (a : Method) (p : Sv) : List Value := [(.int .i64 a.Rel), p.v, (.int .i64 a.Limit), (.int .i64 a.Cost), (.int .i64 a.Quota)]
theorem la53_0_53 {a : Method} : ∀ H e, rd53 H e a → ∃ i : Sv, 0 + 5 ≤ e.cells.size ∧ (e.cells.toList.drop 0).take 5 = ul53_0_53 a i ∧ ∀ c ∈ ([crd (RdS 3 rdInt) i.v a.Inputs] : List Comp), c.P H ∧ c.F = [] := by
  intro H e h
  obtain ⟨v0, rfl, h0⟩ := h
  refine ⟨v0, Nat.le_of_ble_eq_true rfl, rfl, fun c hc => by
    simp only [List.mem_cons, List.not_mem_nil, or_false] at hc
    rcases hc with rfl
    · exact ⟨h0, rfl⟩
⟩
instance cf40 : ICF Tryz.prog 40 := ⟨fun _ _ => Tryz.call40 _ _⟩
theorem mixed : Tryz.prog.follows .mixedOrders = true := by kernel_rfl
instance ag40 : IAG Tryz.prog 40 false := ⟨by unfold AG; kernel_rfl⟩
instance cf94 : ICF Tryz.prog 94 := ⟨fun _ _ => Tryz.call94 _ _⟩
def ul64_0_64 (a : Rule) (p : Sv) : List Value := [(.int .i64 a.From), (.int .i64 a.To), p.v]
theorem la64_0_64 {a : Rule} : ∀ H e, rd64 H e a → ∃ i : Sv, 0 + 3 ≤ e.cells.size ∧ (e.cells.toList.drop 0).take 3 = ul64_0_64 a i ∧ ∀ c ∈ ([crd (RdS 3 rdInt) i.v a.Map] : List Comp), c.P H ∧ c.F = [] := by
  intro H e h
  obtain ⟨v0, rfl, h0⟩ := h
  refine ⟨v0, Nat.le_of_ble_eq_true rfl, rfl, fun c hc => by
    simp only [List.mem_cons, List.not_mem_nil, or_false] at hc
    rcases hc with rfl
    · exact ⟨h0, rfl⟩
⟩
instance cf74 : ICF Tryz.prog 74 := ⟨fun _ _ => Tryz.call74 _ _⟩
instance cf95 : ICF Tryz.prog 95 := ⟨fun _ _ => Tryz.call95 _ _⟩
instance ag41 : IAG Tryz.prog 41 false := ⟨by unfold AG; kernel_rfl⟩
instance cf142 : ICF Tryz.prog 142 := ⟨fun _ _ => Tryz.call142 _ _⟩
def ul113_0_113 (a : Fact) (p : Sv) : List Value := [(.int .i64 a.Rel), p.v]
theorem la113_0_113 {a : Fact} : ∀ H e, rd113 H e a → ∃ i : Sv, 0 + 2 ≤ e.cells.size ∧ (e.cells.toList.drop 0).take 2 = ul113_0_113 a i ∧ ∀ c ∈ ([crd (RdS 3 rdInt) i.v a.Values] : List Comp), c.P H ∧ c.F = [] := by
  intro H e h
  obtain ⟨v0, rfl, h0⟩ := h
  refine ⟨v0, Nat.le_of_ble_eq_true rfl, rfl, fun c hc => by
    simp only [List.mem_cons, List.not_mem_nil, or_false] at hc
    rcases hc with rfl
    · exact ⟨h0, rfl⟩
⟩
instance cf178 : ICF Tryz.prog 178 := ⟨fun _ _ => Tryz.call178 _ _⟩
instance cf169 : ICF Tryz.prog 169 := ⟨fun _ _ => Tryz.call169 _ _⟩
instance cf96 : ICF Tryz.prog 96 := ⟨fun _ _ => Tryz.call96 _ _⟩
instance ag44 : IAG Tryz.prog 44 false := ⟨by unfold AG; kernel_rfl⟩
def ul145_0_145 (a : Stored) (p : Sv × Sv) : List Value := [(.int .i64 a.Access.Method), p.1.v, p.2.v, (.int .i64 a.At)]
theorem la145_0_145 {a : Stored} : ∀ H e, rd145 H e a → ∃ i : Sv × Sv, 0 + 4 ≤ e.cells.size ∧ (e.cells.toList.drop 0).take 4 = ul145_0_145 a i ∧ ∀ c ∈ ([crd (RdS 3 rdInt) i.1.v a.Access.Values, crd (RdS 113 rd113) i.2.v a.Facts] : List Comp), c.P H ∧ c.F = [] := by
  intro H e h
  obtain ⟨v0, v1, rfl, h0, h1⟩ := h
  refine ⟨(v0, v1), Nat.le_of_ble_eq_true rfl, rfl, fun c hc => by
    simp only [List.mem_cons, List.not_mem_nil, or_false] at hc
    rcases hc with rfl | rfl
    · exact ⟨h0, rfl⟩
    · exact ⟨h1, rfl⟩
⟩
instance cf97 : ICF Tryz.prog 97 := ⟨fun _ _ => Tryz.call97 _ _⟩
theorem lv53_1 {a : Method} : ∀ H e, rd53 H e a → ∃ w : Sv, e.cells.toList[1]? = some w.v ∧ (RdS 3 rdInt) H w.v a.Inputs := by
  intro H e h
  obtain ⟨v0, rfl, h0⟩ := h
  exact ⟨v0, rfl, h0⟩
def ul145_0_131 (a : Stored) (p : Sv) : List Value := [(.int .i64 a.Access.Method), p.v]
theorem la145_0_131 {a : Stored} : ∀ H e, rd145 H e a → ∃ i : Sv, 0 + 2 ≤ e.cells.size ∧ (e.cells.toList.drop 0).take 2 = ul145_0_131 a i ∧ ∀ c ∈ ([crd (RdS 3 rdInt) i.v a.Access.Values] : List Comp), c.P H ∧ c.F = [] := by
  intro H e h
  obtain ⟨v0, v1, rfl, h0, h1⟩ := h
  refine ⟨v0, Nat.le_of_ble_eq_true rfl, rfl, fun c hc => by
    simp only [List.mem_cons, List.not_mem_nil, or_false] at hc
    rcases hc with rfl
    · exact ⟨h0, rfl⟩
⟩
instance cf143 : ICF Tryz.prog 143 := ⟨fun _ _ => Tryz.call143 _ _⟩
instance cf179 : ICF Tryz.prog 179 := ⟨fun _ _ => Tryz.call179 _ _⟩
instance cf144 : ICF Tryz.prog 144 := ⟨fun _ _ => Tryz.call144 _ _⟩
instance ag47 : IAG Tryz.prog 47 false := ⟨by unfold AG; kernel_rfl⟩
instance cf98 : ICF Tryz.prog 98 := ⟨fun _ _ => Tryz.call98 _ _⟩
def ul131_0_131 (a : Access) (p : Sv) : List Value := [(.int .i64 a.Method), p.v]
theorem la131_0_131 {a : Access} : ∀ H e, rd131 H e a → ∃ i : Sv, 0 + 2 ≤ e.cells.size ∧ (e.cells.toList.drop 0).take 2 = ul131_0_131 a i ∧ ∀ c ∈ ([crd (RdS 3 rdInt) i.v a.Values] : List Comp), c.P H ∧ c.F = [] := by
  intro H e h
  obtain ⟨v0, rfl, h0⟩ := h
  refine ⟨v0, Nat.le_of_ble_eq_true rfl, rfl, fun c hc => by
    simp only [List.mem_cons, List.not_mem_nil, or_false] at hc
    rcases hc with rfl
    · exact ⟨h0, rfl⟩
⟩
instance cf81 : ICF Tryz.prog 81 := ⟨fun _ _ => Tryz.call81 _ _⟩
theorem ls64_0 {a : Rule} : ∀ H e, rd64 H e a → e.cells.toList[0]? = some (.int .i64 a.From) := by
  intro H e h
  obtain ⟨_, rfl, _⟩ := h
  rfl
theorem ls113_0 {a : Fact} : ∀ H e, rd113 H e a → e.cells.toList[0]? = some (.int .i64 a.Rel) := by
  intro H e h
  obtain ⟨_, rfl, _⟩ := h
  rfl
instance cf132 : ICF Tryz.prog 132 := ⟨fun _ _ => Tryz.call132 _ _⟩
theorem ni22 : NotInt Tryz.prog 22 := .inr ⟨3, by kernel_rfl⟩
instance cf133 : ICF Tryz.prog 133 := ⟨fun _ _ => Tryz.call133 _ _⟩
instance cf134 : ICF Tryz.prog 134 := ⟨fun _ _ => Tryz.call134 _ _⟩
instance cf170 : ICF Tryz.prog 170 := ⟨fun _ _ => Tryz.call170 _ _⟩
theorem ni41 : NotInt Tryz.prog 41 := .inr ⟨113, by kernel_rfl⟩
theorem lv113_1 {a : Fact} : ∀ H e, rd113 H e a → ∃ w : Sv, e.cells.toList[1]? = some w.v ∧ (RdS 3 rdInt) H w.v a.Values := by
  intro H e h
  obtain ⟨v0, rfl, h0⟩ := h
  exact ⟨v0, rfl, h0⟩
instance cf27 : ICF Tryz.prog 27 := ⟨fun _ _ => Tryz.call27 _ _⟩
instance cf50 : ICF Tryz.prog 50 := ⟨fun _ _ => Tryz.call50 _ _⟩
instance cf108 : ICF Tryz.prog 108 := ⟨fun _ _ => Tryz.call108 _ _⟩
instance cf150 : ICF Tryz.prog 150 := ⟨fun _ _ => Tryz.call150 _ _⟩
instance cf79 : ICF Tryz.prog 79 := ⟨fun _ _ => Tryz.call79 _ _⟩
instance cf161 : ICF Tryz.prog 161 := ⟨fun _ _ => Tryz.call161 _ _⟩
instance cf191 : ICF Tryz.prog 191 := ⟨fun _ _ => Tryz.call191 _ _⟩
instance cf180 : ICF Tryz.prog 180 := ⟨fun _ _ => Tryz.call180 _ _⟩
instance cf151 : ICF Tryz.prog 151 := ⟨fun _ _ => Tryz.call151 _ _⟩
instance cf181 : ICF Tryz.prog 181 := ⟨fun _ _ => Tryz.call181 _ _⟩
instance cf152 : ICF Tryz.prog 152 := ⟨fun _ _ => Tryz.call152 _ _⟩
instance cf51 : ICF Tryz.prog 51 := ⟨fun _ _ => Tryz.call51 _ _⟩
instance cf117 : ICF Tryz.prog 117 := ⟨fun _ _ => Tryz.call117 _ _⟩
instance cf118 : ICF Tryz.prog 118 := ⟨fun _ _ => Tryz.call118 _ _⟩
instance cf163 : ICF Tryz.prog 163 := ⟨fun _ _ => Tryz.call163 _ _⟩
instance cf164 : ICF Tryz.prog 164 := ⟨fun _ _ => Tryz.call164 _ _⟩
instance cf165 : ICF Tryz.prog 165 := ⟨fun _ _ => Tryz.call165 _ _⟩
instance cf109 : ICF Tryz.prog 109 := ⟨fun _ _ => Tryz.call109 _ _⟩
instance cf153 : ICF Tryz.prog 153 := ⟨fun _ _ => Tryz.call153 _ _⟩
instance cf182 : ICF Tryz.prog 182 := ⟨fun _ _ => Tryz.call182 _ _⟩
instance cf154 : ICF Tryz.prog 154 := ⟨fun _ _ => Tryz.call154 _ _⟩
instance cf75 : ICF Tryz.prog 75 := ⟨fun _ _ => Tryz.call75 _ _⟩
instance cf126 : ICF Tryz.prog 126 := ⟨fun _ _ => Tryz.call126 _ _⟩
instance cf167 : ICF Tryz.prog 167 := ⟨fun _ _ => Tryz.call167 _ _⟩
instance cf110 : ICF Tryz.prog 110 := ⟨fun _ _ => Tryz.call110 _ _⟩
instance cf155 : ICF Tryz.prog 155 := ⟨fun _ _ => Tryz.call155 _ _⟩
instance cf183 : ICF Tryz.prog 183 := ⟨fun _ _ => Tryz.call183 _ _⟩
instance cf159 : ICF Tryz.prog 159 := ⟨fun _ _ => Tryz.call159 _ _⟩
instance cf188 : ICF Tryz.prog 188 := ⟨fun _ _ => Tryz.call188 _ _⟩
instance cf189 : ICF Tryz.prog 189 := ⟨fun _ _ => Tryz.call189 _ _⟩
instance cf173 : ICF Tryz.prog 173 := ⟨fun _ _ => Tryz.call173 _ _⟩
instance cf186 : ICF Tryz.prog 186 := ⟨fun _ _ => Tryz.call186 _ _⟩
instance cf196 : ICF Tryz.prog 196 := ⟨fun _ _ => Tryz.call196 _ _⟩
instance cf187 : ICF Tryz.prog 187 := ⟨fun _ _ => Tryz.call187 _ _⟩
instance cf185 : ICF Tryz.prog 185 := ⟨fun _ _ => Tryz.call185 _ _⟩
instance cf111 : ICF Tryz.prog 111 := ⟨fun _ _ => Tryz.call111 _ _⟩
instance cf156 : ICF Tryz.prog 156 := ⟨fun _ _ => Tryz.call156 _ _⟩
instance cf115 : ICF Tryz.prog 115 := ⟨fun _ _ => Tryz.call115 _ _⟩
instance cf184 : ICF Tryz.prog 184 := ⟨fun _ _ => Tryz.call184 _ _⟩
instance cf147 : ICF Tryz.prog 147 := ⟨fun _ _ => Tryz.call147 _ _⟩
instance cf177 : ICF Tryz.prog 177 := ⟨fun _ _ => Tryz.call177 _ _⟩
instance cf52 : ICF Tryz.prog 52 := ⟨fun _ _ => Tryz.call52 _ _⟩
instance cf194 : ICF Tryz.prog 194 := ⟨fun _ _ => Tryz.call194 _ _⟩
instance cf195 : ICF Tryz.prog 195 := ⟨fun _ _ => Tryz.call195 _ _⟩
instance cf174 : ICF Tryz.prog 174 := ⟨fun _ _ => Tryz.call174 _ _⟩
instance cf112 : ICF Tryz.prog 112 := ⟨fun _ _ => Tryz.call112 _ _⟩
instance cf157 : ICF Tryz.prog 157 := ⟨fun _ _ => Tryz.call157 _ _⟩
instance cf113 : ICF Tryz.prog 113 := ⟨fun _ _ => Tryz.call113 _ _⟩
instance cf158 : ICF Tryz.prog 158 := ⟨fun _ _ => Tryz.call158 _ _⟩
instance cf114 : ICF Tryz.prog 114 := ⟨fun _ _ => Tryz.call114 _ _⟩
instance cf116 : ICF Tryz.prog 116 := ⟨fun _ _ => Tryz.call116 _ _⟩
instance cf160 : ICF Tryz.prog 160 := ⟨fun _ _ => Tryz.call160 _ _⟩
instance cf190 : ICF Tryz.prog 190 := ⟨fun _ _ => Tryz.call190 _ _⟩
instance cf162 : ICF Tryz.prog 162 := ⟨fun _ _ => Tryz.call162 _ _⟩
instance cf82 : ICF Tryz.prog 82 := ⟨fun _ _ => Tryz.call82 _ _⟩
instance cf135 : ICF Tryz.prog 135 := ⟨fun _ _ => Tryz.call135 _ _⟩
instance cf136 : ICF Tryz.prog 136 := ⟨fun _ _ => Tryz.call136 _ _⟩
instance cf171 : ICF Tryz.prog 171 := ⟨fun _ _ => Tryz.call171 _ _⟩
instance cf172 : ICF Tryz.prog 172 := ⟨fun _ _ => Tryz.call172 _ _⟩
instance cf137 : ICF Tryz.prog 137 := ⟨fun _ _ => Tryz.call137 _ _⟩
instance cf175 : ICF Tryz.prog 175 := ⟨fun _ _ => Tryz.call175 _ _⟩
instance cf176 : ICF Tryz.prog 176 := ⟨fun _ _ => Tryz.call176 _ _⟩
theorem hov192 : ∀ args w, (callFunc 192 args).run Tryz.prog w = ((Extern.SlicesOverlaps.overlaps #[41, 41] #[4] args).run Tryz.prog w).andThen fun v w' => .ok (.value v) w' := fun args w => run_callFunc_extern Tryz.func192 (by kernel_rfl) (by kernel_rfl) (by kernel_rfl) (e := Extern.SlicesOverlaps.overlaps #[41, 41] #[4]) (by kernel_rfl) args w
theorem ik3 : IK Tryz.prog 3 .i64 := by unfold IK; kernel_rfl
instance cf28 : ICF Tryz.prog 28 := ⟨fun _ _ => Tryz.call28 _ _⟩
instance cf83 : ICF Tryz.prog 83 := ⟨fun _ _ => Tryz.call83 _ _⟩
instance cf53 : ICF Tryz.prog 53 := ⟨fun _ _ => Tryz.call53 _ _⟩
instance cf13 : ICF Tryz.prog 13 := ⟨fun _ _ => Tryz.call13 _ _⟩
instance cf54 : ICF Tryz.prog 54 := ⟨fun _ _ => Tryz.call54 _ _⟩
instance cf14 : ICF Tryz.prog 14 := ⟨fun _ _ => Tryz.call14 _ _⟩
instance cf55 : ICF Tryz.prog 55 := ⟨fun _ _ => Tryz.call55 _ _⟩
instance cf22 : ICF Tryz.prog 22 := ⟨fun _ _ => Tryz.call22 _ _⟩
instance cf56 : ICF Tryz.prog 56 := ⟨fun _ _ => Tryz.call56 _ _⟩
instance cf57 : ICF Tryz.prog 57 := ⟨fun _ _ => Tryz.call57 _ _⟩
instance cf119 : ICF Tryz.prog 119 := ⟨fun _ _ => Tryz.call119 _ _⟩
instance cf166 : ICF Tryz.prog 166 := ⟨fun _ _ => Tryz.call166 _ _⟩
instance cf120 : ICF Tryz.prog 120 := ⟨fun _ _ => Tryz.call120 _ _⟩
instance cf58 : ICF Tryz.prog 58 := ⟨fun _ _ => Tryz.call58 _ _⟩
instance cf59 : ICF Tryz.prog 59 := ⟨fun _ _ => Tryz.call59 _ _⟩
instance cf121 : ICF Tryz.prog 121 := ⟨fun _ _ => Tryz.call121 _ _⟩
instance cf15 : ICF Tryz.prog 15 := ⟨fun _ _ => Tryz.call15 _ _⟩
instance cf60 : ICF Tryz.prog 60 := ⟨fun _ _ => Tryz.call60 _ _⟩
instance cf61 : ICF Tryz.prog 61 := ⟨fun _ _ => Tryz.call61 _ _⟩
theorem sf53_0 {a : Method} {d : Int} : ∀ F H e, ow53 F H e a → ow53 F H (setPart e 0 (Value.cells (.int .i64 d)).toList) { a with Rel := d } := by
  intro F H e h
  obtain ⟨v0, F0, rfl, rfl, h0⟩ := h
  exact ⟨v0, F0, rfl, rfl, h0⟩
theorem fsf53_0 {a : Method} : ∀ F H e, ow53 F H e a → 0 + 1 ≤ e.cells.size := by
  intro F H e h
  obtain ⟨v0, F0, rfl, rfl, h0⟩ := h
  exact Nat.le_of_ble_eq_true rfl
theorem pt53_1 : Part ow53 1 (OwnS 3 (roE rdInt)) (fun a : Method => a.Inputs) (fun a d => { a with Inputs := d }) := ⟨fun {F H e a} h => by
  obtain ⟨v0, F0, rfl, rfl, h0⟩ := h
  exact ⟨v0, [], F0, [], rfl, by simp, h0, fun hi hk h' => ⟨v0, _, rfl, by simp, h'⟩⟩⟩
theorem sf53_2 {a : Method} {d : Int} : ∀ F H e, ow53 F H e a → ow53 F H (setPart e 2 (Value.cells (.int .i64 d)).toList) { a with Limit := d } := by
  intro F H e h
  obtain ⟨v0, F0, rfl, rfl, h0⟩ := h
  exact ⟨v0, F0, rfl, rfl, h0⟩
theorem fsf53_2 {a : Method} : ∀ F H e, ow53 F H e a → 2 + 1 ≤ e.cells.size := by
  intro F H e h
  obtain ⟨v0, F0, rfl, rfl, h0⟩ := h
  exact Nat.le_of_ble_eq_true rfl
theorem sf53_3 {a : Method} {d : Int} : ∀ F H e, ow53 F H e a → ow53 F H (setPart e 3 (Value.cells (.int .i64 d)).toList) { a with Cost := d } := by
  intro F H e h
  obtain ⟨v0, F0, rfl, rfl, h0⟩ := h
  exact ⟨v0, F0, rfl, rfl, h0⟩
theorem fsf53_3 {a : Method} : ∀ F H e, ow53 F H e a → 3 + 1 ≤ e.cells.size := by
  intro F H e h
  obtain ⟨v0, F0, rfl, rfl, h0⟩ := h
  exact Nat.le_of_ble_eq_true rfl
theorem sf53_4 {a : Method} {d : Int} : ∀ F H e, ow53 F H e a → ow53 F H (setPart e 4 (Value.cells (.int .i64 d)).toList) { a with Quota := d } := by
  intro F H e h
  obtain ⟨v0, F0, rfl, rfl, h0⟩ := h
  exact ⟨v0, F0, rfl, rfl, h0⟩
theorem fsf53_4 {a : Method} : ∀ F H e, ow53 F H e a → 4 + 1 ≤ e.cells.size := by
  intro F H e h
  obtain ⟨v0, F0, rfl, rfl, h0⟩ := h
  exact Nat.le_of_ble_eq_true rfl
instance cf62 : ICF Tryz.prog 62 := ⟨fun _ _ => Tryz.call62 _ _⟩
theorem sf64_0 {a : Rule} {d : Int} : ∀ F H e, ow64 F H e a → ow64 F H (setPart e 0 (Value.cells (.int .i64 d)).toList) { a with From := d } := by
  intro F H e h
  obtain ⟨v0, F0, rfl, rfl, h0⟩ := h
  exact ⟨v0, F0, rfl, rfl, h0⟩
theorem fsf64_0 {a : Rule} : ∀ F H e, ow64 F H e a → 0 + 1 ≤ e.cells.size := by
  intro F H e h
  obtain ⟨v0, F0, rfl, rfl, h0⟩ := h
  exact Nat.le_of_ble_eq_true rfl
theorem sf64_1 {a : Rule} {d : Int} : ∀ F H e, ow64 F H e a → ow64 F H (setPart e 1 (Value.cells (.int .i64 d)).toList) { a with To := d } := by
  intro F H e h
  obtain ⟨v0, F0, rfl, rfl, h0⟩ := h
  exact ⟨v0, F0, rfl, rfl, h0⟩
theorem fsf64_1 {a : Rule} : ∀ F H e, ow64 F H e a → 1 + 1 ≤ e.cells.size := by
  intro F H e h
  obtain ⟨v0, F0, rfl, rfl, h0⟩ := h
  exact Nat.le_of_ble_eq_true rfl
theorem pt64_2 : Part ow64 2 (OwnS 3 (roE rdInt)) (fun a : Rule => a.Map) (fun a d => { a with Map := d }) := ⟨fun {F H e a} h => by
  obtain ⟨v0, F0, rfl, rfl, h0⟩ := h
  exact ⟨v0, [], F0, [], rfl, by simp, h0, fun hi hk h' => ⟨v0, _, rfl, by simp, h'⟩⟩⟩
instance cf63 : ICF Tryz.prog 63 := ⟨fun _ _ => Tryz.call63 _ _⟩
instance cf29 : ICF Tryz.prog 29 := ⟨fun _ _ => Tryz.call29 _ _⟩
theorem sf113_0 {a : Fact} {d : Int} : ∀ F H e, ow113 F H e a → ow113 F H (setPart e 0 (Value.cells (.int .i64 d)).toList) { a with Rel := d } := by
  intro F H e h
  obtain ⟨v0, F0, rfl, rfl, h0⟩ := h
  exact ⟨v0, F0, rfl, rfl, h0⟩
theorem fsf113_0 {a : Fact} : ∀ F H e, ow113 F H e a → 0 + 1 ≤ e.cells.size := by
  intro F H e h
  obtain ⟨v0, F0, rfl, rfl, h0⟩ := h
  exact Nat.le_of_ble_eq_true rfl
theorem pt113_1 : Part ow113 1 (OwnS 3 (roE rdInt)) (fun a : Fact => a.Values) (fun a d => { a with Values := d }) := ⟨fun {F H e a} h => by
  obtain ⟨v0, F0, rfl, rfl, h0⟩ := h
  exact ⟨v0, [], F0, [], rfl, by simp, h0, fun hi hk h' => ⟨v0, _, rfl, by simp, h'⟩⟩⟩
instance cf64 : ICF Tryz.prog 64 := ⟨fun _ _ => Tryz.call64 _ _⟩
instance cf122 : ICF Tryz.prog 122 := ⟨fun _ _ => Tryz.call122 _ _⟩
theorem sf145_0 {a : Stored} {d : Int} : ∀ F H e, ow145 F H e a → ow145 F H (setPart e 0 (Value.cells (.int .i64 d)).toList) { a with Access := { a.Access with Method := d } } := by
  intro F H e h
  obtain ⟨v0, v1, F0, F1, rfl, rfl, h0, h1⟩ := h
  exact ⟨v0, v1, F0, F1, rfl, rfl, h0, h1⟩
theorem fsf145_0 {a : Stored} : ∀ F H e, ow145 F H e a → 0 + 1 ≤ e.cells.size := by
  intro F H e h
  obtain ⟨v0, v1, F0, F1, rfl, rfl, h0, h1⟩ := h
  exact Nat.le_of_ble_eq_true rfl
theorem pt145_1 : Part ow145 1 (OwnS 3 (roE rdInt)) (fun a : Stored => a.Access.Values) (fun a d => { a with Access := { a.Access with Values := d } }) := ⟨fun {F H e a} h => by
  obtain ⟨v0, v1, F0, F1, rfl, rfl, h0, h1⟩ := h
  exact ⟨v0, [], F0, F1, rfl, by simp, h0, fun hi hk h' => ⟨v0, v1, _, F1, rfl, by simp, h', Keep.keep h1 hi (fun k hm => hk k (by simp [hm]))⟩⟩⟩
theorem pt145_2 : Part ow145 2 (OwnS 113 ow113) (fun a : Stored => a.Facts) (fun a d => { a with Facts := d }) := ⟨fun {F H e a} h => by
  obtain ⟨v0, v1, F0, F1, rfl, rfl, h0, h1⟩ := h
  exact ⟨v1, F0, F1, [], rfl, by simp, h1, fun hi hk h' => ⟨v0, v1, F0, _, rfl, by simp, Keep.keep h0 hi (fun k hm => hk k (by simp [hm])), h'⟩⟩⟩
theorem sf145_3 {a : Stored} {d : Int} : ∀ F H e, ow145 F H e a → ow145 F H (setPart e 3 (Value.cells (.int .i64 d)).toList) { a with At := d } := by
  intro F H e h
  obtain ⟨v0, v1, F0, F1, rfl, rfl, h0, h1⟩ := h
  exact ⟨v0, v1, F0, F1, rfl, rfl, h0, h1⟩
theorem fsf145_3 {a : Stored} : ∀ F H e, ow145 F H e a → 3 + 1 ≤ e.cells.size := by
  intro F H e h
  obtain ⟨v0, v1, F0, F1, rfl, rfl, h0, h1⟩ := h
  exact Nat.le_of_ble_eq_true rfl
instance cf65 : ICF Tryz.prog 65 := ⟨fun _ _ => Tryz.call65 _ _⟩
theorem sf131_0 {a : Access} {d : Int} : ∀ F H e, ow131 F H e a → ow131 F H (setPart e 0 (Value.cells (.int .i64 d)).toList) { a with Method := d } := by
  intro F H e h
  obtain ⟨v0, F0, rfl, rfl, h0⟩ := h
  exact ⟨v0, F0, rfl, rfl, h0⟩
theorem fsf131_0 {a : Access} : ∀ F H e, ow131 F H e a → 0 + 1 ≤ e.cells.size := by
  intro F H e h
  obtain ⟨v0, F0, rfl, rfl, h0⟩ := h
  exact Nat.le_of_ble_eq_true rfl
theorem pt131_1 : Part ow131 1 (OwnS 3 (roE rdInt)) (fun a : Access => a.Values) (fun a d => { a with Values := d }) := ⟨fun {F H e a} h => by
  obtain ⟨v0, F0, rfl, rfl, h0⟩ := h
  exact ⟨v0, [], F0, [], rfl, by simp, h0, fun hi hk h' => ⟨v0, _, rfl, by simp, h'⟩⟩⟩
instance cf66 : ICF Tryz.prog 66 := ⟨fun _ _ => Tryz.call66 _ _⟩
theorem pt120_0 : Part (OwnS 22 (OwnS 3 (roE rdInt))) 0 (OwnS 22 (OwnS 3 (roE rdInt))) (fun a => a) (fun _ b => b) := Part.self (fun h => by obtain ⟨a, m, rfl⟩ := OwnS.len h; exact ⟨⟨a, _, m⟩, rfl⟩)
instance cf123 : ICF Tryz.prog 123 := ⟨fun _ _ => Tryz.call123 _ _⟩
theorem pt22_0 : Part (OwnS 3 (roE rdInt)) 0 (OwnS 3 (roE rdInt)) (fun a => a) (fun _ b => b) := Part.self (fun h => by obtain ⟨a, m, rfl⟩ := OwnS.len h; exact ⟨⟨a, _, m⟩, rfl⟩)
instance cf30 : ICF Tryz.prog 30 := ⟨fun _ _ => Tryz.call30 _ _⟩
instance cf67 : ICF Tryz.prog 67 := ⟨fun _ _ => Tryz.call67 _ _⟩
def rd34 (H : AHeap) (v : Value) (a : Mediator) : Prop := ∃ v0 v1 v2 v3 v4 v5 v6 v7 : Sv, v = .agg [v0.v, v1.v, v2.v, v3.v, (.int .i64 a.Source.Version), v4.v, (.int .i64 a.Cache.Age), (.int .i64 a.Now), v5.v, v6.v, (.int .i64 a.Spent), v7.v].toArray ∧ (RdS 3 rdInt) H v0.v a.Schema ∧ (RdS 36 rd36) H v1.v a.Methods ∧ (RdS 61 rd61) H v2.v a.Rules ∧ (RdS 157 rd157) H v3.v a.Source.Facts ∧ (RdS 160 rd160) H v4.v a.Cache.Entries ∧ (RdS 118 rd118) H v5.v a.Log ∧ (RdS 3 rdInt) H v6.v a.Times ∧ (RdS 120 (RdS 22 (RdS 3 rdInt))) H v7.v a.Results
instance : Mono rd34 := ⟨fun h hi => by
  obtain ⟨v0, v1, v2, v3, v4, v5, v6, v7, h, h0, h1, h2, h3, h4, h5, h6, h7⟩ := h
  exact ⟨v0, v1, v2, v3, v4, v5, v6, v7, h, Mono.up h0 hi, Mono.up h1 hi, Mono.up h2 hi, Mono.up h3 hi, Mono.up h4 hi, Mono.up h5 hi, Mono.up h6 hi, Mono.up h7 hi⟩⟩
instance : Cells rd34 12 := ⟨fun h => by
  obtain ⟨v0, v1, v2, v3, v4, v5, v6, v7, rfl, h0, h1, h2, h3, h4, h5, h6, h7⟩ := h
  exact ⟨rfl, rfl⟩⟩
theorem fa36_0 : fieldAt Tryz.prog 36 0 = some (3, 0, 1) := by kernel_rfl
theorem fa36_1 : fieldAt Tryz.prog 36 1 = some (22, 1, 1) := by kernel_rfl
theorem fa36_2 : fieldAt Tryz.prog 36 2 = some (3, 2, 1) := by kernel_rfl
theorem fa36_3 : fieldAt Tryz.prog 36 3 = some (3, 3, 1) := by kernel_rfl
theorem fa36_4 : fieldAt Tryz.prog 36 4 = some (3, 4, 1) := by kernel_rfl
def wf36 (a : Method) : Prop := wfInt a.Rel ∧ (wfSl wfInt) a.Inputs ∧ wfInt a.Limit ∧ wfInt a.Cost ∧ wfInt a.Quota
theorem sh36 : ∀ H v a, rd36 H v a → isAgV v = aggT Tryz.prog 36 := by
  intro H v a h
  obtain ⟨v1, rfl, _⟩ := h
  kernel_rfl
theorem op36 : Opn Tryz.prog 36 rd36 wf36 := by
  intro T enc w fuel cs x h hw ρ H hr hF
  have hl := opn_len fa36_0 h (n := 5) ty36.h.sz.cells
  obtain ⟨ρ0, H0, av0, a0, r0, f0, u0, i0, v0, q0, w0⟩ := opn_field fa36_0 h hw (Opn.int (by kernel_rfl)) hr hF
  obtain ⟨ρ1, H1, av1, a1, r1, f1, u1, i1, v1, q1, w1⟩ := opn_field fa36_1 h hw (Opn.slice (s := 1) (by kernel_rfl) (by kernel_rfl) (by decide) (Nat.lt_of_lt_of_le (by decide) (Nat.le_of_eq (show 8 = _ from by kernel_rfl))) (Opn.int (by kernel_rfl))) r0 f0
  obtain ⟨ρ2, H2, av2, a2, r2, f2, u2, i2, v2, q2, w2⟩ := opn_field fa36_2 h hw (Opn.int (by kernel_rfl)) r1 f1
  obtain ⟨ρ3, H3, av3, a3, r3, f3, u3, i3, v3, q3, w3⟩ := opn_field fa36_3 h hw (Opn.int (by kernel_rfl)) r2 f2
  obtain ⟨ρ4, H4, av4, a4, r4, f4, u4, i4, v4, q4, w4⟩ := opn_field fa36_4 h hw (Opn.int (by kernel_rfl)) r3 f3
  obtain rfl : av0 = (.int .i64 a0) := q0
  replace v0 := v0.up (((u1.trans u2).trans u3).trans u4)
  obtain ⟨sa1, sm1, rfl⟩ := RdS.len q1
  replace v1 := v1.one rfl
  replace v1 := v1.up ((u2.trans u3).trans u4)
  obtain rfl : av2 = (.int .i64 a2) := q2
  replace v2 := v2.up (u3.trans u4)
  obtain rfl : av3 = (.int .i64 a3) := q3
  replace v3 := v3.up u4
  obtain rfl : av4 = (.int .i64 a4) := q4
  have hv := RelVs.field (o := 0) v0 (RelVs.field (o := 1) v1 (RelVs.field (o := 2) v2 (RelVs.field (o := 3) v3 (RelVs.field (o := 4) v4 (RelVs.end hl)))))
  rw [List.drop_zero] at hv
  refine ⟨ρ4, H4, (.agg [(.int .i64 a0), (.slice sa1 a1.length sm1), (.int .i64 a2), (.int .i64 a3), (.int .i64 a4)].toArray : Value), ({ Rel := a0, Inputs := a1, Limit := a2, Cost := a3, Quota := a4 } : Method), r4, f4, ((((u0.trans u1).trans u2).trans u3).trans u4), ((((i0.trans i1).trans i2).trans i3).trans i4), ?_, ?_, w0, w1, w2, w3, w4⟩
  · exact hv
  · exact ⟨⟨sa1, _, sm1⟩, rfl, (Mono.up q1 ((i2.trans i3).trans i4))⟩
theorem fa61_0 : fieldAt Tryz.prog 61 0 = some (3, 0, 1) := by kernel_rfl
theorem fa61_1 : fieldAt Tryz.prog 61 1 = some (3, 1, 1) := by kernel_rfl
theorem fa61_2 : fieldAt Tryz.prog 61 2 = some (22, 2, 1) := by kernel_rfl
def wf61 (a : Rule) : Prop := wfInt a.From ∧ wfInt a.To ∧ (wfSl wfInt) a.Map
theorem sh61 : ∀ H v a, rd61 H v a → isAgV v = aggT Tryz.prog 61 := by
  intro H v a h
  obtain ⟨v2, rfl, _⟩ := h
  kernel_rfl
theorem op61 : Opn Tryz.prog 61 rd61 wf61 := by
  intro T enc w fuel cs x h hw ρ H hr hF
  have hl := opn_len fa61_0 h (n := 3) ty61.h.sz.cells
  obtain ⟨ρ0, H0, av0, a0, r0, f0, u0, i0, v0, q0, w0⟩ := opn_field fa61_0 h hw (Opn.int (by kernel_rfl)) hr hF
  obtain ⟨ρ1, H1, av1, a1, r1, f1, u1, i1, v1, q1, w1⟩ := opn_field fa61_1 h hw (Opn.int (by kernel_rfl)) r0 f0
  obtain ⟨ρ2, H2, av2, a2, r2, f2, u2, i2, v2, q2, w2⟩ := opn_field fa61_2 h hw (Opn.slice (s := 1) (by kernel_rfl) (by kernel_rfl) (by decide) (Nat.lt_of_lt_of_le (by decide) (Nat.le_of_eq (show 8 = _ from by kernel_rfl))) (Opn.int (by kernel_rfl))) r1 f1
  obtain rfl : av0 = (.int .i64 a0) := q0
  replace v0 := v0.up (u1.trans u2)
  obtain rfl : av1 = (.int .i64 a1) := q1
  replace v1 := v1.up u2
  obtain ⟨sa2, sm2, rfl⟩ := RdS.len q2
  replace v2 := v2.one rfl
  have hv := RelVs.field (o := 0) v0 (RelVs.field (o := 1) v1 (RelVs.field (o := 2) v2 (RelVs.end hl)))
  rw [List.drop_zero] at hv
  refine ⟨ρ2, H2, (.agg [(.int .i64 a0), (.int .i64 a1), (.slice sa2 a2.length sm2)].toArray : Value), ({ From := a0, To := a1, Map := a2 } : Rule), r2, f2, ((u0.trans u1).trans u2), ((i0.trans i1).trans i2), ?_, ?_, w0, w1, w2⟩
  · exact hv
  · exact ⟨⟨sa2, _, sm2⟩, rfl, q2⟩
def rd27 (H : AHeap) (v : Value) (a : Source) : Prop := ∃ v0 : Sv, v = .agg [v0.v, (.int .i64 a.Version)].toArray ∧ (RdS 157 rd157) H v0.v a.Facts
instance : Mono rd27 := ⟨fun h hi => by
  obtain ⟨v0, h, h0⟩ := h
  exact ⟨v0, h, Mono.up h0 hi⟩⟩
instance : Cells rd27 2 := ⟨fun h => by
  obtain ⟨v0, rfl, h0⟩ := h
  exact ⟨rfl, rfl⟩⟩
theorem fa157_0 : fieldAt Tryz.prog 157 0 = some (3, 0, 1) := by kernel_rfl
theorem fa157_1 : fieldAt Tryz.prog 157 1 = some (22, 1, 1) := by kernel_rfl
def wf157 (a : Fact) : Prop := wfInt a.Rel ∧ (wfSl wfInt) a.Values
theorem sh157 : ∀ H v a, rd157 H v a → isAgV v = aggT Tryz.prog 157 := by
  intro H v a h
  obtain ⟨v1, rfl, _⟩ := h
  kernel_rfl
theorem op157 : Opn Tryz.prog 157 rd157 wf157 := by
  intro T enc w fuel cs x h hw ρ H hr hF
  have hl := opn_len fa157_0 h (n := 2) ty157.h.sz.cells
  obtain ⟨ρ0, H0, av0, a0, r0, f0, u0, i0, v0, q0, w0⟩ := opn_field fa157_0 h hw (Opn.int (by kernel_rfl)) hr hF
  obtain ⟨ρ1, H1, av1, a1, r1, f1, u1, i1, v1, q1, w1⟩ := opn_field fa157_1 h hw (Opn.slice (s := 1) (by kernel_rfl) (by kernel_rfl) (by decide) (Nat.lt_of_lt_of_le (by decide) (Nat.le_of_eq (show 8 = _ from by kernel_rfl))) (Opn.int (by kernel_rfl))) r0 f0
  obtain rfl : av0 = (.int .i64 a0) := q0
  replace v0 := v0.up u1
  obtain ⟨sa1, sm1, rfl⟩ := RdS.len q1
  replace v1 := v1.one rfl
  have hv := RelVs.field (o := 0) v0 (RelVs.field (o := 1) v1 (RelVs.end hl))
  rw [List.drop_zero] at hv
  refine ⟨ρ1, H1, (.agg [(.int .i64 a0), (.slice sa1 a1.length sm1)].toArray : Value), ({ Rel := a0, Values := a1 } : Fact), r1, f1, (u0.trans u1), (i0.trans i1), ?_, ?_, w0, w1⟩
  · exact hv
  · exact ⟨⟨sa1, _, sm1⟩, rfl, q1⟩
theorem fa27_0 : fieldAt Tryz.prog 27 0 = some (25, 0, 1) := by kernel_rfl
theorem fa27_1 : fieldAt Tryz.prog 27 1 = some (3, 1, 1) := by kernel_rfl
def wf27 (a : Source) : Prop := (wfSl wf157) a.Facts ∧ wfInt a.Version
theorem sh27 : ∀ H v a, rd27 H v a → isAgV v = aggT Tryz.prog 27 := by
  intro H v a h
  obtain ⟨v0, rfl, _⟩ := h
  kernel_rfl
theorem op27 : Opn Tryz.prog 27 rd27 wf27 := by
  intro T enc w fuel cs x h hw ρ H hr hF
  have hl := opn_len fa27_0 h (n := 2) ty27.h.sz.cells
  obtain ⟨ρ0, H0, av0, a0, r0, f0, u0, i0, v0, q0, w0⟩ := opn_field fa27_0 h hw (Opn.slice (s := 2) (by kernel_rfl) (by kernel_rfl) (by decide) (Nat.lt_of_lt_of_le (by decide) (Nat.le_of_eq (show 32 = _ from by kernel_rfl))) op157) hr hF
  obtain ⟨ρ1, H1, av1, a1, r1, f1, u1, i1, v1, q1, w1⟩ := opn_field fa27_1 h hw (Opn.int (by kernel_rfl)) r0 f0
  obtain ⟨sa0, sm0, rfl⟩ := RdS.len q0
  replace v0 := v0.one rfl
  replace v0 := v0.up u1
  obtain rfl : av1 = (.int .i64 a1) := q1
  have hv := RelVs.field (o := 0) v0 (RelVs.field (o := 1) v1 (RelVs.end hl))
  rw [List.drop_zero] at hv
  refine ⟨ρ1, H1, (.agg [(.slice sa0 a0.length sm0), (.int .i64 a1)].toArray : Value), ({ Facts := a0, Version := a1 } : Source), r1, f1, (u0.trans u1), (i0.trans i1), ?_, ?_, w0, w1⟩
  · exact hv
  · exact ⟨⟨sa0, _, sm0⟩, rfl, (Mono.up q0 i1)⟩
def rd30 (H : AHeap) (v : Value) (a : Cache) : Prop := ∃ v0 : Sv, v = .agg [v0.v, (.int .i64 a.Age)].toArray ∧ (RdS 160 rd160) H v0.v a.Entries
instance : Mono rd30 := ⟨fun h hi => by
  obtain ⟨v0, h, h0⟩ := h
  exact ⟨v0, h, Mono.up h0 hi⟩⟩
instance : Cells rd30 2 := ⟨fun h => by
  obtain ⟨v0, rfl, h0⟩ := h
  exact ⟨rfl, rfl⟩⟩
theorem fa118_0 : fieldAt Tryz.prog 118 0 = some (3, 0, 1) := by kernel_rfl
theorem fa118_1 : fieldAt Tryz.prog 118 1 = some (22, 1, 1) := by kernel_rfl
def wf118 (a : Access) : Prop := wfInt a.Method ∧ (wfSl wfInt) a.Values
theorem sh118 : ∀ H v a, rd118 H v a → isAgV v = aggT Tryz.prog 118 := by
  intro H v a h
  obtain ⟨v1, rfl, _⟩ := h
  kernel_rfl
theorem op118 : Opn Tryz.prog 118 rd118 wf118 := by
  intro T enc w fuel cs x h hw ρ H hr hF
  have hl := opn_len fa118_0 h (n := 2) ty118.h.sz.cells
  obtain ⟨ρ0, H0, av0, a0, r0, f0, u0, i0, v0, q0, w0⟩ := opn_field fa118_0 h hw (Opn.int (by kernel_rfl)) hr hF
  obtain ⟨ρ1, H1, av1, a1, r1, f1, u1, i1, v1, q1, w1⟩ := opn_field fa118_1 h hw (Opn.slice (s := 1) (by kernel_rfl) (by kernel_rfl) (by decide) (Nat.lt_of_lt_of_le (by decide) (Nat.le_of_eq (show 8 = _ from by kernel_rfl))) (Opn.int (by kernel_rfl))) r0 f0
  obtain rfl : av0 = (.int .i64 a0) := q0
  replace v0 := v0.up u1
  obtain ⟨sa1, sm1, rfl⟩ := RdS.len q1
  replace v1 := v1.one rfl
  have hv := RelVs.field (o := 0) v0 (RelVs.field (o := 1) v1 (RelVs.end hl))
  rw [List.drop_zero] at hv
  refine ⟨ρ1, H1, (.agg [(.int .i64 a0), (.slice sa1 a1.length sm1)].toArray : Value), ({ Method := a0, Values := a1 } : Access), r1, f1, (u0.trans u1), (i0.trans i1), ?_, ?_, w0, w1⟩
  · exact hv
  · exact ⟨⟨sa1, _, sm1⟩, rfl, q1⟩
theorem fa160_0 : fieldAt Tryz.prog 160 0 = some (118, 0, 2) := by kernel_rfl
theorem fa160_1 : fieldAt Tryz.prog 160 1 = some (25, 2, 1) := by kernel_rfl
theorem fa160_2 : fieldAt Tryz.prog 160 2 = some (3, 3, 1) := by kernel_rfl
def wf160 (a : Stored) : Prop := wf118 a.Access ∧ (wfSl wf157) a.Facts ∧ wfInt a.At
theorem sh160 : ∀ H v a, rd160 H v a → isAgV v = aggT Tryz.prog 160 := by
  intro H v a h
  obtain ⟨v1, v2, rfl, _, _⟩ := h
  kernel_rfl
theorem op160 : Opn Tryz.prog 160 rd160 wf160 := by
  intro T enc w fuel cs x h hw ρ H hr hF
  have hl := opn_len fa160_0 h (n := 4) ty160.h.sz.cells
  obtain ⟨ρ0, H0, av0, a0, r0, f0, u0, i0, v0, q0, w0⟩ := opn_field fa160_0 h hw op118 hr hF
  obtain ⟨ρ1, H1, av1, a1, r1, f1, u1, i1, v1, q1, w1⟩ := opn_field fa160_1 h hw (Opn.slice (s := 2) (by kernel_rfl) (by kernel_rfl) (by decide) (Nat.lt_of_lt_of_le (by decide) (Nat.le_of_eq (show 32 = _ from by kernel_rfl))) op157) r0 f0
  obtain ⟨ρ2, H2, av2, a2, r2, f2, u2, i2, v2, q2, w2⟩ := opn_field fa160_2 h hw (Opn.int (by kernel_rfl)) r1 f1
  obtain ⟨xav0_0, rfl, gav0_0⟩ := q0
  replace v0 := v0.up (u1.trans u2)
  obtain ⟨sa1, sm1, rfl⟩ := RdS.len q1
  replace v1 := v1.one rfl
  replace v1 := v1.up u2
  obtain rfl : av2 = (.int .i64 a2) := q2
  have hv := RelVs.field (o := 0) v0 (RelVs.field (o := 2) v1 (RelVs.field (o := 3) v2 (RelVs.end hl)))
  rw [List.drop_zero] at hv
  refine ⟨ρ2, H2, (.agg [(.int .i64 a0.Method), xav0_0.v, (.slice sa1 a1.length sm1), (.int .i64 a2)].toArray : Value), ({ Access := a0, Facts := a1, At := a2 } : Stored), r2, f2, ((u0.trans u1).trans u2), ((i0.trans i1).trans i2), ?_, ?_, w0, w1, w2⟩
  · exact hv
  · exact ⟨xav0_0, ⟨sa1, _, sm1⟩, rfl, (Mono.up gav0_0 (i1.trans i2)), (Mono.up q1 i2)⟩
theorem fa30_0 : fieldAt Tryz.prog 30 0 = some (28, 0, 1) := by kernel_rfl
theorem fa30_1 : fieldAt Tryz.prog 30 1 = some (3, 1, 1) := by kernel_rfl
def wf30 (a : Cache) : Prop := (wfSl wf160) a.Entries ∧ wfInt a.Age
theorem sh30 : ∀ H v a, rd30 H v a → isAgV v = aggT Tryz.prog 30 := by
  intro H v a h
  obtain ⟨v0, rfl, _⟩ := h
  kernel_rfl
theorem op30 : Opn Tryz.prog 30 rd30 wf30 := by
  intro T enc w fuel cs x h hw ρ H hr hF
  have hl := opn_len fa30_0 h (n := 2) ty30.h.sz.cells
  obtain ⟨ρ0, H0, av0, a0, r0, f0, u0, i0, v0, q0, w0⟩ := opn_field fa30_0 h hw (Opn.slice (s := 4) (by kernel_rfl) (by kernel_rfl) (by decide) (Nat.lt_of_lt_of_le (by decide) (Nat.le_of_eq (show 64 = _ from by kernel_rfl))) op160) hr hF
  obtain ⟨ρ1, H1, av1, a1, r1, f1, u1, i1, v1, q1, w1⟩ := opn_field fa30_1 h hw (Opn.int (by kernel_rfl)) r0 f0
  obtain ⟨sa0, sm0, rfl⟩ := RdS.len q0
  replace v0 := v0.one rfl
  replace v0 := v0.up u1
  obtain rfl : av1 = (.int .i64 a1) := q1
  have hv := RelVs.field (o := 0) v0 (RelVs.field (o := 1) v1 (RelVs.end hl))
  rw [List.drop_zero] at hv
  refine ⟨ρ1, H1, (.agg [(.slice sa0 a0.length sm0), (.int .i64 a1)].toArray : Value), ({ Entries := a0, Age := a1 } : Cache), r1, f1, (u0.trans u1), (i0.trans i1), ?_, ?_, w0, w1⟩
  · exact hv
  · exact ⟨⟨sa0, _, sm0⟩, rfl, (Mono.up q0 i1)⟩
theorem fa34_0 : fieldAt Tryz.prog 34 0 = some (22, 0, 1) := by kernel_rfl
theorem fa34_1 : fieldAt Tryz.prog 34 1 = some (23, 1, 1) := by kernel_rfl
theorem fa34_2 : fieldAt Tryz.prog 34 2 = some (24, 2, 1) := by kernel_rfl
theorem fa34_3 : fieldAt Tryz.prog 34 3 = some (27, 3, 2) := by kernel_rfl
theorem fa34_4 : fieldAt Tryz.prog 34 4 = some (30, 5, 2) := by kernel_rfl
theorem fa34_5 : fieldAt Tryz.prog 34 5 = some (3, 7, 1) := by kernel_rfl
theorem fa34_6 : fieldAt Tryz.prog 34 6 = some (31, 8, 1) := by kernel_rfl
theorem fa34_7 : fieldAt Tryz.prog 34 7 = some (22, 9, 1) := by kernel_rfl
theorem fa34_8 : fieldAt Tryz.prog 34 8 = some (3, 10, 1) := by kernel_rfl
theorem fa34_9 : fieldAt Tryz.prog 34 9 = some (32, 11, 1) := by kernel_rfl
def wf34 (a : Mediator) : Prop := (wfSl wfInt) a.Schema ∧ (wfSl wf36) a.Methods ∧ (wfSl wf61) a.Rules ∧ wf27 a.Source ∧ wf30 a.Cache ∧ wfInt a.Now ∧ (wfSl wf118) a.Log ∧ (wfSl wfInt) a.Times ∧ wfInt a.Spent ∧ (wfSl (wfSl (wfSl wfInt))) a.Results
theorem sh34 : ∀ H v a, rd34 H v a → isAgV v = aggT Tryz.prog 34 := by
  intro H v a h
  obtain ⟨v0, v1, v2, v3, v5, v8, v9, v11, rfl, _, _, _, _, _, _, _, _⟩ := h
  kernel_rfl
theorem op34 : Opn Tryz.prog 34 rd34 wf34 := by
  intro T enc w fuel cs x h hw ρ H hr hF
  have hl := opn_len fa34_0 h (n := 12) ty34.h.sz.cells
  obtain ⟨ρ0, H0, av0, a0, r0, f0, u0, i0, v0, q0, w0⟩ := opn_field fa34_0 h hw (Opn.slice (s := 1) (by kernel_rfl) (by kernel_rfl) (by decide) (Nat.lt_of_lt_of_le (by decide) (Nat.le_of_eq (show 8 = _ from by kernel_rfl))) (Opn.int (by kernel_rfl))) hr hF
  obtain ⟨ρ1, H1, av1, a1, r1, f1, u1, i1, v1, q1, w1⟩ := opn_field fa34_1 h hw (Opn.slice (s := 5) (by kernel_rfl) (by kernel_rfl) (by decide) (Nat.lt_of_lt_of_le (by decide) (Nat.le_of_eq (show 56 = _ from by kernel_rfl))) op36) r0 f0
  obtain ⟨ρ2, H2, av2, a2, r2, f2, u2, i2, v2, q2, w2⟩ := opn_field fa34_2 h hw (Opn.slice (s := 3) (by kernel_rfl) (by kernel_rfl) (by decide) (Nat.lt_of_lt_of_le (by decide) (Nat.le_of_eq (show 40 = _ from by kernel_rfl))) op61) r1 f1
  obtain ⟨ρ3, H3, av3, a3, r3, f3, u3, i3, v3, q3, w3⟩ := opn_field fa34_3 h hw op27 r2 f2
  obtain ⟨ρ4, H4, av4, a4, r4, f4, u4, i4, v4, q4, w4⟩ := opn_field fa34_4 h hw op30 r3 f3
  obtain ⟨ρ5, H5, av5, a5, r5, f5, u5, i5, v5, q5, w5⟩ := opn_field fa34_5 h hw (Opn.int (by kernel_rfl)) r4 f4
  obtain ⟨ρ6, H6, av6, a6, r6, f6, u6, i6, v6, q6, w6⟩ := opn_field fa34_6 h hw (Opn.slice (s := 2) (by kernel_rfl) (by kernel_rfl) (by decide) (Nat.lt_of_lt_of_le (by decide) (Nat.le_of_eq (show 32 = _ from by kernel_rfl))) op118) r5 f5
  obtain ⟨ρ7, H7, av7, a7, r7, f7, u7, i7, v7, q7, w7⟩ := opn_field fa34_7 h hw (Opn.slice (s := 1) (by kernel_rfl) (by kernel_rfl) (by decide) (Nat.lt_of_lt_of_le (by decide) (Nat.le_of_eq (show 8 = _ from by kernel_rfl))) (Opn.int (by kernel_rfl))) r6 f6
  obtain ⟨ρ8, H8, av8, a8, r8, f8, u8, i8, v8, q8, w8⟩ := opn_field fa34_8 h hw (Opn.int (by kernel_rfl)) r7 f7
  obtain ⟨ρ9, H9, av9, a9, r9, f9, u9, i9, v9, q9, w9⟩ := opn_field fa34_9 h hw (Opn.slice (s := 1) (by kernel_rfl) (by kernel_rfl) (by decide) (Nat.lt_of_lt_of_le (by decide) (Nat.le_of_eq (show 24 = _ from by kernel_rfl))) (Opn.slice (s := 1) (by kernel_rfl) (by kernel_rfl) (by decide) (Nat.lt_of_lt_of_le (by decide) (Nat.le_of_eq (show 24 = _ from by kernel_rfl))) (Opn.slice (s := 1) (by kernel_rfl) (by kernel_rfl) (by decide) (Nat.lt_of_lt_of_le (by decide) (Nat.le_of_eq (show 8 = _ from by kernel_rfl))) (Opn.int (by kernel_rfl))))) r8 f8
  obtain ⟨sa0, sm0, rfl⟩ := RdS.len q0
  replace v0 := v0.one rfl
  replace v0 := v0.up ((((((((u1.trans u2).trans u3).trans u4).trans u5).trans u6).trans u7).trans u8).trans u9)
  obtain ⟨sa1, sm1, rfl⟩ := RdS.len q1
  replace v1 := v1.one rfl
  replace v1 := v1.up (((((((u2.trans u3).trans u4).trans u5).trans u6).trans u7).trans u8).trans u9)
  obtain ⟨sa2, sm2, rfl⟩ := RdS.len q2
  replace v2 := v2.one rfl
  replace v2 := v2.up ((((((u3.trans u4).trans u5).trans u6).trans u7).trans u8).trans u9)
  obtain ⟨xav3_0, rfl, gav3_0⟩ := q3
  replace v3 := v3.up (((((u4.trans u5).trans u6).trans u7).trans u8).trans u9)
  obtain ⟨xav4_0, rfl, gav4_0⟩ := q4
  replace v4 := v4.up ((((u5.trans u6).trans u7).trans u8).trans u9)
  obtain rfl : av5 = (.int .i64 a5) := q5
  replace v5 := v5.up (((u6.trans u7).trans u8).trans u9)
  obtain ⟨sa6, sm6, rfl⟩ := RdS.len q6
  replace v6 := v6.one rfl
  replace v6 := v6.up ((u7.trans u8).trans u9)
  obtain ⟨sa7, sm7, rfl⟩ := RdS.len q7
  replace v7 := v7.one rfl
  replace v7 := v7.up (u8.trans u9)
  obtain rfl : av8 = (.int .i64 a8) := q8
  replace v8 := v8.up u9
  obtain ⟨sa9, sm9, rfl⟩ := RdS.len q9
  replace v9 := v9.one rfl
  have hv := RelVs.field (o := 0) v0 (RelVs.field (o := 1) v1 (RelVs.field (o := 2) v2 (RelVs.field (o := 3) v3 (RelVs.field (o := 5) v4 (RelVs.field (o := 7) v5 (RelVs.field (o := 8) v6 (RelVs.field (o := 9) v7 (RelVs.field (o := 10) v8 (RelVs.field (o := 11) v9 (RelVs.end hl))))))))))
  rw [List.drop_zero] at hv
  refine ⟨ρ9, H9, (.agg [(.slice sa0 a0.length sm0), (.slice sa1 a1.length sm1), (.slice sa2 a2.length sm2), xav3_0.v, (.int .i64 a3.Version), xav4_0.v, (.int .i64 a4.Age), (.int .i64 a5), (.slice sa6 a6.length sm6), (.slice sa7 a7.length sm7), (.int .i64 a8), (.slice sa9 a9.length sm9)].toArray : Value), ({ Schema := a0, Methods := a1, Rules := a2, Source := a3, Cache := a4, Now := a5, Log := a6, Times := a7, Spent := a8, Results := a9 } : Mediator), r9, f9, (((((((((u0.trans u1).trans u2).trans u3).trans u4).trans u5).trans u6).trans u7).trans u8).trans u9), (((((((((i0.trans i1).trans i2).trans i3).trans i4).trans i5).trans i6).trans i7).trans i8).trans i9), ?_, ?_, w0, w1, w2, w3, w4, w5, w6, w7, w8, w9⟩
  · exact hv
  · exact ⟨⟨sa0, _, sm0⟩, ⟨sa1, _, sm1⟩, ⟨sa2, _, sm2⟩, xav3_0, xav4_0, ⟨sa6, _, sm6⟩, ⟨sa7, _, sm7⟩, ⟨sa9, _, sm9⟩, rfl, (Mono.up q0 ((((((((i1.trans i2).trans i3).trans i4).trans i5).trans i6).trans i7).trans i8).trans i9)), (Mono.up q1 (((((((i2.trans i3).trans i4).trans i5).trans i6).trans i7).trans i8).trans i9)), (Mono.up q2 ((((((i3.trans i4).trans i5).trans i6).trans i7).trans i8).trans i9)), (Mono.up gav3_0 (((((i4.trans i5).trans i6).trans i7).trans i8).trans i9)), (Mono.up gav4_0 ((((i5.trans i6).trans i7).trans i8).trans i9)), (Mono.up q6 ((i7.trans i8).trans i9)), (Mono.up q7 (i8.trans i9)), q9⟩

/-! laws.szIntS -/
def l_szIntS (a_a : List Int) (a_left : Int) : Option (Int) :=
  if (decide (((IntKind.i64.wrap (a_left - (a_a.length : Int))) : Int) < 0)) then (
    some (-1))
  else (
    some (IntKind.i64.wrap (a_left - (a_a.length : Int))))
theorem l_szIntS_ok (a_a : List Int) (v0_0 : Sv) (a_left : Int) (R : Int) (hF : l_szIntS a_a a_left = some R) :
    Fw.Spec Tryz.prog 31 [v0_0.v, (.int .i64 a_left)] [crd (RdS 3 rdInt) v0_0.v a_a] (fun _ : Unit => (.int .i64 R)) (fun _ => []) := by
  refine Spec_enter (n := 12) Tryz.func31 rfl rfl (rs := [.tmp 4]) rfl rfl rfl ?_
  intro H0 F0
  unfold l_szIntS at hF
  iterate 15 refine au ?_
  refine Cc (fun hb1 => ?_) (fun hb1 => ?_)
  · rw [if_pos hb1] at hF
    iterate 4 refine au ?_
    cases hF
    exact Er ()
  rw [if_neg (nt hb1)] at hF
  iterate 6 refine au ?_
  cases hF
  exact Er ()

/-! laws.szMethod -/
def l_szMethod (a_a : Method) (a_left : Int) : Option (Int) :=
  (l_szIntS a_a.Inputs a_left).bind fun r2 =>
  if (decide ((r2 : Int) < 0)) then (
    some (-1))
  else (
    some r2)
theorem l_szMethod_ok (a_a : Method) (v0_1 : Sv) (a_left : Int) (R : Int) (hF : l_szMethod a_a a_left = some R) :
    Fw.Spec Tryz.prog 8 [(.agg [(.int .i64 a_a.Rel), v0_1.v, (.int .i64 a_a.Limit), (.int .i64 a_a.Cost), (.int .i64 a_a.Quota)].toArray), (.int .i64 a_left)] [crd (RdS 3 rdInt) v0_1.v a_a.Inputs] (fun _ : Unit => (.int .i64 R)) (fun _ => []) := by
  refine Spec_enter (n := 12) Tryz.func8 rfl rfl (rs := [.tmp 4]) rfl rfl rfl ?_
  intro H0 F0
  unfold l_szMethod at hF
  refine au ?_
  refine AbR (fun k1 => ?_)
  iterate 6 refine au ?_
  obtain ⟨r2, hx3, hF⟩ := bind_some hF
  refine Cx0 (l_szIntS_ok _ _ _ _ hx3) (fun _ => ?_)
  iterate 7 refine au ?_
  refine Cc (fun hb5 => ?_) (fun hb5 => ?_)
  · rw [if_pos hb5] at hF
    iterate 4 refine au ?_
    cases hF
    exact Er ()
  rw [if_neg (nt hb5)] at hF
  iterate 6 refine au ?_
  cases hF
  exact Er ()

/-! laws.szMethodS -/
def l_szMethodS_L1 : List Method → Nat → Int → Option (Int)
  | [], k5, c1 => some c1
  | x7 :: rest6, k5, c1 => (l_szMethod x7 c1).bind fun r17 =>
    if (decide ((r17 : Int) < 0)) then (
      some (-1))
    else (
      l_szMethodS_L1 rest6 (k5 + 1) r17)
def l_szMethodS (a_a : List Method) (a_left : Int) : Option (Int) :=
  if (decide (((IntKind.i64.wrap (a_left - (a_a.length : Int))) : Int) < 0)) then (
    some (-1))
  else (
    l_szMethodS_L1 a_a 0 (IntKind.i64.wrap (a_left - (a_a.length : Int))))
theorem l_szMethodS_ok (a_a : List Method) (v0_0 : Sv) (a_left : Int) (R : Int) (hF : l_szMethodS a_a a_left = some R) :
    Fw.Spec Tryz.prog 32 [v0_0.v, (.int .i64 a_left)] [crd (RdS 36 rd36) v0_0.v a_a] (fun _ : Unit => (.int .i64 R)) (fun _ => []) := by
  refine Spec_enter (n := 27) Tryz.func32 rfl rfl (rs := [.tmp 4]) rfl rfl rfl ?_
  intro H0 F0
  unfold l_szMethodS at hF
  iterate 15 refine au ?_
  refine Cc (fun hb22 => ?_) (fun hb22 => ?_)
  · rw [if_pos hb22] at hF
    iterate 4 refine au ?_
    cases hF
    exact Er ()
  rw [if_neg (nt hb22)] at hF
  iterate 5 refine au ?_
  refine CW_block (CW_loop (m := a_a.length) (fun m3 f' cs' => ∃ (g : Fr) (k5 : Nat) (rest6 : List Method) (c1 : Int), m3 = rest6.length ∧ f' = updL g [(0, v0_0.v), (1, (.int .i64 c1)), (5, (.int .i64 (k5 : Int)))] ∧ List.drop k5 a_a = rest6 ∧ Ent cs' [crd (RdS 36 rd36) v0_0.v a_a] ∧ l_szMethodS_L1 rest6 k5 c1 = some R) ⟨_, 0, _, _, rfl, eqA, rfl, entA, hF⟩ ?_)
  clear hF
  rintro m3 _ _ ⟨g4, k5, rest6, c1, rfl, rfl, hd8, hE, hF⟩
  refine K_ent hE ?_
  clear hE
  refine K_pure (c := crd (RdS 36 rd36) v0_0.v a_a) .h crd_bound (fun hbd13 => ?_)
  rcases rest6 with _ | ⟨x7, rest6⟩
  · have hk9 := List.drop_eq_nil_iff.1 hd8
    rw [l_szMethodS_L1] at hF
    iterate 7 refine au ?_
    refine CdF ?_
    iterate 9 refine au ?_
    cases hF
    exact Er ()
  obtain ⟨hk9, hx10, hd11⟩ := drop_cons hd8
  rw [l_szMethodS_L1] at hF
  iterate 7 refine au ?_
  refine CdT ?_
  iterate 5 refine au ?_
  refine Ai hx10 (fun k14 j15 => ?_)
  refine AlA1 (ul36_0_36 x7) la36_0_36 (fun p16 => ?_)
  refine au ?_
  obtain ⟨r17, hx18, hF⟩ := bind_some hF
  refine Cx0 (l_szMethod_ok _ _ _ _ hx18) (fun _ => ?_)
  iterate 6 refine au ?_
  refine Cc (fun hb21 => ?_) (fun hb21 => ?_)
  · rw [if_pos hb21] at hF
    iterate 4 refine au ?_
    cases hF
    exact Er ()
  rw [if_neg (nt hb21)] at hF
  iterate 6 refine au ?_
  rw [wk k5]
  exact ⟨_, Nat.lt_succ_self _, _, k5 + 1, rest6, _, rfl, eqA, hd11, entA, hF⟩

/-! laws.szRule -/
def l_szRule (a_a : Rule) (a_left : Int) : Option (Int) :=
  (l_szIntS a_a.Map a_left).bind fun r2 =>
  if (decide ((r2 : Int) < 0)) then (
    some (-1))
  else (
    some r2)
theorem l_szRule_ok (a_a : Rule) (v0_2 : Sv) (a_left : Int) (R : Int) (hF : l_szRule a_a a_left = some R) :
    Fw.Spec Tryz.prog 18 [(.agg [(.int .i64 a_a.From), (.int .i64 a_a.To), v0_2.v].toArray), (.int .i64 a_left)] [crd (RdS 3 rdInt) v0_2.v a_a.Map] (fun _ : Unit => (.int .i64 R)) (fun _ => []) := by
  refine Spec_enter (n := 12) Tryz.func18 rfl rfl (rs := [.tmp 4]) rfl rfl rfl ?_
  intro H0 F0
  unfold l_szRule at hF
  refine au ?_
  refine AbR (fun k1 => ?_)
  iterate 6 refine au ?_
  obtain ⟨r2, hx3, hF⟩ := bind_some hF
  refine Cx0 (l_szIntS_ok _ _ _ _ hx3) (fun _ => ?_)
  iterate 7 refine au ?_
  refine Cc (fun hb5 => ?_) (fun hb5 => ?_)
  · rw [if_pos hb5] at hF
    iterate 4 refine au ?_
    cases hF
    exact Er ()
  rw [if_neg (nt hb5)] at hF
  iterate 6 refine au ?_
  cases hF
  exact Er ()

/-! laws.szRuleS -/
def l_szRuleS_L1 : List Rule → Nat → Int → Option (Int)
  | [], k5, c1 => some c1
  | x7 :: rest6, k5, c1 => (l_szRule x7 c1).bind fun r17 =>
    if (decide ((r17 : Int) < 0)) then (
      some (-1))
    else (
      l_szRuleS_L1 rest6 (k5 + 1) r17)
def l_szRuleS (a_a : List Rule) (a_left : Int) : Option (Int) :=
  if (decide (((IntKind.i64.wrap (a_left - (a_a.length : Int))) : Int) < 0)) then (
    some (-1))
  else (
    l_szRuleS_L1 a_a 0 (IntKind.i64.wrap (a_left - (a_a.length : Int))))
theorem l_szRuleS_ok (a_a : List Rule) (v0_0 : Sv) (a_left : Int) (R : Int) (hF : l_szRuleS a_a a_left = some R) :
    Fw.Spec Tryz.prog 33 [v0_0.v, (.int .i64 a_left)] [crd (RdS 61 rd61) v0_0.v a_a] (fun _ : Unit => (.int .i64 R)) (fun _ => []) := by
  refine Spec_enter (n := 27) Tryz.func33 rfl rfl (rs := [.tmp 4]) rfl rfl rfl ?_
  intro H0 F0
  unfold l_szRuleS at hF
  iterate 15 refine au ?_
  refine Cc (fun hb22 => ?_) (fun hb22 => ?_)
  · rw [if_pos hb22] at hF
    iterate 4 refine au ?_
    cases hF
    exact Er ()
  rw [if_neg (nt hb22)] at hF
  iterate 5 refine au ?_
  refine CW_block (CW_loop (m := a_a.length) (fun m3 f' cs' => ∃ (g : Fr) (k5 : Nat) (rest6 : List Rule) (c1 : Int), m3 = rest6.length ∧ f' = updL g [(0, v0_0.v), (1, (.int .i64 c1)), (5, (.int .i64 (k5 : Int)))] ∧ List.drop k5 a_a = rest6 ∧ Ent cs' [crd (RdS 61 rd61) v0_0.v a_a] ∧ l_szRuleS_L1 rest6 k5 c1 = some R) ⟨_, 0, _, _, rfl, eqA, rfl, entA, hF⟩ ?_)
  clear hF
  rintro m3 _ _ ⟨g4, k5, rest6, c1, rfl, rfl, hd8, hE, hF⟩
  refine K_ent hE ?_
  clear hE
  refine K_pure (c := crd (RdS 61 rd61) v0_0.v a_a) .h crd_bound (fun hbd13 => ?_)
  rcases rest6 with _ | ⟨x7, rest6⟩
  · have hk9 := List.drop_eq_nil_iff.1 hd8
    rw [l_szRuleS_L1] at hF
    iterate 7 refine au ?_
    refine CdF ?_
    iterate 9 refine au ?_
    cases hF
    exact Er ()
  obtain ⟨hk9, hx10, hd11⟩ := drop_cons hd8
  rw [l_szRuleS_L1] at hF
  iterate 7 refine au ?_
  refine CdT ?_
  iterate 5 refine au ?_
  refine Ai hx10 (fun k14 j15 => ?_)
  refine AlA1 (ul61_0_61 x7) la61_0_61 (fun p16 => ?_)
  refine au ?_
  obtain ⟨r17, hx18, hF⟩ := bind_some hF
  refine Cx0 (l_szRule_ok _ _ _ _ hx18) (fun _ => ?_)
  iterate 6 refine au ?_
  refine Cc (fun hb21 => ?_) (fun hb21 => ?_)
  · rw [if_pos hb21] at hF
    iterate 4 refine au ?_
    cases hF
    exact Er ()
  rw [if_neg (nt hb21)] at hF
  iterate 6 refine au ?_
  rw [wk k5]
  exact ⟨_, Nat.lt_succ_self _, _, k5 + 1, rest6, _, rfl, eqA, hd11, entA, hF⟩

/-! laws.szFact -/
def l_szFact (a_a : Fact) (a_left : Int) : Option (Int) :=
  (l_szIntS a_a.Values a_left).bind fun r2 =>
  if (decide ((r2 : Int) < 0)) then (
    some (-1))
  else (
    some r2)
theorem l_szFact_ok (a_a : Fact) (v0_1 : Sv) (a_left : Int) (R : Int) (hF : l_szFact a_a a_left = some R) :
    Fw.Spec Tryz.prog 138 [(.agg [(.int .i64 a_a.Rel), v0_1.v].toArray), (.int .i64 a_left)] [crd (RdS 3 rdInt) v0_1.v a_a.Values] (fun _ : Unit => (.int .i64 R)) (fun _ => []) := by
  refine Spec_enter (n := 12) Tryz.func138 rfl rfl (rs := [.tmp 4]) rfl rfl rfl ?_
  intro H0 F0
  unfold l_szFact at hF
  refine au ?_
  refine AbR (fun k1 => ?_)
  iterate 6 refine au ?_
  obtain ⟨r2, hx3, hF⟩ := bind_some hF
  refine Cx0 (l_szIntS_ok _ _ _ _ hx3) (fun _ => ?_)
  iterate 7 refine au ?_
  refine Cc (fun hb5 => ?_) (fun hb5 => ?_)
  · rw [if_pos hb5] at hF
    iterate 4 refine au ?_
    cases hF
    exact Er ()
  rw [if_neg (nt hb5)] at hF
  iterate 6 refine au ?_
  cases hF
  exact Er ()

/-! laws.szFactS -/
def l_szFactS_L1 : List Fact → Nat → Int → Option (Int)
  | [], k5, c1 => some c1
  | x7 :: rest6, k5, c1 => (l_szFact x7 c1).bind fun r17 =>
    if (decide ((r17 : Int) < 0)) then (
      some (-1))
    else (
      l_szFactS_L1 rest6 (k5 + 1) r17)
def l_szFactS (a_a : List Fact) (a_left : Int) : Option (Int) :=
  if (decide (((IntKind.i64.wrap (a_left - (a_a.length : Int))) : Int) < 0)) then (
    some (-1))
  else (
    l_szFactS_L1 a_a 0 (IntKind.i64.wrap (a_left - (a_a.length : Int))))
theorem l_szFactS_ok (a_a : List Fact) (v0_0 : Sv) (a_left : Int) (R : Int) (hF : l_szFactS a_a a_left = some R) :
    Fw.Spec Tryz.prog 84 [v0_0.v, (.int .i64 a_left)] [crd (RdS 157 rd157) v0_0.v a_a] (fun _ : Unit => (.int .i64 R)) (fun _ => []) := by
  refine Spec_enter (n := 27) Tryz.func84 rfl rfl (rs := [.tmp 4]) rfl rfl rfl ?_
  intro H0 F0
  unfold l_szFactS at hF
  iterate 15 refine au ?_
  refine Cc (fun hb22 => ?_) (fun hb22 => ?_)
  · rw [if_pos hb22] at hF
    iterate 4 refine au ?_
    cases hF
    exact Er ()
  rw [if_neg (nt hb22)] at hF
  iterate 5 refine au ?_
  refine CW_block (CW_loop (m := a_a.length) (fun m3 f' cs' => ∃ (g : Fr) (k5 : Nat) (rest6 : List Fact) (c1 : Int), m3 = rest6.length ∧ f' = updL g [(0, v0_0.v), (1, (.int .i64 c1)), (5, (.int .i64 (k5 : Int)))] ∧ List.drop k5 a_a = rest6 ∧ Ent cs' [crd (RdS 157 rd157) v0_0.v a_a] ∧ l_szFactS_L1 rest6 k5 c1 = some R) ⟨_, 0, _, _, rfl, eqA, rfl, entA, hF⟩ ?_)
  clear hF
  rintro m3 _ _ ⟨g4, k5, rest6, c1, rfl, rfl, hd8, hE, hF⟩
  refine K_ent hE ?_
  clear hE
  refine K_pure (c := crd (RdS 157 rd157) v0_0.v a_a) .h crd_bound (fun hbd13 => ?_)
  rcases rest6 with _ | ⟨x7, rest6⟩
  · have hk9 := List.drop_eq_nil_iff.1 hd8
    rw [l_szFactS_L1] at hF
    iterate 7 refine au ?_
    refine CdF ?_
    iterate 9 refine au ?_
    cases hF
    exact Er ()
  obtain ⟨hk9, hx10, hd11⟩ := drop_cons hd8
  rw [l_szFactS_L1] at hF
  iterate 7 refine au ?_
  refine CdT ?_
  iterate 5 refine au ?_
  refine Ai hx10 (fun k14 j15 => ?_)
  refine AlA1 (ul157_0_157 x7) la157_0_157 (fun p16 => ?_)
  refine au ?_
  obtain ⟨r17, hx18, hF⟩ := bind_some hF
  refine Cx0 (l_szFact_ok _ _ _ _ hx18) (fun _ => ?_)
  iterate 6 refine au ?_
  refine Cc (fun hb21 => ?_) (fun hb21 => ?_)
  · rw [if_pos hb21] at hF
    iterate 4 refine au ?_
    cases hF
    exact Er ()
  rw [if_neg (nt hb21)] at hF
  iterate 6 refine au ?_
  rw [wk k5]
  exact ⟨_, Nat.lt_succ_self _, _, k5 + 1, rest6, _, rfl, eqA, hd11, entA, hF⟩

/-! laws.szSource -/
def l_szSource (a_a : Source) (a_left : Int) : Option (Int) :=
  (l_szFactS a_a.Facts a_left).bind fun r2 =>
  if (decide ((r2 : Int) < 0)) then (
    some (-1))
  else (
    some r2)
theorem l_szSource_ok (a_a : Source) (v0_0 : Sv) (a_left : Int) (R : Int) (hF : l_szSource a_a a_left = some R) :
    Fw.Spec Tryz.prog 34 [(.agg [v0_0.v, (.int .i64 a_a.Version)].toArray), (.int .i64 a_left)] [crd (RdS 157 rd157) v0_0.v a_a.Facts] (fun _ : Unit => (.int .i64 R)) (fun _ => []) := by
  refine Spec_enter (n := 12) Tryz.func34 rfl rfl (rs := [.tmp 4]) rfl rfl rfl ?_
  intro H0 F0
  unfold l_szSource at hF
  refine au ?_
  refine AbR (fun k1 => ?_)
  iterate 6 refine au ?_
  obtain ⟨r2, hx3, hF⟩ := bind_some hF
  refine Cx0 (l_szFactS_ok _ _ _ _ hx3) (fun _ => ?_)
  iterate 7 refine au ?_
  refine Cc (fun hb5 => ?_) (fun hb5 => ?_)
  · rw [if_pos hb5] at hF
    iterate 4 refine au ?_
    cases hF
    exact Er ()
  rw [if_neg (nt hb5)] at hF
  iterate 6 refine au ?_
  cases hF
  exact Er ()

/-! laws.szAccess -/
def l_szAccess (a_a : Access) (a_left : Int) : Option (Int) :=
  (l_szIntS a_a.Values a_left).bind fun r2 =>
  if (decide ((r2 : Int) < 0)) then (
    some (-1))
  else (
    some r2)
theorem l_szAccess_ok (a_a : Access) (v0_1 : Sv) (a_left : Int) (R : Int) (hF : l_szAccess a_a a_left = some R) :
    Fw.Spec Tryz.prog 86 [(.agg [(.int .i64 a_a.Method), v0_1.v].toArray), (.int .i64 a_left)] [crd (RdS 3 rdInt) v0_1.v a_a.Values] (fun _ : Unit => (.int .i64 R)) (fun _ => []) := by
  refine Spec_enter (n := 12) Tryz.func86 rfl rfl (rs := [.tmp 4]) rfl rfl rfl ?_
  intro H0 F0
  unfold l_szAccess at hF
  refine au ?_
  refine AbR (fun k1 => ?_)
  iterate 6 refine au ?_
  obtain ⟨r2, hx3, hF⟩ := bind_some hF
  refine Cx0 (l_szIntS_ok _ _ _ _ hx3) (fun _ => ?_)
  iterate 7 refine au ?_
  refine Cc (fun hb5 => ?_) (fun hb5 => ?_)
  · rw [if_pos hb5] at hF
    iterate 4 refine au ?_
    cases hF
    exact Er ()
  rw [if_neg (nt hb5)] at hF
  iterate 6 refine au ?_
  cases hF
  exact Er ()

/-! laws.szStored -/
def l_szStored (a_a : Stored) (a_left : Int) : Option (Int) :=
  (l_szAccess a_a.Access a_left).bind fun r2 =>
  if (decide ((r2 : Int) < 0)) then (
    some (-1))
  else (
    (l_szFactS a_a.Facts r2).bind fun r5 =>
    if (decide ((r5 : Int) < 0)) then (
      some (-1))
    else (
      some r5))
theorem l_szStored_ok (a_a : Stored) (v0_1 : Sv) (v0_2 : Sv) (a_left : Int) (R : Int) (hF : l_szStored a_a a_left = some R) :
    Fw.Spec Tryz.prog 139 [(.agg [(.int .i64 a_a.Access.Method), v0_1.v, v0_2.v, (.int .i64 a_a.At)].toArray), (.int .i64 a_left)] [crd (RdS 3 rdInt) v0_1.v a_a.Access.Values, crd (RdS 157 rd157) v0_2.v a_a.Facts] (fun _ : Unit => (.int .i64 R)) (fun _ => []) := by
  refine Spec_enter (n := 18) Tryz.func139 rfl rfl (rs := [.tmp 4]) rfl rfl rfl ?_
  intro H0 F0
  unfold l_szStored at hF
  refine au ?_
  refine AbR (fun k1 => ?_)
  iterate 4 refine au ?_
  refine C_at .h (fun hp => V_loadA (s := 2) (l := [(.int .i64 a_a.Access.Method), v0_1.v]) ag118.h ty118.h.sz (.tmp rfl rfl) hp.2 rfl (by decide) (Nat.le_of_ble_eq_true rfl) rfl) ?_
  refine au ?_
  obtain ⟨r2, hx3, hF⟩ := bind_some hF
  refine Cx0 (l_szAccess_ok _ _ _ _ hx3) (fun _ => ?_)
  iterate 7 refine au ?_
  refine Cc (fun hb9 => ?_) (fun hb9 => ?_)
  · rw [if_pos hb9] at hF
    iterate 4 refine au ?_
    cases hF
    exact Er ()
  rw [if_neg (nt hb9)] at hF
  iterate 5 refine au ?_
  obtain ⟨r5, hx6, hF⟩ := bind_some hF
  refine Cx0 (l_szFactS_ok _ _ _ _ hx6) (fun _ => ?_)
  iterate 7 refine au ?_
  refine Cc (fun hb8 => ?_) (fun hb8 => ?_)
  · rw [if_pos hb8] at hF
    iterate 4 refine au ?_
    cases hF
    exact Er ()
  rw [if_neg (nt hb8)] at hF
  iterate 6 refine au ?_
  cases hF
  exact Er ()

/-! laws.szStoredS -/
def l_szStoredS_L1 : List Stored → Nat → Int → Option (Int)
  | [], k5, c1 => some c1
  | x7 :: rest6, k5, c1 => (l_szStored x7 c1).bind fun r17 =>
    if (decide ((r17 : Int) < 0)) then (
      some (-1))
    else (
      l_szStoredS_L1 rest6 (k5 + 1) r17)
def l_szStoredS (a_a : List Stored) (a_left : Int) : Option (Int) :=
  if (decide (((IntKind.i64.wrap (a_left - (a_a.length : Int))) : Int) < 0)) then (
    some (-1))
  else (
    l_szStoredS_L1 a_a 0 (IntKind.i64.wrap (a_left - (a_a.length : Int))))
theorem l_szStoredS_ok (a_a : List Stored) (v0_0 : Sv) (a_left : Int) (R : Int) (hF : l_szStoredS a_a a_left = some R) :
    Fw.Spec Tryz.prog 85 [v0_0.v, (.int .i64 a_left)] [crd (RdS 160 rd160) v0_0.v a_a] (fun _ : Unit => (.int .i64 R)) (fun _ => []) := by
  refine Spec_enter (n := 27) Tryz.func85 rfl rfl (rs := [.tmp 4]) rfl rfl rfl ?_
  intro H0 F0
  unfold l_szStoredS at hF
  iterate 15 refine au ?_
  refine Cc (fun hb22 => ?_) (fun hb22 => ?_)
  · rw [if_pos hb22] at hF
    iterate 4 refine au ?_
    cases hF
    exact Er ()
  rw [if_neg (nt hb22)] at hF
  iterate 5 refine au ?_
  refine CW_block (CW_loop (m := a_a.length) (fun m3 f' cs' => ∃ (g : Fr) (k5 : Nat) (rest6 : List Stored) (c1 : Int), m3 = rest6.length ∧ f' = updL g [(0, v0_0.v), (1, (.int .i64 c1)), (5, (.int .i64 (k5 : Int)))] ∧ List.drop k5 a_a = rest6 ∧ Ent cs' [crd (RdS 160 rd160) v0_0.v a_a] ∧ l_szStoredS_L1 rest6 k5 c1 = some R) ⟨_, 0, _, _, rfl, eqA, rfl, entA, hF⟩ ?_)
  clear hF
  rintro m3 _ _ ⟨g4, k5, rest6, c1, rfl, rfl, hd8, hE, hF⟩
  refine K_ent hE ?_
  clear hE
  refine K_pure (c := crd (RdS 160 rd160) v0_0.v a_a) .h crd_bound (fun hbd13 => ?_)
  rcases rest6 with _ | ⟨x7, rest6⟩
  · have hk9 := List.drop_eq_nil_iff.1 hd8
    rw [l_szStoredS_L1] at hF
    iterate 7 refine au ?_
    refine CdF ?_
    iterate 9 refine au ?_
    cases hF
    exact Er ()
  obtain ⟨hk9, hx10, hd11⟩ := drop_cons hd8
  rw [l_szStoredS_L1] at hF
  iterate 7 refine au ?_
  refine CdT ?_
  iterate 5 refine au ?_
  refine Ai hx10 (fun k14 j15 => ?_)
  refine AlA2 (ul160_0_160 x7) la160_0_160 (fun p16 => ?_)
  refine au ?_
  obtain ⟨r17, hx18, hF⟩ := bind_some hF
  refine Cx0 (l_szStored_ok _ _ _ _ _ hx18) (fun _ => ?_)
  iterate 6 refine au ?_
  refine Cc (fun hb21 => ?_) (fun hb21 => ?_)
  · rw [if_pos hb21] at hF
    iterate 4 refine au ?_
    cases hF
    exact Er ()
  rw [if_neg (nt hb21)] at hF
  iterate 6 refine au ?_
  rw [wk k5]
  exact ⟨_, Nat.lt_succ_self _, _, k5 + 1, rest6, _, rfl, eqA, hd11, entA, hF⟩

/-! laws.szCache -/
def l_szCache (a_a : Cache) (a_left : Int) : Option (Int) :=
  (l_szStoredS a_a.Entries a_left).bind fun r2 =>
  if (decide ((r2 : Int) < 0)) then (
    some (-1))
  else (
    some r2)
theorem l_szCache_ok (a_a : Cache) (v0_0 : Sv) (a_left : Int) (R : Int) (hF : l_szCache a_a a_left = some R) :
    Fw.Spec Tryz.prog 35 [(.agg [v0_0.v, (.int .i64 a_a.Age)].toArray), (.int .i64 a_left)] [crd (RdS 160 rd160) v0_0.v a_a.Entries] (fun _ : Unit => (.int .i64 R)) (fun _ => []) := by
  refine Spec_enter (n := 12) Tryz.func35 rfl rfl (rs := [.tmp 4]) rfl rfl rfl ?_
  intro H0 F0
  unfold l_szCache at hF
  refine au ?_
  refine AbR (fun k1 => ?_)
  iterate 6 refine au ?_
  obtain ⟨r2, hx3, hF⟩ := bind_some hF
  refine Cx0 (l_szStoredS_ok _ _ _ _ hx3) (fun _ => ?_)
  iterate 7 refine au ?_
  refine Cc (fun hb5 => ?_) (fun hb5 => ?_)
  · rw [if_pos hb5] at hF
    iterate 4 refine au ?_
    cases hF
    exact Er ()
  rw [if_neg (nt hb5)] at hF
  iterate 6 refine au ?_
  cases hF
  exact Er ()

/-! laws.szAccessS -/
def l_szAccessS_L1 : List Access → Nat → Int → Option (Int)
  | [], k5, c1 => some c1
  | x7 :: rest6, k5, c1 => (l_szAccess x7 c1).bind fun r17 =>
    if (decide ((r17 : Int) < 0)) then (
      some (-1))
    else (
      l_szAccessS_L1 rest6 (k5 + 1) r17)
def l_szAccessS (a_a : List Access) (a_left : Int) : Option (Int) :=
  if (decide (((IntKind.i64.wrap (a_left - (a_a.length : Int))) : Int) < 0)) then (
    some (-1))
  else (
    l_szAccessS_L1 a_a 0 (IntKind.i64.wrap (a_left - (a_a.length : Int))))
theorem l_szAccessS_ok (a_a : List Access) (v0_0 : Sv) (a_left : Int) (R : Int) (hF : l_szAccessS a_a a_left = some R) :
    Fw.Spec Tryz.prog 36 [v0_0.v, (.int .i64 a_left)] [crd (RdS 118 rd118) v0_0.v a_a] (fun _ : Unit => (.int .i64 R)) (fun _ => []) := by
  refine Spec_enter (n := 27) Tryz.func36 rfl rfl (rs := [.tmp 4]) rfl rfl rfl ?_
  intro H0 F0
  unfold l_szAccessS at hF
  iterate 15 refine au ?_
  refine Cc (fun hb22 => ?_) (fun hb22 => ?_)
  · rw [if_pos hb22] at hF
    iterate 4 refine au ?_
    cases hF
    exact Er ()
  rw [if_neg (nt hb22)] at hF
  iterate 5 refine au ?_
  refine CW_block (CW_loop (m := a_a.length) (fun m3 f' cs' => ∃ (g : Fr) (k5 : Nat) (rest6 : List Access) (c1 : Int), m3 = rest6.length ∧ f' = updL g [(0, v0_0.v), (1, (.int .i64 c1)), (5, (.int .i64 (k5 : Int)))] ∧ List.drop k5 a_a = rest6 ∧ Ent cs' [crd (RdS 118 rd118) v0_0.v a_a] ∧ l_szAccessS_L1 rest6 k5 c1 = some R) ⟨_, 0, _, _, rfl, eqA, rfl, entA, hF⟩ ?_)
  clear hF
  rintro m3 _ _ ⟨g4, k5, rest6, c1, rfl, rfl, hd8, hE, hF⟩
  refine K_ent hE ?_
  clear hE
  refine K_pure (c := crd (RdS 118 rd118) v0_0.v a_a) .h crd_bound (fun hbd13 => ?_)
  rcases rest6 with _ | ⟨x7, rest6⟩
  · have hk9 := List.drop_eq_nil_iff.1 hd8
    rw [l_szAccessS_L1] at hF
    iterate 7 refine au ?_
    refine CdF ?_
    iterate 9 refine au ?_
    cases hF
    exact Er ()
  obtain ⟨hk9, hx10, hd11⟩ := drop_cons hd8
  rw [l_szAccessS_L1] at hF
  iterate 7 refine au ?_
  refine CdT ?_
  iterate 5 refine au ?_
  refine Ai hx10 (fun k14 j15 => ?_)
  refine AlA1 (ul118_0_118 x7) la118_0_118 (fun p16 => ?_)
  refine au ?_
  obtain ⟨r17, hx18, hF⟩ := bind_some hF
  refine Cx0 (l_szAccess_ok _ _ _ _ hx18) (fun _ => ?_)
  iterate 6 refine au ?_
  refine Cc (fun hb21 => ?_) (fun hb21 => ?_)
  · rw [if_pos hb21] at hF
    iterate 4 refine au ?_
    cases hF
    exact Er ()
  rw [if_neg (nt hb21)] at hF
  iterate 6 refine au ?_
  rw [wk k5]
  exact ⟨_, Nat.lt_succ_self _, _, k5 + 1, rest6, _, rfl, eqA, hd11, entA, hF⟩

/-! laws.szIntSS -/
def l_szIntSS_L1 : List (List Int) → Nat → Int → Option (Int)
  | [], k5, c1 => some c1
  | x7 :: rest6, k5, c1 => (l_szIntS x7 c1).bind fun r17 =>
    if (decide ((r17 : Int) < 0)) then (
      some (-1))
    else (
      l_szIntSS_L1 rest6 (k5 + 1) r17)
def l_szIntSS (a_a : List (List Int)) (a_left : Int) : Option (Int) :=
  if (decide (((IntKind.i64.wrap (a_left - (a_a.length : Int))) : Int) < 0)) then (
    some (-1))
  else (
    l_szIntSS_L1 a_a 0 (IntKind.i64.wrap (a_left - (a_a.length : Int))))
theorem l_szIntSS_ok (a_a : List (List Int)) (v0_0 : Sv) (a_left : Int) (R : Int) (hF : l_szIntSS a_a a_left = some R) :
    Fw.Spec Tryz.prog 87 [v0_0.v, (.int .i64 a_left)] [crd (RdS 22 (RdS 3 rdInt)) v0_0.v a_a] (fun _ : Unit => (.int .i64 R)) (fun _ => []) := by
  refine Spec_enter (n := 27) Tryz.func87 rfl rfl (rs := [.tmp 4]) rfl rfl rfl ?_
  intro H0 F0
  unfold l_szIntSS at hF
  iterate 15 refine au ?_
  refine Cc (fun hb22 => ?_) (fun hb22 => ?_)
  · rw [if_pos hb22] at hF
    iterate 4 refine au ?_
    cases hF
    exact Er ()
  rw [if_neg (nt hb22)] at hF
  iterate 5 refine au ?_
  refine CW_block (CW_loop (m := a_a.length) (fun m3 f' cs' => ∃ (g : Fr) (k5 : Nat) (rest6 : List (List Int)) (c1 : Int), m3 = rest6.length ∧ f' = updL g [(0, v0_0.v), (1, (.int .i64 c1)), (5, (.int .i64 (k5 : Int)))] ∧ List.drop k5 a_a = rest6 ∧ Ent cs' [crd (RdS 22 (RdS 3 rdInt)) v0_0.v a_a] ∧ l_szIntSS_L1 rest6 k5 c1 = some R) ⟨_, 0, _, _, rfl, eqA, rfl, entA, hF⟩ ?_)
  clear hF
  rintro m3 _ _ ⟨g4, k5, rest6, c1, rfl, rfl, hd8, hE, hF⟩
  refine K_ent hE ?_
  clear hE
  refine K_pure (c := crd (RdS 22 (RdS 3 rdInt)) v0_0.v a_a) .h crd_bound (fun hbd13 => ?_)
  rcases rest6 with _ | ⟨x7, rest6⟩
  · have hk9 := List.drop_eq_nil_iff.1 hd8
    rw [l_szIntSS_L1] at hF
    iterate 7 refine au ?_
    refine CdF ?_
    iterate 9 refine au ?_
    cases hF
    exact Er ()
  obtain ⟨hk9, hx10, hd11⟩ := drop_cons hd8
  rw [l_szIntSS_L1] at hF
  iterate 7 refine au ?_
  refine CdT ?_
  iterate 5 refine au ?_
  refine Ai hx10 (fun k14 j15 => ?_)
  refine C_ldV (R' := (RdS 3 rdInt)) ag22.h (.tmp rfl rfl) .h lv22_0 (fun w16 => ?_)
  refine au ?_
  obtain ⟨r17, hx18, hF⟩ := bind_some hF
  refine Cx0 (l_szIntS_ok _ _ _ _ hx18) (fun _ => ?_)
  iterate 6 refine au ?_
  refine Cc (fun hb21 => ?_) (fun hb21 => ?_)
  · rw [if_pos hb21] at hF
    iterate 4 refine au ?_
    cases hF
    exact Er ()
  rw [if_neg (nt hb21)] at hF
  iterate 6 refine au ?_
  rw [wk k5]
  exact ⟨_, Nat.lt_succ_self _, _, k5 + 1, rest6, _, rfl, eqA, hd11, entA, hF⟩

/-! laws.szIntSSS -/
def l_szIntSSS_L1 : List (List (List Int)) → Nat → Int → Option (Int)
  | [], k5, c1 => some c1
  | x7 :: rest6, k5, c1 => (l_szIntSS x7 c1).bind fun r17 =>
    if (decide ((r17 : Int) < 0)) then (
      some (-1))
    else (
      l_szIntSSS_L1 rest6 (k5 + 1) r17)
def l_szIntSSS (a_a : List (List (List Int))) (a_left : Int) : Option (Int) :=
  if (decide (((IntKind.i64.wrap (a_left - (a_a.length : Int))) : Int) < 0)) then (
    some (-1))
  else (
    l_szIntSSS_L1 a_a 0 (IntKind.i64.wrap (a_left - (a_a.length : Int))))
theorem l_szIntSSS_ok (a_a : List (List (List Int))) (v0_0 : Sv) (a_left : Int) (R : Int) (hF : l_szIntSSS a_a a_left = some R) :
    Fw.Spec Tryz.prog 37 [v0_0.v, (.int .i64 a_left)] [crd (RdS 120 (RdS 22 (RdS 3 rdInt))) v0_0.v a_a] (fun _ : Unit => (.int .i64 R)) (fun _ => []) := by
  refine Spec_enter (n := 27) Tryz.func37 rfl rfl (rs := [.tmp 4]) rfl rfl rfl ?_
  intro H0 F0
  unfold l_szIntSSS at hF
  iterate 15 refine au ?_
  refine Cc (fun hb22 => ?_) (fun hb22 => ?_)
  · rw [if_pos hb22] at hF
    iterate 4 refine au ?_
    cases hF
    exact Er ()
  rw [if_neg (nt hb22)] at hF
  iterate 5 refine au ?_
  refine CW_block (CW_loop (m := a_a.length) (fun m3 f' cs' => ∃ (g : Fr) (k5 : Nat) (rest6 : List (List (List Int))) (c1 : Int), m3 = rest6.length ∧ f' = updL g [(0, v0_0.v), (1, (.int .i64 c1)), (5, (.int .i64 (k5 : Int)))] ∧ List.drop k5 a_a = rest6 ∧ Ent cs' [crd (RdS 120 (RdS 22 (RdS 3 rdInt))) v0_0.v a_a] ∧ l_szIntSSS_L1 rest6 k5 c1 = some R) ⟨_, 0, _, _, rfl, eqA, rfl, entA, hF⟩ ?_)
  clear hF
  rintro m3 _ _ ⟨g4, k5, rest6, c1, rfl, rfl, hd8, hE, hF⟩
  refine K_ent hE ?_
  clear hE
  refine K_pure (c := crd (RdS 120 (RdS 22 (RdS 3 rdInt))) v0_0.v a_a) .h crd_bound (fun hbd13 => ?_)
  rcases rest6 with _ | ⟨x7, rest6⟩
  · have hk9 := List.drop_eq_nil_iff.1 hd8
    rw [l_szIntSSS_L1] at hF
    iterate 7 refine au ?_
    refine CdF ?_
    iterate 9 refine au ?_
    cases hF
    exact Er ()
  obtain ⟨hk9, hx10, hd11⟩ := drop_cons hd8
  rw [l_szIntSSS_L1] at hF
  iterate 7 refine au ?_
  refine CdT ?_
  iterate 5 refine au ?_
  refine Ai hx10 (fun k14 j15 => ?_)
  refine C_ldV (R' := (RdS 22 (RdS 3 rdInt))) ag120.h (.tmp rfl rfl) .h lv120_0 (fun w16 => ?_)
  refine au ?_
  obtain ⟨r17, hx18, hF⟩ := bind_some hF
  refine Cx0 (l_szIntSS_ok _ _ _ _ hx18) (fun _ => ?_)
  iterate 6 refine au ?_
  refine Cc (fun hb21 => ?_) (fun hb21 => ?_)
  · rw [if_pos hb21] at hF
    iterate 4 refine au ?_
    cases hF
    exact Er ()
  rw [if_neg (nt hb21)] at hF
  iterate 6 refine au ?_
  rw [wk k5]
  exact ⟨_, Nat.lt_succ_self _, _, k5 + 1, rest6, _, rfl, eqA, hd11, entA, hF⟩

/-! laws.szMediator -/
def l_szMediator (a_a : Mediator) (a_left : Int) : Option (Int) :=
  (l_szIntS a_a.Schema a_left).bind fun r2 =>
  if (decide ((r2 : Int) < 0)) then (
    some (-1))
  else (
    (l_szMethodS a_a.Methods r2).bind fun r5 =>
    if (decide ((r5 : Int) < 0)) then (
      some (-1))
    else (
      (l_szRuleS a_a.Rules r5).bind fun r8 =>
      if (decide ((r8 : Int) < 0)) then (
        some (-1))
      else (
        (l_szSource a_a.Source r8).bind fun r11 =>
        if (decide ((r11 : Int) < 0)) then (
          some (-1))
        else (
          (l_szCache a_a.Cache r11).bind fun r14 =>
          if (decide ((r14 : Int) < 0)) then (
            some (-1))
          else (
            (l_szAccessS a_a.Log r14).bind fun r17 =>
            if (decide ((r17 : Int) < 0)) then (
              some (-1))
            else (
              (l_szIntS a_a.Times r17).bind fun r20 =>
              if (decide ((r20 : Int) < 0)) then (
                some (-1))
              else (
                (l_szIntSSS a_a.Results r20).bind fun r23 =>
                if (decide ((r23 : Int) < 0)) then (
                  some (-1))
                else (
                  some r23))))))))
theorem l_szMediator_ok (a_a : Mediator) (v0_0 : Sv) (v0_1 : Sv) (v0_2 : Sv) (v0_3 : Sv) (v0_5 : Sv) (v0_8 : Sv) (v0_9 : Sv) (v0_11 : Sv) (a_left : Int) (R : Int) (hF : l_szMediator a_a a_left = some R) :
    Fw.Spec Tryz.prog 7 [(.agg [v0_0.v, v0_1.v, v0_2.v, v0_3.v, (.int .i64 a_a.Source.Version), v0_5.v, (.int .i64 a_a.Cache.Age), (.int .i64 a_a.Now), v0_8.v, v0_9.v, (.int .i64 a_a.Spent), v0_11.v].toArray), (.int .i64 a_left)] [crd (RdS 3 rdInt) v0_0.v a_a.Schema, crd (RdS 36 rd36) v0_1.v a_a.Methods, crd (RdS 61 rd61) v0_2.v a_a.Rules, crd (RdS 157 rd157) v0_3.v a_a.Source.Facts, crd (RdS 160 rd160) v0_5.v a_a.Cache.Entries, crd (RdS 118 rd118) v0_8.v a_a.Log, crd (RdS 3 rdInt) v0_9.v a_a.Times, crd (RdS 120 (RdS 22 (RdS 3 rdInt))) v0_11.v a_a.Results] (fun _ : Unit => (.int .i64 R)) (fun _ => []) := by
  refine Spec_enter (n := 54) Tryz.func7 rfl rfl (rs := [.tmp 4]) rfl rfl rfl ?_
  intro H0 F0
  unfold l_szMediator at hF
  refine au ?_
  refine AbR (fun k1 => ?_)
  iterate 6 refine au ?_
  obtain ⟨r2, hx3, hF⟩ := bind_some hF
  refine Cx0 (l_szIntS_ok _ _ _ _ hx3) (fun _ => ?_)
  iterate 7 refine au ?_
  refine Cc (fun hb33 => ?_) (fun hb33 => ?_)
  · rw [if_pos hb33] at hF
    iterate 4 refine au ?_
    cases hF
    exact Er ()
  rw [if_neg (nt hb33)] at hF
  iterate 5 refine au ?_
  obtain ⟨r5, hx6, hF⟩ := bind_some hF
  refine Cx0 (l_szMethodS_ok _ _ _ _ hx6) (fun _ => ?_)
  iterate 7 refine au ?_
  refine Cc (fun hb32 => ?_) (fun hb32 => ?_)
  · rw [if_pos hb32] at hF
    iterate 4 refine au ?_
    cases hF
    exact Er ()
  rw [if_neg (nt hb32)] at hF
  iterate 5 refine au ?_
  obtain ⟨r8, hx9, hF⟩ := bind_some hF
  refine Cx0 (l_szRuleS_ok _ _ _ _ hx9) (fun _ => ?_)
  iterate 7 refine au ?_
  refine Cc (fun hb31 => ?_) (fun hb31 => ?_)
  · rw [if_pos hb31] at hF
    iterate 4 refine au ?_
    cases hF
    exact Er ()
  rw [if_neg (nt hb31)] at hF
  iterate 3 refine au ?_
  refine C_at .h (fun hp => V_loadA (s := 2) (l := [v0_3.v, (.int .i64 a_a.Source.Version)]) ag27.h ty27.h.sz (.tmp rfl rfl) hp.2 rfl (by decide) (Nat.le_of_ble_eq_true rfl) rfl) ?_
  refine au ?_
  obtain ⟨r11, hx12, hF⟩ := bind_some hF
  refine Cx0 (l_szSource_ok _ _ _ _ hx12) (fun _ => ?_)
  iterate 7 refine au ?_
  refine Cc (fun hb30 => ?_) (fun hb30 => ?_)
  · rw [if_pos hb30] at hF
    iterate 4 refine au ?_
    cases hF
    exact Er ()
  rw [if_neg (nt hb30)] at hF
  iterate 3 refine au ?_
  refine C_at .h (fun hp => V_loadA (s := 2) (l := [v0_5.v, (.int .i64 a_a.Cache.Age)]) ag30.h ty30.h.sz (.tmp rfl rfl) hp.2 rfl (by decide) (Nat.le_of_ble_eq_true rfl) rfl) ?_
  refine au ?_
  obtain ⟨r14, hx15, hF⟩ := bind_some hF
  refine Cx0 (l_szCache_ok _ _ _ _ hx15) (fun _ => ?_)
  iterate 7 refine au ?_
  refine Cc (fun hb29 => ?_) (fun hb29 => ?_)
  · rw [if_pos hb29] at hF
    iterate 4 refine au ?_
    cases hF
    exact Er ()
  rw [if_neg (nt hb29)] at hF
  iterate 5 refine au ?_
  obtain ⟨r17, hx18, hF⟩ := bind_some hF
  refine Cx0 (l_szAccessS_ok _ _ _ _ hx18) (fun _ => ?_)
  iterate 7 refine au ?_
  refine Cc (fun hb28 => ?_) (fun hb28 => ?_)
  · rw [if_pos hb28] at hF
    iterate 4 refine au ?_
    cases hF
    exact Er ()
  rw [if_neg (nt hb28)] at hF
  iterate 5 refine au ?_
  obtain ⟨r20, hx21, hF⟩ := bind_some hF
  refine Cx0 (l_szIntS_ok _ _ _ _ hx21) (fun _ => ?_)
  iterate 7 refine au ?_
  refine Cc (fun hb27 => ?_) (fun hb27 => ?_)
  · rw [if_pos hb27] at hF
    iterate 4 refine au ?_
    cases hF
    exact Er ()
  rw [if_neg (nt hb27)] at hF
  iterate 5 refine au ?_
  obtain ⟨r23, hx24, hF⟩ := bind_some hF
  refine Cx0 (l_szIntSSS_ok _ _ _ _ hx24) (fun _ => ?_)
  iterate 7 refine au ?_
  refine Cc (fun hb26 => ?_) (fun hb26 => ?_)
  · rw [if_pos hb26] at hF
    iterate 4 refine au ?_
    cases hF
    exact Er ()
  rw [if_neg (nt hb26)] at hF
  iterate 6 refine au ?_
  cases hF
  exact Er ()

/-! laws.toIntS -/
def l_toIntS_L1 : List Int → Nat → (List Int) → Option ((List Int))
  | [], k32, c27 => some c27
  | x34 :: rest33, k32, c27 => (chk (decide (0 ≤ (k32 : Int)) && decide ((k32 : Int) < (c27.length : Int)))).bind fun u46 =>
    (some (c27.set ((k32 : Int)).toNat x34)).bind fun z48 =>
    l_toIntS_L1 rest33 (k32 + 1) z48
def l_toIntS (a_a : List Int) : Option ((List Int)) :=
  (mkz (a_a.length : Int) (0 : Int)).bind fun z1 =>
  l_toIntS_L1 a_a 0 z1
theorem l_toIntS_ok (a_a : List Int) (v0_0 : Sv) (R : (List Int)) (hF : l_toIntS a_a = some R) :
    Fw.Spec Tryz.prog 42 [v0_0.v] [crd (RdS 3 rdInt) v0_0.v a_a] (fun p : Sv × List Nat => p.1.v) (fun p => [cown (OwnS 3 (roE rdInt)) p.2 p.1.v R]) := by
  refine Spec_enter (n := 22) Tryz.func42 rfl rfl (rs := [.tmp 2]) rfl rfl rfl ?_
  intro H0 F0
  unfold l_toIntS at hF
  iterate 6 refine au ?_
  obtain ⟨z1, hx2, hF⟩ := bind_some hF
  have hm3 := mkz_some hx2
  refine C_new rfl (N_makeSlice (g := true) (c := (a_a.length : Int)) sl22.h ty3.h rfl rfl (by decide) (.tmp rfl rfl) hm3.2.1 hm3.2.2) (fun k4 => ?_)
  refine Cv1 (.cons .h .nil) (own_make (Ro := (roE rdInt)) (E := 3) (a := (0 : Int)) hx2 (fun _ => ⟨rfl, rfl⟩)) ?_
  iterate 6 refine au ?_
  refine CW_block (CW_loop (m := a_a.length) (fun m30 f' cs' => ∃ (g : Fr) (k32 : Nat) (rest33 : List Int) (c27 : List Int) (F28 : List Nat), m30 = rest33.length ∧ f' = updL g [(0, v0_0.v), (3, (.slice (some ⟨k4, 0, none⟩) (a_a.length : Int).toNat 1)), (4, (.int .i64 (k32 : Int)))] ∧ List.drop k32 a_a = rest33 ∧ Ent cs' [crd (RdS 3 rdInt) v0_0.v a_a, cown (OwnS 3 (roE rdInt)) F28 (.slice (some ⟨k4, 0, none⟩) (a_a.length : Int).toNat 1) c27] ∧ l_toIntS_L1 rest33 k32 c27 = some R) ⟨_, 0, _, _, [k4], rfl, eqA, rfl, entA, hF⟩ ?_)
  clear hF
  rintro m30 _ _ ⟨g31, k32, rest33, c27, F28, rfl, rfl, hd35, hE, hF⟩
  refine K_ent hE ?_
  clear hE
  refine K_pure (c := crd (RdS 3 rdInt) v0_0.v a_a) .h crd_bound (fun hbd40 => ?_)
  rcases rest33 with _ | ⟨x34, rest33⟩
  · have hk36 := List.drop_eq_nil_iff.1 hd35
    rw [l_toIntS_L1] at hF
    iterate 7 refine au ?_
    refine CdF ?_
    iterate 9 refine au ?_
    cases hF
    exact Er (⟨(some ⟨k4, 0, none⟩), (a_a.length : Int).toNat, 1⟩, F28)
  obtain ⟨hk36, hx37, hd38⟩ := drop_cons hd35
  rw [l_toIntS_L1] at hF
  iterate 7 refine au ?_
  refine CdT ?_
  iterate 7 refine au ?_
  refine Ai hx37 (fun k41 j42 => ?_)
  refine Al ls3_0 ?_
  obtain ⟨u46, hx47, hF⟩ := bind_some hF
  have hi45 := chk_some hx47
  refine C_idxO sl22.h ty3.h.sz (.tmp rfl rfl) (.tmp rfl rfl) (.t (.t .h)) hi45 (fun k43 hk44 => ?_)
  obtain ⟨z48, hx49, hF⟩ := bind_some hF
  replace hx49 := Option.some.inj hx49
  refine C_x1 (.cons (.t (.t .h)) .nil) (X_storeO (Ro := (roE rdInt)) (a := x34) (i := (k32 : Int)) ty3.h.sz rfl (.tmp rfl rfl) (.tmp rfl rfl) hk44 hi45 (Mk_pure (fun _ => rfl)) (fun _ _ _ _ h => by obtain ⟨-, h⟩ := h; cases h; rfl)) (fun F50 => ?_)
  rw [hx49]
  iterate 6 refine au ?_
  rw [wk k32]
  exact ⟨_, Nat.lt_succ_self _, _, k32 + 1, rest33, _, F50, rfl, eqA, hd38, entA, hF⟩

/-! laws.toMethod -/
def l_toMethod (a_a : Method) : Option (Method) :=
  (l_toIntS a_a.Inputs).bind fun r4 =>
  some ({ Rel := a_a.Rel, Inputs := r4, Limit := a_a.Limit, Cost := a_a.Cost, Quota := a_a.Quota } : Method)
theorem l_toMethod_ok (a_a : Method) (v0_1 : Sv) (R : Method) (hF : l_toMethod a_a = some R) :
    Fw.Spec Tryz.prog 11 [(.agg [(.int .i64 a_a.Rel), v0_1.v, (.int .i64 a_a.Limit), (.int .i64 a_a.Cost), (.int .i64 a_a.Quota)].toArray)] [crd (RdS 3 rdInt) v0_1.v a_a.Inputs] (fun p : Sv × List Nat => (.agg [(.int .i64 R.Rel), p.1.v, (.int .i64 R.Limit), (.int .i64 R.Cost), (.int .i64 R.Quota)].toArray)) (fun p => [cown (OwnS 3 (roE rdInt)) p.2 p.1.v R.Inputs]) := by
  refine Spec_enter (n := 21) Tryz.func11 rfl rfl (rs := [.cell 2 53]) rfl rfl rfl ?_
  intro H0 F0
  unfold l_toMethod at hF
  refine au ?_
  refine AbR (fun k1 => ?_)
  refine AnW (fun k2 => ?_)
  iterate 2 refine au ?_
  refine AnW (fun k3 => ?_)
  iterate 5 refine au ?_
  refine As (.agg [(.int .i64 a_a.Rel), (.slice none 0 0), (.int .i64 0), (.int .i64 0), (.int .i64 0)].toArray) ?_
  iterate 4 refine au ?_
  obtain ⟨r4, hx5, hF⟩ := bind_some hF
  refine Cx1 (l_toIntS_ok _ _ _ hx5) (fun p6 => ?_)
  refine au ?_
  refine As (.agg [(.int .i64 a_a.Rel), p6.1.v, (.int .i64 0), (.int .i64 0), (.int .i64 0)].toArray) ?_
  iterate 5 refine au ?_
  refine As (.agg [(.int .i64 a_a.Rel), p6.1.v, (.int .i64 a_a.Limit), (.int .i64 0), (.int .i64 0)].toArray) ?_
  iterate 5 refine au ?_
  refine As (.agg [(.int .i64 a_a.Rel), p6.1.v, (.int .i64 a_a.Limit), (.int .i64 a_a.Cost), (.int .i64 0)].toArray) ?_
  iterate 5 refine au ?_
  refine As (.agg [(.int .i64 a_a.Rel), p6.1.v, (.int .i64 a_a.Limit), (.int .i64 a_a.Cost), (.int .i64 a_a.Quota)].toArray) ?_
  iterate 3 refine au ?_
  refine As (.agg [(.int .i64 a_a.Rel), p6.1.v, (.int .i64 a_a.Limit), (.int .i64 a_a.Cost), (.int .i64 a_a.Quota)].toArray) ?_
  iterate 2 refine au ?_
  cases hF
  exact Er (p6.1, p6.2)

/-! laws.toMethodS -/
def l_toMethodS_L1 : List Method → Nat → (List Method) → Option ((List Method))
  | [], k36, c31 => some c31
  | x38 :: rest37, k36, c31 => (l_toMethod x38).bind fun r48 =>
    (chk (decide (0 ≤ (k36 : Int)) && decide ((k36 : Int) < (c31.length : Int)))).bind fun u54 =>
    (some (c31.set ((k36 : Int)).toNat r48)).bind fun z56 =>
    l_toMethodS_L1 rest37 (k36 + 1) z56
def l_toMethodS (a_a : List Method) : Option ((List Method)) :=
  (mkz (a_a.length : Int) (({ Rel := 0, Inputs := [], Limit := 0, Cost := 0, Quota := 0 } : Method) : Method)).bind fun z1 =>
  l_toMethodS_L1 a_a 0 z1
theorem l_toMethodS_ok (a_a : List Method) (v0_0 : Sv) (R : (List Method)) (hF : l_toMethodS a_a = some R) :
    Fw.Spec Tryz.prog 43 [v0_0.v] [crd (RdS 36 rd36) v0_0.v a_a] (fun p : Sv × List Nat => p.1.v) (fun p => [cown (OwnS 53 ow53) p.2 p.1.v R]) := by
  refine Spec_enter (n := 23) Tryz.func43 rfl rfl (rs := [.tmp 2]) rfl rfl rfl ?_
  intro H0 F0
  unfold l_toMethodS at hF
  iterate 6 refine au ?_
  obtain ⟨z1, hx2, hF⟩ := bind_some hF
  have hm3 := mkz_some hx2
  refine C_new rfl (N_makeSlice (g := true) (c := (a_a.length : Int)) sl39.h ty53.h rfl rfl (by decide) (.tmp rfl rfl) hm3.2.1 hm3.2.2) (fun k4 => ?_)
  refine Cv1 (.cons .h .nil) (own_make (Ro := ow53) (E := 53) (a := (({ Rel := 0, Inputs := [], Limit := 0, Cost := 0, Quota := 0 } : Method) : Method)) hx2 (fun _ => ⟨⟨none, 0, 0⟩, [], rfl, rfl, .inl ⟨rfl, rfl, rfl⟩⟩)) ?_
  iterate 6 refine au ?_
  refine CW_block (CW_loop (m := a_a.length) (fun m34 f' cs' => ∃ (g : Fr) (k36 : Nat) (rest37 : List Method) (c31 : List Method) (F32 : List Nat), m34 = rest37.length ∧ f' = updL g [(0, v0_0.v), (3, (.slice (some ⟨k4, 0, none⟩) (a_a.length : Int).toNat 1)), (4, (.int .i64 (k36 : Int)))] ∧ List.drop k36 a_a = rest37 ∧ Ent cs' [crd (RdS 36 rd36) v0_0.v a_a, cown (OwnS 53 ow53) F32 (.slice (some ⟨k4, 0, none⟩) (a_a.length : Int).toNat 1) c31] ∧ l_toMethodS_L1 rest37 k36 c31 = some R) ⟨_, 0, _, _, [k4], rfl, eqA, rfl, entA, hF⟩ ?_)
  clear hF
  rintro m34 _ _ ⟨g35, k36, rest37, c31, F32, rfl, rfl, hd39, hE, hF⟩
  refine K_ent hE ?_
  clear hE
  refine K_pure (c := crd (RdS 36 rd36) v0_0.v a_a) .h crd_bound (fun hbd44 => ?_)
  rcases rest37 with _ | ⟨x38, rest37⟩
  · have hk40 := List.drop_eq_nil_iff.1 hd39
    rw [l_toMethodS_L1] at hF
    iterate 7 refine au ?_
    refine CdF ?_
    iterate 9 refine au ?_
    cases hF
    exact Er (⟨(some ⟨k4, 0, none⟩), (a_a.length : Int).toNat, 1⟩, F32)
  obtain ⟨hk40, hx41, hd42⟩ := drop_cons hd39
  rw [l_toMethodS_L1] at hF
  iterate 7 refine au ?_
  refine CdT ?_
  iterate 7 refine au ?_
  refine Ai hx41 (fun k45 j46 => ?_)
  refine AlA1 (ul36_0_36 x38) la36_0_36 (fun p47 => ?_)
  obtain ⟨r48, hx49, hF⟩ := bind_some hF
  refine Cx1 (l_toMethod_ok _ _ _ hx49) (fun p50 => ?_)
  obtain ⟨u54, hx55, hF⟩ := bind_some hF
  have hi53 := chk_some hx55
  refine C_idxO sl39.h ty53.h.sz (.tmp rfl rfl) (.tmp rfl rfl) (.t (.t (.t (.t .h)))) hi53 (fun k51 hk52 => ?_)
  obtain ⟨z56, hx57, hF⟩ := bind_some hF
  replace hx57 := Option.some.inj hx57
  refine C_x1 (.cons (.t (.t (.t (.t .h)))) (.cons .h .nil)) (X_storeO (Ro := ow53) (a := r48) (i := (k36 : Int)) ty53.h.sz rfl (.tmp rfl rfl) (.tmp rfl rfl) hk52 hi53 mk53 (fun _ _ _ _ h => by obtain ⟨_, _, rfl, rfl, _⟩ := h; rfl)) (fun F58 => ?_)
  rw [hx57]
  iterate 6 refine au ?_
  rw [wk k36]
  exact ⟨_, Nat.lt_succ_self _, _, k36 + 1, rest37, _, F58, rfl, eqA, hd42, entA, hF⟩

/-! laws.toRule -/
def l_toRule (a_a : Rule) : Option (Rule) :=
  (l_toIntS a_a.Map).bind fun r4 =>
  some ({ From := a_a.From, To := a_a.To, Map := r4 } : Rule)
theorem l_toRule_ok (a_a : Rule) (v0_2 : Sv) (R : Rule) (hF : l_toRule a_a = some R) :
    Fw.Spec Tryz.prog 20 [(.agg [(.int .i64 a_a.From), (.int .i64 a_a.To), v0_2.v].toArray)] [crd (RdS 3 rdInt) v0_2.v a_a.Map] (fun p : Sv × List Nat => (.agg [(.int .i64 R.From), (.int .i64 R.To), p.1.v].toArray)) (fun p => [cown (OwnS 3 (roE rdInt)) p.2 p.1.v R.Map]) := by
  refine Spec_enter (n := 15) Tryz.func20 rfl rfl (rs := [.cell 2 64]) rfl rfl rfl ?_
  intro H0 F0
  unfold l_toRule at hF
  refine au ?_
  refine AbR (fun k1 => ?_)
  refine AnW (fun k2 => ?_)
  iterate 2 refine au ?_
  refine AnW (fun k3 => ?_)
  iterate 5 refine au ?_
  refine As (.agg [(.int .i64 a_a.From), (.int .i64 0), (.slice none 0 0)].toArray) ?_
  iterate 5 refine au ?_
  refine As (.agg [(.int .i64 a_a.From), (.int .i64 a_a.To), (.slice none 0 0)].toArray) ?_
  iterate 4 refine au ?_
  obtain ⟨r4, hx5, hF⟩ := bind_some hF
  refine Cx1 (l_toIntS_ok _ _ _ hx5) (fun p6 => ?_)
  refine au ?_
  refine As (.agg [(.int .i64 a_a.From), (.int .i64 a_a.To), p6.1.v].toArray) ?_
  iterate 3 refine au ?_
  refine As (.agg [(.int .i64 a_a.From), (.int .i64 a_a.To), p6.1.v].toArray) ?_
  iterate 2 refine au ?_
  cases hF
  exact Er (p6.1, p6.2)

/-! laws.toRuleS -/
def l_toRuleS_L1 : List Rule → Nat → (List Rule) → Option ((List Rule))
  | [], k36, c31 => some c31
  | x38 :: rest37, k36, c31 => (l_toRule x38).bind fun r48 =>
    (chk (decide (0 ≤ (k36 : Int)) && decide ((k36 : Int) < (c31.length : Int)))).bind fun u54 =>
    (some (c31.set ((k36 : Int)).toNat r48)).bind fun z56 =>
    l_toRuleS_L1 rest37 (k36 + 1) z56
def l_toRuleS (a_a : List Rule) : Option ((List Rule)) :=
  (mkz (a_a.length : Int) (({ From := 0, To := 0, Map := [] } : Rule) : Rule)).bind fun z1 =>
  l_toRuleS_L1 a_a 0 z1
theorem l_toRuleS_ok (a_a : List Rule) (v0_0 : Sv) (R : (List Rule)) (hF : l_toRuleS a_a = some R) :
    Fw.Spec Tryz.prog 44 [v0_0.v] [crd (RdS 61 rd61) v0_0.v a_a] (fun p : Sv × List Nat => p.1.v) (fun p => [cown (OwnS 64 ow64) p.2 p.1.v R]) := by
  refine Spec_enter (n := 23) Tryz.func44 rfl rfl (rs := [.tmp 2]) rfl rfl rfl ?_
  intro H0 F0
  unfold l_toRuleS at hF
  iterate 6 refine au ?_
  obtain ⟨z1, hx2, hF⟩ := bind_some hF
  have hm3 := mkz_some hx2
  refine C_new rfl (N_makeSlice (g := true) (c := (a_a.length : Int)) sl40.h ty64.h rfl rfl (by decide) (.tmp rfl rfl) hm3.2.1 hm3.2.2) (fun k4 => ?_)
  refine Cv1 (.cons .h .nil) (own_make (Ro := ow64) (E := 64) (a := (({ From := 0, To := 0, Map := [] } : Rule) : Rule)) hx2 (fun _ => ⟨⟨none, 0, 0⟩, [], rfl, rfl, .inl ⟨rfl, rfl, rfl⟩⟩)) ?_
  iterate 6 refine au ?_
  refine CW_block (CW_loop (m := a_a.length) (fun m34 f' cs' => ∃ (g : Fr) (k36 : Nat) (rest37 : List Rule) (c31 : List Rule) (F32 : List Nat), m34 = rest37.length ∧ f' = updL g [(0, v0_0.v), (3, (.slice (some ⟨k4, 0, none⟩) (a_a.length : Int).toNat 1)), (4, (.int .i64 (k36 : Int)))] ∧ List.drop k36 a_a = rest37 ∧ Ent cs' [crd (RdS 61 rd61) v0_0.v a_a, cown (OwnS 64 ow64) F32 (.slice (some ⟨k4, 0, none⟩) (a_a.length : Int).toNat 1) c31] ∧ l_toRuleS_L1 rest37 k36 c31 = some R) ⟨_, 0, _, _, [k4], rfl, eqA, rfl, entA, hF⟩ ?_)
  clear hF
  rintro m34 _ _ ⟨g35, k36, rest37, c31, F32, rfl, rfl, hd39, hE, hF⟩
  refine K_ent hE ?_
  clear hE
  refine K_pure (c := crd (RdS 61 rd61) v0_0.v a_a) .h crd_bound (fun hbd44 => ?_)
  rcases rest37 with _ | ⟨x38, rest37⟩
  · have hk40 := List.drop_eq_nil_iff.1 hd39
    rw [l_toRuleS_L1] at hF
    iterate 7 refine au ?_
    refine CdF ?_
    iterate 9 refine au ?_
    cases hF
    exact Er (⟨(some ⟨k4, 0, none⟩), (a_a.length : Int).toNat, 1⟩, F32)
  obtain ⟨hk40, hx41, hd42⟩ := drop_cons hd39
  rw [l_toRuleS_L1] at hF
  iterate 7 refine au ?_
  refine CdT ?_
  iterate 7 refine au ?_
  refine Ai hx41 (fun k45 j46 => ?_)
  refine AlA1 (ul61_0_61 x38) la61_0_61 (fun p47 => ?_)
  obtain ⟨r48, hx49, hF⟩ := bind_some hF
  refine Cx1 (l_toRule_ok _ _ _ hx49) (fun p50 => ?_)
  obtain ⟨u54, hx55, hF⟩ := bind_some hF
  have hi53 := chk_some hx55
  refine C_idxO sl40.h ty64.h.sz (.tmp rfl rfl) (.tmp rfl rfl) (.t (.t (.t (.t .h)))) hi53 (fun k51 hk52 => ?_)
  obtain ⟨z56, hx57, hF⟩ := bind_some hF
  replace hx57 := Option.some.inj hx57
  refine C_x1 (.cons (.t (.t (.t (.t .h)))) (.cons .h .nil)) (X_storeO (Ro := ow64) (a := r48) (i := (k36 : Int)) ty64.h.sz rfl (.tmp rfl rfl) (.tmp rfl rfl) hk52 hi53 mk64 (fun _ _ _ _ h => by obtain ⟨_, _, rfl, rfl, _⟩ := h; rfl)) (fun F58 => ?_)
  rw [hx57]
  iterate 6 refine au ?_
  rw [wk k36]
  exact ⟨_, Nat.lt_succ_self _, _, k36 + 1, rest37, _, F58, rfl, eqA, hd42, entA, hF⟩

/-! laws.toFact -/
def l_toFact (a_a : Fact) : Option (Fact) :=
  (l_toIntS a_a.Values).bind fun r4 =>
  some ({ Rel := a_a.Rel, Values := r4 } : Fact)
theorem l_toFact_ok (a_a : Fact) (v0_1 : Sv) (R : Fact) (hF : l_toFact a_a = some R) :
    Fw.Spec Tryz.prog 145 [(.agg [(.int .i64 a_a.Rel), v0_1.v].toArray)] [crd (RdS 3 rdInt) v0_1.v a_a.Values] (fun p : Sv × List Nat => (.agg [(.int .i64 R.Rel), p.1.v].toArray)) (fun p => [cown (OwnS 3 (roE rdInt)) p.2 p.1.v R.Values]) := by
  refine Spec_enter (n := 12) Tryz.func145 rfl rfl (rs := [.cell 2 113]) rfl rfl rfl ?_
  intro H0 F0
  unfold l_toFact at hF
  refine au ?_
  refine AbR (fun k1 => ?_)
  refine AnW (fun k2 => ?_)
  iterate 2 refine au ?_
  refine AnW (fun k3 => ?_)
  iterate 5 refine au ?_
  refine As (.agg [(.int .i64 a_a.Rel), (.slice none 0 0)].toArray) ?_
  iterate 4 refine au ?_
  obtain ⟨r4, hx5, hF⟩ := bind_some hF
  refine Cx1 (l_toIntS_ok _ _ _ hx5) (fun p6 => ?_)
  refine au ?_
  refine As (.agg [(.int .i64 a_a.Rel), p6.1.v].toArray) ?_
  iterate 3 refine au ?_
  refine As (.agg [(.int .i64 a_a.Rel), p6.1.v].toArray) ?_
  iterate 2 refine au ?_
  cases hF
  exact Er (p6.1, p6.2)

/-! laws.toFactS -/
def l_toFactS_L1 : List Fact → Nat → (List Fact) → Option ((List Fact))
  | [], k36, c31 => some c31
  | x38 :: rest37, k36, c31 => (l_toFact x38).bind fun r48 =>
    (chk (decide (0 ≤ (k36 : Int)) && decide ((k36 : Int) < (c31.length : Int)))).bind fun u54 =>
    (some (c31.set ((k36 : Int)).toNat r48)).bind fun z56 =>
    l_toFactS_L1 rest37 (k36 + 1) z56
def l_toFactS (a_a : List Fact) : Option ((List Fact)) :=
  (mkz (a_a.length : Int) (({ Rel := 0, Values := [] } : Fact) : Fact)).bind fun z1 =>
  l_toFactS_L1 a_a 0 z1
theorem l_toFactS_ok (a_a : List Fact) (v0_0 : Sv) (R : (List Fact)) (hF : l_toFactS a_a = some R) :
    Fw.Spec Tryz.prog 99 [v0_0.v] [crd (RdS 157 rd157) v0_0.v a_a] (fun p : Sv × List Nat => p.1.v) (fun p => [cown (OwnS 113 ow113) p.2 p.1.v R]) := by
  refine Spec_enter (n := 23) Tryz.func99 rfl rfl (rs := [.tmp 2]) rfl rfl rfl ?_
  intro H0 F0
  unfold l_toFactS at hF
  iterate 6 refine au ?_
  obtain ⟨z1, hx2, hF⟩ := bind_some hF
  have hm3 := mkz_some hx2
  refine C_new rfl (N_makeSlice (g := true) (c := (a_a.length : Int)) sl41.h ty113.h rfl rfl (by decide) (.tmp rfl rfl) hm3.2.1 hm3.2.2) (fun k4 => ?_)
  refine Cv1 (.cons .h .nil) (own_make (Ro := ow113) (E := 113) (a := (({ Rel := 0, Values := [] } : Fact) : Fact)) hx2 (fun _ => ⟨⟨none, 0, 0⟩, [], rfl, rfl, .inl ⟨rfl, rfl, rfl⟩⟩)) ?_
  iterate 6 refine au ?_
  refine CW_block (CW_loop (m := a_a.length) (fun m34 f' cs' => ∃ (g : Fr) (k36 : Nat) (rest37 : List Fact) (c31 : List Fact) (F32 : List Nat), m34 = rest37.length ∧ f' = updL g [(0, v0_0.v), (3, (.slice (some ⟨k4, 0, none⟩) (a_a.length : Int).toNat 1)), (4, (.int .i64 (k36 : Int)))] ∧ List.drop k36 a_a = rest37 ∧ Ent cs' [crd (RdS 157 rd157) v0_0.v a_a, cown (OwnS 113 ow113) F32 (.slice (some ⟨k4, 0, none⟩) (a_a.length : Int).toNat 1) c31] ∧ l_toFactS_L1 rest37 k36 c31 = some R) ⟨_, 0, _, _, [k4], rfl, eqA, rfl, entA, hF⟩ ?_)
  clear hF
  rintro m34 _ _ ⟨g35, k36, rest37, c31, F32, rfl, rfl, hd39, hE, hF⟩
  refine K_ent hE ?_
  clear hE
  refine K_pure (c := crd (RdS 157 rd157) v0_0.v a_a) .h crd_bound (fun hbd44 => ?_)
  rcases rest37 with _ | ⟨x38, rest37⟩
  · have hk40 := List.drop_eq_nil_iff.1 hd39
    rw [l_toFactS_L1] at hF
    iterate 7 refine au ?_
    refine CdF ?_
    iterate 9 refine au ?_
    cases hF
    exact Er (⟨(some ⟨k4, 0, none⟩), (a_a.length : Int).toNat, 1⟩, F32)
  obtain ⟨hk40, hx41, hd42⟩ := drop_cons hd39
  rw [l_toFactS_L1] at hF
  iterate 7 refine au ?_
  refine CdT ?_
  iterate 7 refine au ?_
  refine Ai hx41 (fun k45 j46 => ?_)
  refine AlA1 (ul157_0_157 x38) la157_0_157 (fun p47 => ?_)
  obtain ⟨r48, hx49, hF⟩ := bind_some hF
  refine Cx1 (l_toFact_ok _ _ _ hx49) (fun p50 => ?_)
  obtain ⟨u54, hx55, hF⟩ := bind_some hF
  have hi53 := chk_some hx55
  refine C_idxO sl41.h ty113.h.sz (.tmp rfl rfl) (.tmp rfl rfl) (.t (.t (.t (.t .h)))) hi53 (fun k51 hk52 => ?_)
  obtain ⟨z56, hx57, hF⟩ := bind_some hF
  replace hx57 := Option.some.inj hx57
  refine C_x1 (.cons (.t (.t (.t (.t .h)))) (.cons .h .nil)) (X_storeO (Ro := ow113) (a := r48) (i := (k36 : Int)) ty113.h.sz rfl (.tmp rfl rfl) (.tmp rfl rfl) hk52 hi53 mk113 (fun _ _ _ _ h => by obtain ⟨_, _, rfl, rfl, _⟩ := h; rfl)) (fun F58 => ?_)
  rw [hx57]
  iterate 6 refine au ?_
  rw [wk k36]
  exact ⟨_, Nat.lt_succ_self _, _, k36 + 1, rest37, _, F58, rfl, eqA, hd42, entA, hF⟩

/-! laws.toSource -/
def l_toSource (a_a : Source) : Option (Source) :=
  (l_toFactS a_a.Facts).bind fun r4 =>
  some ({ Facts := r4, Version := a_a.Version } : Source)
theorem l_toSource_ok (a_a : Source) (v0_0 : Sv) (R : Source) (hF : l_toSource a_a = some R) :
    Fw.Spec Tryz.prog 45 [(.agg [v0_0.v, (.int .i64 a_a.Version)].toArray)] [crd (RdS 157 rd157) v0_0.v a_a.Facts] (fun p : Sv × List Nat => (.agg [p.1.v, (.int .i64 R.Version)].toArray)) (fun p => [cown (OwnS 113 ow113) p.2 p.1.v R.Facts]) := by
  refine Spec_enter (n := 12) Tryz.func45 rfl rfl (rs := [.cell 2 43]) rfl rfl rfl ?_
  intro H0 F0
  unfold l_toSource at hF
  refine au ?_
  refine AbR (fun k1 => ?_)
  refine AnW (fun k2 => ?_)
  iterate 2 refine au ?_
  refine AnW (fun k3 => ?_)
  iterate 4 refine au ?_
  obtain ⟨r4, hx5, hF⟩ := bind_some hF
  refine Cx1 (l_toFactS_ok _ _ _ hx5) (fun p6 => ?_)
  refine au ?_
  refine As (.agg [p6.1.v, (.int .i64 0)].toArray) ?_
  iterate 5 refine au ?_
  refine As (.agg [p6.1.v, (.int .i64 a_a.Version)].toArray) ?_
  iterate 3 refine au ?_
  refine As (.agg [p6.1.v, (.int .i64 a_a.Version)].toArray) ?_
  iterate 2 refine au ?_
  cases hF
  exact Er (p6.1, p6.2)

/-! laws.toAccess -/
def l_toAccess (a_a : Access) : Option (Access) :=
  (l_toIntS a_a.Values).bind fun r4 =>
  some ({ Method := a_a.Method, Values := r4 } : Access)
theorem l_toAccess_ok (a_a : Access) (v0_1 : Sv) (R : Access) (hF : l_toAccess a_a = some R) :
    Fw.Spec Tryz.prog 101 [(.agg [(.int .i64 a_a.Method), v0_1.v].toArray)] [crd (RdS 3 rdInt) v0_1.v a_a.Values] (fun p : Sv × List Nat => (.agg [(.int .i64 R.Method), p.1.v].toArray)) (fun p => [cown (OwnS 3 (roE rdInt)) p.2 p.1.v R.Values]) := by
  refine Spec_enter (n := 12) Tryz.func101 rfl rfl (rs := [.cell 2 131]) rfl rfl rfl ?_
  intro H0 F0
  unfold l_toAccess at hF
  refine au ?_
  refine AbR (fun k1 => ?_)
  refine AnW (fun k2 => ?_)
  iterate 2 refine au ?_
  refine AnW (fun k3 => ?_)
  iterate 5 refine au ?_
  refine As (.agg [(.int .i64 a_a.Method), (.slice none 0 0)].toArray) ?_
  iterate 4 refine au ?_
  obtain ⟨r4, hx5, hF⟩ := bind_some hF
  refine Cx1 (l_toIntS_ok _ _ _ hx5) (fun p6 => ?_)
  refine au ?_
  refine As (.agg [(.int .i64 a_a.Method), p6.1.v].toArray) ?_
  iterate 3 refine au ?_
  refine As (.agg [(.int .i64 a_a.Method), p6.1.v].toArray) ?_
  iterate 2 refine au ?_
  cases hF
  exact Er (p6.1, p6.2)

/-! laws.toStored -/
def l_toStored (a_a : Stored) : Option (Stored) :=
  (l_toAccess a_a.Access).bind fun r4 =>
  (l_toFactS a_a.Facts).bind fun r7 =>
  some ({ Access := r4, Facts := r7, At := a_a.At } : Stored)
theorem l_toStored_ok (a_a : Stored) (v0_1 : Sv) (v0_2 : Sv) (R : Stored) (hF : l_toStored a_a = some R) :
    Fw.Spec Tryz.prog 146 [(.agg [(.int .i64 a_a.Access.Method), v0_1.v, v0_2.v, (.int .i64 a_a.At)].toArray)] [crd (RdS 3 rdInt) v0_1.v a_a.Access.Values, crd (RdS 157 rd157) v0_2.v a_a.Facts] (fun p : Sv × List Nat × Sv × List Nat => (.agg [(.int .i64 R.Access.Method), p.1.v, p.2.2.1.v, (.int .i64 R.At)].toArray)) (fun p => [cown (OwnS 3 (roE rdInt)) p.2.1 p.1.v R.Access.Values, cown (OwnS 113 ow113) p.2.2.2 p.2.2.1.v R.Facts]) := by
  refine Spec_enter (n := 16) Tryz.func146 rfl rfl (rs := [.cell 2 145]) rfl rfl rfl ?_
  intro H0 F0
  unfold l_toStored at hF
  refine au ?_
  refine AbR (fun k1 => ?_)
  refine AnW (fun k2 => ?_)
  iterate 2 refine au ?_
  refine AnW (fun k3 => ?_)
  iterate 3 refine au ?_
  refine C_at (.t (.t .h)) (fun hp => V_loadA (s := 2) (l := [(.int .i64 a_a.Access.Method), v0_1.v]) ag118.h ty118.h.sz (.tmp rfl rfl) hp.2 rfl (by decide) (Nat.le_of_ble_eq_true rfl) rfl) ?_
  obtain ⟨r4, hx5, hF⟩ := bind_some hF
  refine Cx1 (l_toAccess_ok _ _ _ hx5) (fun p6 => ?_)
  refine au ?_
  refine As (.agg [(.int .i64 r4.Method), p6.1.v, (.slice none 0 0), (.int .i64 0)].toArray) ?_
  iterate 4 refine au ?_
  obtain ⟨r7, hx8, hF⟩ := bind_some hF
  refine Cx1 (l_toFactS_ok _ _ _ hx8) (fun p9 => ?_)
  refine au ?_
  refine As (.agg [(.int .i64 r4.Method), p6.1.v, p9.1.v, (.int .i64 0)].toArray) ?_
  iterate 5 refine au ?_
  refine As (.agg [(.int .i64 r4.Method), p6.1.v, p9.1.v, (.int .i64 a_a.At)].toArray) ?_
  iterate 3 refine au ?_
  refine As (.agg [(.int .i64 r4.Method), p6.1.v, p9.1.v, (.int .i64 a_a.At)].toArray) ?_
  iterate 2 refine au ?_
  cases hF
  exact Er (p6.1, p6.2, p9.1, p9.2)

/-! laws.toStoredS -/
def l_toStoredS_L1 : List Stored → Nat → (List Stored) → Option ((List Stored))
  | [], k36, c31 => some c31
  | x38 :: rest37, k36, c31 => (l_toStored x38).bind fun r48 =>
    (chk (decide (0 ≤ (k36 : Int)) && decide ((k36 : Int) < (c31.length : Int)))).bind fun u54 =>
    (some (c31.set ((k36 : Int)).toNat r48)).bind fun z56 =>
    l_toStoredS_L1 rest37 (k36 + 1) z56
def l_toStoredS (a_a : List Stored) : Option ((List Stored)) :=
  (mkz (a_a.length : Int) (({ Access := ({ Method := 0, Values := [] } : Access), Facts := [], At := 0 } : Stored) : Stored)).bind fun z1 =>
  l_toStoredS_L1 a_a 0 z1
theorem l_toStoredS_ok (a_a : List Stored) (v0_0 : Sv) (R : (List Stored)) (hF : l_toStoredS a_a = some R) :
    Fw.Spec Tryz.prog 100 [v0_0.v] [crd (RdS 160 rd160) v0_0.v a_a] (fun p : Sv × List Nat => p.1.v) (fun p => [cown (OwnS 145 ow145) p.2 p.1.v R]) := by
  refine Spec_enter (n := 23) Tryz.func100 rfl rfl (rs := [.tmp 2]) rfl rfl rfl ?_
  intro H0 F0
  unfold l_toStoredS at hF
  iterate 6 refine au ?_
  obtain ⟨z1, hx2, hF⟩ := bind_some hF
  have hm3 := mkz_some hx2
  refine C_new rfl (N_makeSlice (g := true) (c := (a_a.length : Int)) sl44.h ty145.h rfl rfl (by decide) (.tmp rfl rfl) hm3.2.1 hm3.2.2) (fun k4 => ?_)
  refine Cv1 (.cons .h .nil) (own_make (Ro := ow145) (E := 145) (a := (({ Access := ({ Method := 0, Values := [] } : Access), Facts := [], At := 0 } : Stored) : Stored)) hx2 (fun _ => ⟨⟨none, 0, 0⟩, ⟨none, 0, 0⟩, [], [], rfl, rfl, .inl ⟨rfl, rfl, rfl⟩, .inl ⟨rfl, rfl, rfl⟩⟩)) ?_
  iterate 6 refine au ?_
  refine CW_block (CW_loop (m := a_a.length) (fun m34 f' cs' => ∃ (g : Fr) (k36 : Nat) (rest37 : List Stored) (c31 : List Stored) (F32 : List Nat), m34 = rest37.length ∧ f' = updL g [(0, v0_0.v), (3, (.slice (some ⟨k4, 0, none⟩) (a_a.length : Int).toNat 1)), (4, (.int .i64 (k36 : Int)))] ∧ List.drop k36 a_a = rest37 ∧ Ent cs' [crd (RdS 160 rd160) v0_0.v a_a, cown (OwnS 145 ow145) F32 (.slice (some ⟨k4, 0, none⟩) (a_a.length : Int).toNat 1) c31] ∧ l_toStoredS_L1 rest37 k36 c31 = some R) ⟨_, 0, _, _, [k4], rfl, eqA, rfl, entA, hF⟩ ?_)
  clear hF
  rintro m34 _ _ ⟨g35, k36, rest37, c31, F32, rfl, rfl, hd39, hE, hF⟩
  refine K_ent hE ?_
  clear hE
  refine K_pure (c := crd (RdS 160 rd160) v0_0.v a_a) .h crd_bound (fun hbd44 => ?_)
  rcases rest37 with _ | ⟨x38, rest37⟩
  · have hk40 := List.drop_eq_nil_iff.1 hd39
    rw [l_toStoredS_L1] at hF
    iterate 7 refine au ?_
    refine CdF ?_
    iterate 9 refine au ?_
    cases hF
    exact Er (⟨(some ⟨k4, 0, none⟩), (a_a.length : Int).toNat, 1⟩, F32)
  obtain ⟨hk40, hx41, hd42⟩ := drop_cons hd39
  rw [l_toStoredS_L1] at hF
  iterate 7 refine au ?_
  refine CdT ?_
  iterate 7 refine au ?_
  refine Ai hx41 (fun k45 j46 => ?_)
  refine AlA2 (ul160_0_160 x38) la160_0_160 (fun p47 => ?_)
  obtain ⟨r48, hx49, hF⟩ := bind_some hF
  refine Cx2 (l_toStored_ok _ _ _ _ hx49) (fun p50 => ?_)
  obtain ⟨u54, hx55, hF⟩ := bind_some hF
  have hi53 := chk_some hx55
  refine C_idxO sl44.h ty145.h.sz (.tmp rfl rfl) (.tmp rfl rfl) (.t (.t (.t (.t (.t (.t .h)))))) hi53 (fun k51 hk52 => ?_)
  obtain ⟨z56, hx57, hF⟩ := bind_some hF
  replace hx57 := Option.some.inj hx57
  refine C_x1 (.cons (.t (.t (.t (.t (.t (.t .h)))))) (.cons .h (.cons .h .nil))) (X_storeO (Ro := ow145) (a := r48) (i := (k36 : Int)) ty145.h.sz rfl (.tmp rfl rfl) (.tmp rfl rfl) hk52 hi53 mk145 (fun _ _ _ _ h => by obtain ⟨_, _, _, _, rfl, rfl, _⟩ := h; rfl)) (fun F58 => ?_)
  rw [hx57]
  iterate 6 refine au ?_
  rw [wk k36]
  exact ⟨_, Nat.lt_succ_self _, _, k36 + 1, rest37, _, F58, rfl, eqA, hd42, entA, hF⟩

/-! laws.toCache -/
def l_toCache (a_a : Cache) : Option (Cache) :=
  (l_toStoredS a_a.Entries).bind fun r4 =>
  some ({ Entries := r4, Age := a_a.Age } : Cache)
theorem l_toCache_ok (a_a : Cache) (v0_0 : Sv) (R : Cache) (hF : l_toCache a_a = some R) :
    Fw.Spec Tryz.prog 46 [(.agg [v0_0.v, (.int .i64 a_a.Age)].toArray)] [crd (RdS 160 rd160) v0_0.v a_a.Entries] (fun p : Sv × List Nat => (.agg [p.1.v, (.int .i64 R.Age)].toArray)) (fun p => [cown (OwnS 145 ow145) p.2 p.1.v R.Entries]) := by
  refine Spec_enter (n := 12) Tryz.func46 rfl rfl (rs := [.cell 2 46]) rfl rfl rfl ?_
  intro H0 F0
  unfold l_toCache at hF
  refine au ?_
  refine AbR (fun k1 => ?_)
  refine AnW (fun k2 => ?_)
  iterate 2 refine au ?_
  refine AnW (fun k3 => ?_)
  iterate 4 refine au ?_
  obtain ⟨r4, hx5, hF⟩ := bind_some hF
  refine Cx1 (l_toStoredS_ok _ _ _ hx5) (fun p6 => ?_)
  refine au ?_
  refine As (.agg [p6.1.v, (.int .i64 0)].toArray) ?_
  iterate 5 refine au ?_
  refine As (.agg [p6.1.v, (.int .i64 a_a.Age)].toArray) ?_
  iterate 3 refine au ?_
  refine As (.agg [p6.1.v, (.int .i64 a_a.Age)].toArray) ?_
  iterate 2 refine au ?_
  cases hF
  exact Er (p6.1, p6.2)

/-! laws.toAccessS -/
def l_toAccessS_L1 : List Access → Nat → (List Access) → Option ((List Access))
  | [], k36, c31 => some c31
  | x38 :: rest37, k36, c31 => (l_toAccess x38).bind fun r48 =>
    (chk (decide (0 ≤ (k36 : Int)) && decide ((k36 : Int) < (c31.length : Int)))).bind fun u54 =>
    (some (c31.set ((k36 : Int)).toNat r48)).bind fun z56 =>
    l_toAccessS_L1 rest37 (k36 + 1) z56
def l_toAccessS (a_a : List Access) : Option ((List Access)) :=
  (mkz (a_a.length : Int) (({ Method := 0, Values := [] } : Access) : Access)).bind fun z1 =>
  l_toAccessS_L1 a_a 0 z1
theorem l_toAccessS_ok (a_a : List Access) (v0_0 : Sv) (R : (List Access)) (hF : l_toAccessS a_a = some R) :
    Fw.Spec Tryz.prog 47 [v0_0.v] [crd (RdS 118 rd118) v0_0.v a_a] (fun p : Sv × List Nat => p.1.v) (fun p => [cown (OwnS 131 ow131) p.2 p.1.v R]) := by
  refine Spec_enter (n := 23) Tryz.func47 rfl rfl (rs := [.tmp 2]) rfl rfl rfl ?_
  intro H0 F0
  unfold l_toAccessS at hF
  iterate 6 refine au ?_
  obtain ⟨z1, hx2, hF⟩ := bind_some hF
  have hm3 := mkz_some hx2
  refine C_new rfl (N_makeSlice (g := true) (c := (a_a.length : Int)) sl47.h ty131.h rfl rfl (by decide) (.tmp rfl rfl) hm3.2.1 hm3.2.2) (fun k4 => ?_)
  refine Cv1 (.cons .h .nil) (own_make (Ro := ow131) (E := 131) (a := (({ Method := 0, Values := [] } : Access) : Access)) hx2 (fun _ => ⟨⟨none, 0, 0⟩, [], rfl, rfl, .inl ⟨rfl, rfl, rfl⟩⟩)) ?_
  iterate 6 refine au ?_
  refine CW_block (CW_loop (m := a_a.length) (fun m34 f' cs' => ∃ (g : Fr) (k36 : Nat) (rest37 : List Access) (c31 : List Access) (F32 : List Nat), m34 = rest37.length ∧ f' = updL g [(0, v0_0.v), (3, (.slice (some ⟨k4, 0, none⟩) (a_a.length : Int).toNat 1)), (4, (.int .i64 (k36 : Int)))] ∧ List.drop k36 a_a = rest37 ∧ Ent cs' [crd (RdS 118 rd118) v0_0.v a_a, cown (OwnS 131 ow131) F32 (.slice (some ⟨k4, 0, none⟩) (a_a.length : Int).toNat 1) c31] ∧ l_toAccessS_L1 rest37 k36 c31 = some R) ⟨_, 0, _, _, [k4], rfl, eqA, rfl, entA, hF⟩ ?_)
  clear hF
  rintro m34 _ _ ⟨g35, k36, rest37, c31, F32, rfl, rfl, hd39, hE, hF⟩
  refine K_ent hE ?_
  clear hE
  refine K_pure (c := crd (RdS 118 rd118) v0_0.v a_a) .h crd_bound (fun hbd44 => ?_)
  rcases rest37 with _ | ⟨x38, rest37⟩
  · have hk40 := List.drop_eq_nil_iff.1 hd39
    rw [l_toAccessS_L1] at hF
    iterate 7 refine au ?_
    refine CdF ?_
    iterate 9 refine au ?_
    cases hF
    exact Er (⟨(some ⟨k4, 0, none⟩), (a_a.length : Int).toNat, 1⟩, F32)
  obtain ⟨hk40, hx41, hd42⟩ := drop_cons hd39
  rw [l_toAccessS_L1] at hF
  iterate 7 refine au ?_
  refine CdT ?_
  iterate 7 refine au ?_
  refine Ai hx41 (fun k45 j46 => ?_)
  refine AlA1 (ul118_0_118 x38) la118_0_118 (fun p47 => ?_)
  obtain ⟨r48, hx49, hF⟩ := bind_some hF
  refine Cx1 (l_toAccess_ok _ _ _ hx49) (fun p50 => ?_)
  obtain ⟨u54, hx55, hF⟩ := bind_some hF
  have hi53 := chk_some hx55
  refine C_idxO sl47.h ty131.h.sz (.tmp rfl rfl) (.tmp rfl rfl) (.t (.t (.t (.t .h)))) hi53 (fun k51 hk52 => ?_)
  obtain ⟨z56, hx57, hF⟩ := bind_some hF
  replace hx57 := Option.some.inj hx57
  refine C_x1 (.cons (.t (.t (.t (.t .h)))) (.cons .h .nil)) (X_storeO (Ro := ow131) (a := r48) (i := (k36 : Int)) ty131.h.sz rfl (.tmp rfl rfl) (.tmp rfl rfl) hk52 hi53 mk131 (fun _ _ _ _ h => by obtain ⟨_, _, rfl, rfl, _⟩ := h; rfl)) (fun F58 => ?_)
  rw [hx57]
  iterate 6 refine au ?_
  rw [wk k36]
  exact ⟨_, Nat.lt_succ_self _, _, k36 + 1, rest37, _, F58, rfl, eqA, hd42, entA, hF⟩

/-! laws.toIntSS -/
def l_toIntSS_L1 : List (List Int) → Nat → (List (List Int)) → Option ((List (List Int)))
  | [], k36, c31 => some c31
  | x38 :: rest37, k36, c31 => (l_toIntS x38).bind fun r48 =>
    (chk (decide (0 ≤ (k36 : Int)) && decide ((k36 : Int) < (c31.length : Int)))).bind fun u54 =>
    (some (c31.set ((k36 : Int)).toNat r48)).bind fun z56 =>
    l_toIntSS_L1 rest37 (k36 + 1) z56
def l_toIntSS (a_a : List (List Int)) : Option ((List (List Int))) :=
  (mkz (a_a.length : Int) ([] : List Int)).bind fun z1 =>
  l_toIntSS_L1 a_a 0 z1
theorem l_toIntSS_ok (a_a : List (List Int)) (v0_0 : Sv) (R : (List (List Int))) (hF : l_toIntSS a_a = some R) :
    Fw.Spec Tryz.prog 102 [v0_0.v] [crd (RdS 22 (RdS 3 rdInt)) v0_0.v a_a] (fun p : Sv × List Nat => p.1.v) (fun p => [cown (OwnS 22 (OwnS 3 (roE rdInt))) p.2 p.1.v R]) := by
  refine Spec_enter (n := 23) Tryz.func102 rfl rfl (rs := [.tmp 2]) rfl rfl rfl ?_
  intro H0 F0
  unfold l_toIntSS at hF
  iterate 6 refine au ?_
  obtain ⟨z1, hx2, hF⟩ := bind_some hF
  have hm3 := mkz_some hx2
  refine C_new rfl (N_makeSlice (g := true) (c := (a_a.length : Int)) sl120.h ty22.h rfl rfl (by decide) (.tmp rfl rfl) hm3.2.1 hm3.2.2) (fun k4 => ?_)
  refine Cv1 (.cons .h .nil) (own_make (Ro := (OwnS 3 (roE rdInt))) (E := 22) (a := ([] : List Int)) hx2 (fun _ => (.inl ⟨rfl, rfl, rfl⟩))) ?_
  iterate 6 refine au ?_
  refine CW_block (CW_loop (m := a_a.length) (fun m34 f' cs' => ∃ (g : Fr) (k36 : Nat) (rest37 : List (List Int)) (c31 : List (List Int)) (F32 : List Nat), m34 = rest37.length ∧ f' = updL g [(0, v0_0.v), (3, (.slice (some ⟨k4, 0, none⟩) (a_a.length : Int).toNat 1)), (4, (.int .i64 (k36 : Int)))] ∧ List.drop k36 a_a = rest37 ∧ Ent cs' [crd (RdS 22 (RdS 3 rdInt)) v0_0.v a_a, cown (OwnS 22 (OwnS 3 (roE rdInt))) F32 (.slice (some ⟨k4, 0, none⟩) (a_a.length : Int).toNat 1) c31] ∧ l_toIntSS_L1 rest37 k36 c31 = some R) ⟨_, 0, _, _, [k4], rfl, eqA, rfl, entA, hF⟩ ?_)
  clear hF
  rintro m34 _ _ ⟨g35, k36, rest37, c31, F32, rfl, rfl, hd39, hE, hF⟩
  refine K_ent hE ?_
  clear hE
  refine K_pure (c := crd (RdS 22 (RdS 3 rdInt)) v0_0.v a_a) .h crd_bound (fun hbd44 => ?_)
  rcases rest37 with _ | ⟨x38, rest37⟩
  · have hk40 := List.drop_eq_nil_iff.1 hd39
    rw [l_toIntSS_L1] at hF
    iterate 7 refine au ?_
    refine CdF ?_
    iterate 9 refine au ?_
    cases hF
    exact Er (⟨(some ⟨k4, 0, none⟩), (a_a.length : Int).toNat, 1⟩, F32)
  obtain ⟨hk40, hx41, hd42⟩ := drop_cons hd39
  rw [l_toIntSS_L1] at hF
  iterate 7 refine au ?_
  refine CdT ?_
  iterate 7 refine au ?_
  refine Ai hx41 (fun k45 j46 => ?_)
  refine C_ldV (R' := (RdS 3 rdInt)) ag22.h (.tmp rfl rfl) .h lv22_0 (fun w47 => ?_)
  obtain ⟨r48, hx49, hF⟩ := bind_some hF
  refine Cx1 (l_toIntS_ok _ _ _ hx49) (fun p50 => ?_)
  obtain ⟨u54, hx55, hF⟩ := bind_some hF
  have hi53 := chk_some hx55
  refine C_idxO sl120.h ty22.h.sz (.tmp rfl rfl) (.tmp rfl rfl) (.t (.t (.t (.t .h)))) hi53 (fun k51 hk52 => ?_)
  obtain ⟨z56, hx57, hF⟩ := bind_some hF
  replace hx57 := Option.some.inj hx57
  refine C_x1 (.cons (.t (.t (.t (.t .h)))) (.cons .h .nil)) (X_storeO (Ro := (OwnS 3 (roE rdInt))) (a := r48) (i := (k36 : Int)) ty22.h.sz rfl (.tmp rfl rfl) (.tmp rfl rfl) hk52 hi53 Mk_own (fun _ _ _ _ h => by obtain ⟨_, _, rfl⟩ := OwnS.len h; rfl)) (fun F58 => ?_)
  rw [hx57]
  iterate 6 refine au ?_
  rw [wk k36]
  exact ⟨_, Nat.lt_succ_self _, _, k36 + 1, rest37, _, F58, rfl, eqA, hd42, entA, hF⟩

/-! laws.toIntSSS -/
def l_toIntSSS_L1 : List (List (List Int)) → Nat → (List (List (List Int))) → Option ((List (List (List Int))))
  | [], k36, c31 => some c31
  | x38 :: rest37, k36, c31 => (l_toIntSS x38).bind fun r48 =>
    (chk (decide (0 ≤ (k36 : Int)) && decide ((k36 : Int) < (c31.length : Int)))).bind fun u54 =>
    (some (c31.set ((k36 : Int)).toNat r48)).bind fun z56 =>
    l_toIntSSS_L1 rest37 (k36 + 1) z56
def l_toIntSSS (a_a : List (List (List Int))) : Option ((List (List (List Int)))) :=
  (mkz (a_a.length : Int) ([] : List (List Int))).bind fun z1 =>
  l_toIntSSS_L1 a_a 0 z1
theorem l_toIntSSS_ok (a_a : List (List (List Int))) (v0_0 : Sv) (R : (List (List (List Int)))) (hF : l_toIntSSS a_a = some R) :
    Fw.Spec Tryz.prog 48 [v0_0.v] [crd (RdS 120 (RdS 22 (RdS 3 rdInt))) v0_0.v a_a] (fun p : Sv × List Nat => p.1.v) (fun p => [cown (OwnS 120 (OwnS 22 (OwnS 3 (roE rdInt)))) p.2 p.1.v R]) := by
  refine Spec_enter (n := 23) Tryz.func48 rfl rfl (rs := [.tmp 2]) rfl rfl rfl ?_
  intro H0 F0
  unfold l_toIntSSS at hF
  iterate 6 refine au ?_
  obtain ⟨z1, hx2, hF⟩ := bind_some hF
  have hm3 := mkz_some hx2
  refine C_new rfl (N_makeSlice (g := true) (c := (a_a.length : Int)) sl32.h ty120.h rfl rfl (by decide) (.tmp rfl rfl) hm3.2.1 hm3.2.2) (fun k4 => ?_)
  refine Cv1 (.cons .h .nil) (own_make (Ro := (OwnS 22 (OwnS 3 (roE rdInt)))) (E := 120) (a := ([] : List (List Int))) hx2 (fun _ => (.inl ⟨rfl, rfl, rfl⟩))) ?_
  iterate 6 refine au ?_
  refine CW_block (CW_loop (m := a_a.length) (fun m34 f' cs' => ∃ (g : Fr) (k36 : Nat) (rest37 : List (List (List Int))) (c31 : List (List (List Int))) (F32 : List Nat), m34 = rest37.length ∧ f' = updL g [(0, v0_0.v), (3, (.slice (some ⟨k4, 0, none⟩) (a_a.length : Int).toNat 1)), (4, (.int .i64 (k36 : Int)))] ∧ List.drop k36 a_a = rest37 ∧ Ent cs' [crd (RdS 120 (RdS 22 (RdS 3 rdInt))) v0_0.v a_a, cown (OwnS 120 (OwnS 22 (OwnS 3 (roE rdInt)))) F32 (.slice (some ⟨k4, 0, none⟩) (a_a.length : Int).toNat 1) c31] ∧ l_toIntSSS_L1 rest37 k36 c31 = some R) ⟨_, 0, _, _, [k4], rfl, eqA, rfl, entA, hF⟩ ?_)
  clear hF
  rintro m34 _ _ ⟨g35, k36, rest37, c31, F32, rfl, rfl, hd39, hE, hF⟩
  refine K_ent hE ?_
  clear hE
  refine K_pure (c := crd (RdS 120 (RdS 22 (RdS 3 rdInt))) v0_0.v a_a) .h crd_bound (fun hbd44 => ?_)
  rcases rest37 with _ | ⟨x38, rest37⟩
  · have hk40 := List.drop_eq_nil_iff.1 hd39
    rw [l_toIntSSS_L1] at hF
    iterate 7 refine au ?_
    refine CdF ?_
    iterate 9 refine au ?_
    cases hF
    exact Er (⟨(some ⟨k4, 0, none⟩), (a_a.length : Int).toNat, 1⟩, F32)
  obtain ⟨hk40, hx41, hd42⟩ := drop_cons hd39
  rw [l_toIntSSS_L1] at hF
  iterate 7 refine au ?_
  refine CdT ?_
  iterate 7 refine au ?_
  refine Ai hx41 (fun k45 j46 => ?_)
  refine C_ldV (R' := (RdS 22 (RdS 3 rdInt))) ag120.h (.tmp rfl rfl) .h lv120_0 (fun w47 => ?_)
  obtain ⟨r48, hx49, hF⟩ := bind_some hF
  refine Cx1 (l_toIntSS_ok _ _ _ hx49) (fun p50 => ?_)
  obtain ⟨u54, hx55, hF⟩ := bind_some hF
  have hi53 := chk_some hx55
  refine C_idxO sl32.h ty120.h.sz (.tmp rfl rfl) (.tmp rfl rfl) (.t (.t (.t (.t .h)))) hi53 (fun k51 hk52 => ?_)
  obtain ⟨z56, hx57, hF⟩ := bind_some hF
  replace hx57 := Option.some.inj hx57
  refine C_x1 (.cons (.t (.t (.t (.t .h)))) (.cons .h .nil)) (X_storeO (Ro := (OwnS 22 (OwnS 3 (roE rdInt)))) (a := r48) (i := (k36 : Int)) ty120.h.sz rfl (.tmp rfl rfl) (.tmp rfl rfl) hk52 hi53 Mk_own (fun _ _ _ _ h => by obtain ⟨_, _, rfl⟩ := OwnS.len h; rfl)) (fun F58 => ?_)
  rw [hx57]
  iterate 6 refine au ?_
  rw [wk k36]
  exact ⟨_, Nat.lt_succ_self _, _, k36 + 1, rest37, _, F58, rfl, eqA, hd42, entA, hF⟩

/-! laws.toMediator -/
def l_toMediator (a_a : Mediator) : Option (Mediator) :=
  (l_toIntS a_a.Schema).bind fun r4 =>
  (l_toMethodS a_a.Methods).bind fun r7 =>
  (l_toRuleS a_a.Rules).bind fun r10 =>
  (l_toSource a_a.Source).bind fun r13 =>
  (l_toCache a_a.Cache).bind fun r16 =>
  (l_toAccessS a_a.Log).bind fun r19 =>
  (l_toIntS a_a.Times).bind fun r22 =>
  (l_toIntSSS a_a.Results).bind fun r25 =>
  some ({ Schema := r4, Methods := r7, Rules := r10, Source := r13, Cache := r16, Now := a_a.Now, Log := r19, Times := r22, Spent := a_a.Spent, Results := r25 } : Mediator)
theorem l_toMediator_ok (a_a : Mediator) (v0_0 : Sv) (v0_1 : Sv) (v0_2 : Sv) (v0_3 : Sv) (v0_5 : Sv) (v0_8 : Sv) (v0_9 : Sv) (v0_11 : Sv) (R : Mediator) (hF : l_toMediator a_a = some R) :
    Fw.Spec Tryz.prog 10 [(.agg [v0_0.v, v0_1.v, v0_2.v, v0_3.v, (.int .i64 a_a.Source.Version), v0_5.v, (.int .i64 a_a.Cache.Age), (.int .i64 a_a.Now), v0_8.v, v0_9.v, (.int .i64 a_a.Spent), v0_11.v].toArray)] [crd (RdS 3 rdInt) v0_0.v a_a.Schema, crd (RdS 36 rd36) v0_1.v a_a.Methods, crd (RdS 61 rd61) v0_2.v a_a.Rules, crd (RdS 157 rd157) v0_3.v a_a.Source.Facts, crd (RdS 160 rd160) v0_5.v a_a.Cache.Entries, crd (RdS 118 rd118) v0_8.v a_a.Log, crd (RdS 3 rdInt) v0_9.v a_a.Times, crd (RdS 120 (RdS 22 (RdS 3 rdInt))) v0_11.v a_a.Results] (fun p : Sv × List Nat × Sv × List Nat × Sv × List Nat × Sv × List Nat × Sv × List Nat × Sv × List Nat × Sv × List Nat × Sv × List Nat => (.agg [p.1.v, p.2.2.1.v, p.2.2.2.2.1.v, p.2.2.2.2.2.2.1.v, (.int .i64 R.Source.Version), p.2.2.2.2.2.2.2.2.1.v, (.int .i64 R.Cache.Age), (.int .i64 R.Now), p.2.2.2.2.2.2.2.2.2.2.1.v, p.2.2.2.2.2.2.2.2.2.2.2.2.1.v, (.int .i64 R.Spent), p.2.2.2.2.2.2.2.2.2.2.2.2.2.2.1.v].toArray)) (fun p => [cown (OwnS 3 (roE rdInt)) p.2.1 p.1.v R.Schema, cown (OwnS 53 ow53) p.2.2.2.1 p.2.2.1.v R.Methods, cown (OwnS 64 ow64) p.2.2.2.2.2.1 p.2.2.2.2.1.v R.Rules, cown (OwnS 113 ow113) p.2.2.2.2.2.2.2.1 p.2.2.2.2.2.2.1.v R.Source.Facts, cown (OwnS 145 ow145) p.2.2.2.2.2.2.2.2.2.1 p.2.2.2.2.2.2.2.2.1.v R.Cache.Entries, cown (OwnS 131 ow131) p.2.2.2.2.2.2.2.2.2.2.2.1 p.2.2.2.2.2.2.2.2.2.2.1.v R.Log, cown (OwnS 3 (roE rdInt)) p.2.2.2.2.2.2.2.2.2.2.2.2.2.1 p.2.2.2.2.2.2.2.2.2.2.2.2.1.v R.Times, cown (OwnS 120 (OwnS 22 (OwnS 3 (roE rdInt)))) p.2.2.2.2.2.2.2.2.2.2.2.2.2.2.2 p.2.2.2.2.2.2.2.2.2.2.2.2.2.2.1.v R.Results]) := by
  refine Spec_enter (n := 43) Tryz.func10 rfl rfl (rs := [.cell 2 49]) rfl rfl rfl ?_
  intro H0 F0
  unfold l_toMediator at hF
  refine au ?_
  refine AbR (fun k1 => ?_)
  refine AnW (fun k2 => ?_)
  iterate 2 refine au ?_
  refine AnW (fun k3 => ?_)
  iterate 4 refine au ?_
  obtain ⟨r4, hx5, hF⟩ := bind_some hF
  refine Cx1 (l_toIntS_ok _ _ _ hx5) (fun p6 => ?_)
  refine au ?_
  refine As (.agg [p6.1.v, (.slice none 0 0), (.slice none 0 0), (.slice none 0 0), (.int .i64 0), (.slice none 0 0), (.int .i64 0), (.int .i64 0), (.slice none 0 0), (.slice none 0 0), (.int .i64 0), (.slice none 0 0)].toArray) ?_
  iterate 4 refine au ?_
  obtain ⟨r7, hx8, hF⟩ := bind_some hF
  refine Cx1 (l_toMethodS_ok _ _ _ hx8) (fun p9 => ?_)
  refine au ?_
  refine As (.agg [p6.1.v, p9.1.v, (.slice none 0 0), (.slice none 0 0), (.int .i64 0), (.slice none 0 0), (.int .i64 0), (.int .i64 0), (.slice none 0 0), (.slice none 0 0), (.int .i64 0), (.slice none 0 0)].toArray) ?_
  iterate 4 refine au ?_
  obtain ⟨r10, hx11, hF⟩ := bind_some hF
  refine Cx1 (l_toRuleS_ok _ _ _ hx11) (fun p12 => ?_)
  refine au ?_
  refine As (.agg [p6.1.v, p9.1.v, p12.1.v, (.slice none 0 0), (.int .i64 0), (.slice none 0 0), (.int .i64 0), (.int .i64 0), (.slice none 0 0), (.slice none 0 0), (.int .i64 0), (.slice none 0 0)].toArray) ?_
  iterate 3 refine au ?_
  refine C_at (.t (.t (.t (.t (.t .h))))) (fun hp => V_loadA (s := 2) (l := [v0_3.v, (.int .i64 a_a.Source.Version)]) ag27.h ty27.h.sz (.tmp rfl rfl) hp.2 rfl (by decide) (Nat.le_of_ble_eq_true rfl) rfl) ?_
  obtain ⟨r13, hx14, hF⟩ := bind_some hF
  refine Cx1 (l_toSource_ok _ _ _ hx14) (fun p15 => ?_)
  refine au ?_
  refine As (.agg [p6.1.v, p9.1.v, p12.1.v, p15.1.v, (.int .i64 r13.Version), (.slice none 0 0), (.int .i64 0), (.int .i64 0), (.slice none 0 0), (.slice none 0 0), (.int .i64 0), (.slice none 0 0)].toArray) ?_
  iterate 3 refine au ?_
  refine C_at (.t (.t (.t (.t (.t (.t .h)))))) (fun hp => V_loadA (s := 2) (l := [v0_5.v, (.int .i64 a_a.Cache.Age)]) ag30.h ty30.h.sz (.tmp rfl rfl) hp.2 rfl (by decide) (Nat.le_of_ble_eq_true rfl) rfl) ?_
  obtain ⟨r16, hx17, hF⟩ := bind_some hF
  refine Cx1 (l_toCache_ok _ _ _ hx17) (fun p18 => ?_)
  refine au ?_
  refine As (.agg [p6.1.v, p9.1.v, p12.1.v, p15.1.v, (.int .i64 r13.Version), p18.1.v, (.int .i64 r16.Age), (.int .i64 0), (.slice none 0 0), (.slice none 0 0), (.int .i64 0), (.slice none 0 0)].toArray) ?_
  iterate 5 refine au ?_
  refine As (.agg [p6.1.v, p9.1.v, p12.1.v, p15.1.v, (.int .i64 r13.Version), p18.1.v, (.int .i64 r16.Age), (.int .i64 a_a.Now), (.slice none 0 0), (.slice none 0 0), (.int .i64 0), (.slice none 0 0)].toArray) ?_
  iterate 4 refine au ?_
  obtain ⟨r19, hx20, hF⟩ := bind_some hF
  refine Cx1 (l_toAccessS_ok _ _ _ hx20) (fun p21 => ?_)
  refine au ?_
  refine As (.agg [p6.1.v, p9.1.v, p12.1.v, p15.1.v, (.int .i64 r13.Version), p18.1.v, (.int .i64 r16.Age), (.int .i64 a_a.Now), p21.1.v, (.slice none 0 0), (.int .i64 0), (.slice none 0 0)].toArray) ?_
  iterate 4 refine au ?_
  obtain ⟨r22, hx23, hF⟩ := bind_some hF
  refine Cx1 (l_toIntS_ok _ _ _ hx23) (fun p24 => ?_)
  refine au ?_
  refine As (.agg [p6.1.v, p9.1.v, p12.1.v, p15.1.v, (.int .i64 r13.Version), p18.1.v, (.int .i64 r16.Age), (.int .i64 a_a.Now), p21.1.v, p24.1.v, (.int .i64 0), (.slice none 0 0)].toArray) ?_
  iterate 5 refine au ?_
  refine As (.agg [p6.1.v, p9.1.v, p12.1.v, p15.1.v, (.int .i64 r13.Version), p18.1.v, (.int .i64 r16.Age), (.int .i64 a_a.Now), p21.1.v, p24.1.v, (.int .i64 a_a.Spent), (.slice none 0 0)].toArray) ?_
  iterate 4 refine au ?_
  obtain ⟨r25, hx26, hF⟩ := bind_some hF
  refine Cx1 (l_toIntSSS_ok _ _ _ hx26) (fun p27 => ?_)
  refine au ?_
  refine As (.agg [p6.1.v, p9.1.v, p12.1.v, p15.1.v, (.int .i64 r13.Version), p18.1.v, (.int .i64 r16.Age), (.int .i64 a_a.Now), p21.1.v, p24.1.v, (.int .i64 a_a.Spent), p27.1.v].toArray) ?_
  iterate 3 refine au ?_
  refine As (.agg [p6.1.v, p9.1.v, p12.1.v, p15.1.v, (.int .i64 r13.Version), p18.1.v, (.int .i64 r16.Age), (.int .i64 a_a.Now), p21.1.v, p24.1.v, (.int .i64 a_a.Spent), p27.1.v].toArray) ?_
  iterate 2 refine au ?_
  cases hF
  exact Er (p6.1, p6.2, p9.1, p9.2, p12.1, p12.2, p15.1, p15.2, p18.1, p18.2, p21.1, p21.2, p24.1, p24.2, p27.1, p27.2)

/-! spec.l1In -/
def s_l1In (a_x : Int) (a_low : Int) (a_high : Int) : Option (Bool) :=
  some ((decide ((a_low : Int) ≤ a_x)) && (decide ((a_x : Int) ≤ a_high)))
theorem s_l1In_ok (a_x : Int) (a_low : Int) (a_high : Int) (R : Bool) (hF : s_l1In a_x a_low a_high = some R) :
    Fw.Spec Tryz.prog 77 [(.int .i64 a_x), (.int .i64 a_low), (.int .i64 a_high)] [] (fun _ : Unit => (.bool R)) (fun _ => []) := by
  refine Spec_enter (n := 15) Tryz.func77 rfl rfl (rs := [.tmp 6]) rfl rfl rfl ?_
  intro H0 F0
  unfold s_l1In at hF
  iterate 4 refine au ?_
  refine C_cut (fun f' cs' => ∃ (g : Fr), f' = updL g [(6, (.bool ((decide ((a_low : Int) ≤ a_x)) && (decide ((a_x : Int) ≤ a_high)))))] ∧ Ent cs' []) ?_ ?_
  · iterate 4 refine au ?_
    rcases Bool.eq_false_or_eq_true (decide ((a_low : Int) ≤ a_x)) with hg1 | hg1
    · rw [hg1]
      try rw [hg1] at hF; dsimp only [cond_true, cond_false] at hF
      iterate 9 refine au ?_
      exact ⟨_, eqA, entA⟩
    rw [hg1]
    try rw [hg1] at hF; dsimp only [cond_true, cond_false] at hF
    iterate 6 refine au ?_
    exact ⟨_, eqA, entA⟩
  rintro _ _ ⟨g2, rfl, hE⟩
  refine K_ent hE ?_
  refine au ?_
  cases hF
  exact Er ()

/-! spec.IsSchema -/
def s_IsSchema_L1 (a_s : List Int) : List Int → Nat → Option (Bool)
  | [], k4 => (s_l1In (a_s.length : Int) 1 3).bind fun r13 =>
    some r13
  | x6 :: rest5, k4 => (s_l1In x6 1 3).bind fun r18 =>
    if (!r18) then (
      some false)
    else (
      s_IsSchema_L1 a_s rest5 (k4 + 1))
def s_IsSchema (a_s : List Int) : Option (Bool) :=
  s_IsSchema_L1 a_s a_s 0
theorem s_IsSchema_ok (a_s : List Int) (v0_0 : Sv) (R : Bool) (hF : s_IsSchema a_s = some R) :
    Fw.Spec Tryz.prog 92 [v0_0.v] [crd (RdS 3 rdInt) v0_0.v a_s] (fun _ : Unit => (.bool R)) (fun _ => []) := by
  refine Spec_enter (n := 19) Tryz.func92 rfl rfl (rs := [.tmp 2]) rfl rfl rfl ?_
  intro H0 F0
  unfold s_IsSchema at hF
  iterate 7 refine au ?_
  refine CW_block (CW_loop (m := a_s.length) (fun m2 f' cs' => ∃ (g : Fr) (k4 : Nat) (rest5 : List Int), m2 = rest5.length ∧ f' = updL g [(0, v0_0.v), (3, (.int .i64 (k4 : Int)))] ∧ List.drop k4 a_s = rest5 ∧ Ent cs' [crd (RdS 3 rdInt) v0_0.v a_s] ∧ s_IsSchema_L1 a_s rest5 k4 = some R) ⟨_, 0, _, rfl, eqA, rfl, entA, hF⟩ ?_)
  clear hF
  rintro m2 _ _ ⟨g3, k4, rest5, rfl, rfl, hd7, hE, hF⟩
  refine K_ent hE ?_
  clear hE
  refine K_pure (c := crd (RdS 3 rdInt) v0_0.v a_s) .h crd_bound (fun hbd12 => ?_)
  rcases rest5 with _ | ⟨x6, rest5⟩
  · have hk8 := List.drop_eq_nil_iff.1 hd7
    rw [s_IsSchema_L1] at hF
    iterate 7 refine au ?_
    refine CdF ?_
    iterate 7 refine au ?_
    obtain ⟨r13, hx14, hF⟩ := bind_some hF
    refine Cx0 (s_l1In_ok _ _ _ _ hx14) (fun _ => ?_)
    iterate 3 refine au ?_
    cases hF
    exact Er ()
  obtain ⟨hk8, hx9, hd10⟩ := drop_cons hd7
  rw [s_IsSchema_L1] at hF
  iterate 7 refine au ?_
  refine CdT ?_
  iterate 5 refine au ?_
  refine Ai hx9 (fun k16 j17 => ?_)
  refine Al ls3_0 ?_
  obtain ⟨r18, hx19, hF⟩ := bind_some hF
  refine Cx0 (s_l1In_ok _ _ _ _ hx19) (fun _ => ?_)
  iterate 2 refine au ?_
  refine Cc (fun hb22 => ?_) (fun hb22 => ?_)
  · rw [if_pos hb22] at hF
    iterate 4 refine au ?_
    cases hF
    exact Er ()
  rw [if_neg (nt hb22)] at hF
  iterate 6 refine au ?_
  rw [wk k4]
  exact ⟨_, Nat.lt_succ_self _, _, k4 + 1, rest5, rfl, eqA, hd10, entA, hF⟩

/-! spec.IsMethod -/
def s_IsMethod_L1 (a_s : List Int) (a_m : Method) : List Int → Nat → Option (Bool)
  | [], k27 => some true
  | x29 :: rest28, k27 => ((ix a_s a_m.Rel).bind fun x40 =>
      (s_l1In x29 0 (IntKind.i64.wrap (x40 - 1))).bind fun r46 =>
      bif (!r46) then (some true)
      else (bif (decide ((0 : Int) < (k27 : Int))) then ((ix a_m.Inputs (IntKind.i64.wrap ((k27 : Int) - 1))).bind fun x53 =>
          some (decide ((x29 : Int) ≤ x53)))
        else (some false))).bind fun o36 =>
    match o36 with
    | c59 => if c59 then (
        some false)
      else (
        s_IsMethod_L1 a_s a_m rest28 (k27 + 1))
def s_IsMethod (a_s : List Int) (a_m : Method) : Option (Bool) :=
  ((s_IsSchema a_s).bind fun r4 =>
    bif (!r4) then (some true)
    else ((s_l1In a_m.Rel 0 (IntKind.i64.wrap ((a_s.length : Int) - 1))).bind fun r8 =>
      bif (!r8) then (some true)
      else ((s_l1In a_m.Limit 0 9).bind fun r12 =>
        bif (!r12) then (some true)
        else ((s_l1In a_m.Cost 0 99).bind fun r16 =>
          bif (!r16) then (some true)
          else ((s_l1In a_m.Quota 1 99).bind fun r20 =>
            some (!r20)))))).bind fun o2 =>
  match o2 with
  | c23 => if c23 then (
      some false)
    else (
      s_IsMethod_L1 a_s a_m a_m.Inputs 0)
theorem s_IsMethod_ok (a_s : List Int) (v0_0 : Sv) (a_m : Method) (v1_1 : Sv) (R : Bool) (hF : s_IsMethod a_s a_m = some R) :
    Fw.Spec Tryz.prog 40 [v0_0.v, (.agg [(.int .i64 a_m.Rel), v1_1.v, (.int .i64 a_m.Limit), (.int .i64 a_m.Cost), (.int .i64 a_m.Quota)].toArray)] [crd (RdS 3 rdInt) v0_0.v a_s, crd (RdS 3 rdInt) v1_1.v a_m.Inputs] (fun _ : Unit => (.bool R)) (fun _ => []) := by
  refine Spec_enter (n := 74) Tryz.func40 rfl rfl (rs := [.tmp 4]) rfl rfl rfl ?_
  intro H0 F0
  unfold s_IsMethod at hF
  refine au ?_
  refine AbR (fun k1 => ?_)
  iterate 3 refine au ?_
  obtain ⟨o2, hio2, hO3⟩ := bind_some hF
  refine au ?_
  refine C_cut (fun f' cs' => ∃ (c23 : Bool) (g : Fr), c23 = o2 ∧ f' = updL g [(0, v0_0.v), (3, (.pointer (some ⟨k1, 0, some 0⟩))), (35, (.bool c23))] ∧ Ent cs' [crd (RdS 3 rdInt) v0_0.v a_s, cboR k1 53 (.agg [(.int .i64 a_m.Rel), v1_1.v, (.int .i64 a_m.Limit), (.int .i64 a_m.Cost), (.int .i64 a_m.Quota)].toArray), crd (RdS 3 rdInt) v1_1.v a_m.Inputs]) ?_ ?_
  · replace hF := hio2
    refine au ?_
    obtain ⟨r4, hx5, hF⟩ := bind_some hF
    refine Cx0 (s_IsSchema_ok _ _ _ hx5) (fun _ => ?_)
    iterate 2 refine au ?_
    rcases Bool.eq_false_or_eq_true (!r4) with hg7 | hg7
    · rw [hg7]
      try rw [hg7] at hF; dsimp only [cond_true, cond_false] at hF
      iterate 27 refine au ?_
      cases hF
      exact ⟨_, _, rfl, eqA, entA⟩
    rw [hg7]
    try rw [hg7] at hF; dsimp only [cond_true, cond_false] at hF
    iterate 11 refine au ?_
    obtain ⟨r8, hx9, hF⟩ := bind_some hF
    refine Cx0 (s_l1In_ok _ _ _ _ hx9) (fun _ => ?_)
    iterate 4 refine au ?_
    rcases Bool.eq_false_or_eq_true (!r8) with hg11 | hg11
    · rw [hg11]
      try rw [hg11] at hF; dsimp only [cond_true, cond_false] at hF
      iterate 18 refine au ?_
      cases hF
      exact ⟨_, _, rfl, eqA, entA⟩
    rw [hg11]
    try rw [hg11] at hF; dsimp only [cond_true, cond_false] at hF
    iterate 5 refine au ?_
    obtain ⟨r12, hx13, hF⟩ := bind_some hF
    refine Cx0 (s_l1In_ok _ _ _ _ hx13) (fun _ => ?_)
    iterate 4 refine au ?_
    rcases Bool.eq_false_or_eq_true (!r12) with hg15 | hg15
    · rw [hg15]
      try rw [hg15] at hF; dsimp only [cond_true, cond_false] at hF
      iterate 12 refine au ?_
      cases hF
      exact ⟨_, _, rfl, eqA, entA⟩
    rw [hg15]
    try rw [hg15] at hF; dsimp only [cond_true, cond_false] at hF
    iterate 5 refine au ?_
    obtain ⟨r16, hx17, hF⟩ := bind_some hF
    refine Cx0 (s_l1In_ok _ _ _ _ hx17) (fun _ => ?_)
    iterate 4 refine au ?_
    rcases Bool.eq_false_or_eq_true (!r16) with hg19 | hg19
    · rw [hg19]
      try rw [hg19] at hF; dsimp only [cond_true, cond_false] at hF
      iterate 6 refine au ?_
      cases hF
      exact ⟨_, _, rfl, eqA, entA⟩
    rw [hg19]
    try rw [hg19] at hF; dsimp only [cond_true, cond_false] at hF
    iterate 5 refine au ?_
    obtain ⟨r20, hx21, hF⟩ := bind_some hF
    refine Cx0 (s_l1In_ok _ _ _ _ hx21) (fun _ => ?_)
    iterate 4 refine au ?_
    cases hF
    exact ⟨_, _, rfl, eqA, entA⟩
  rintro _ _ ⟨c23, g64, rfl, rfl, hE⟩
  replace hF := hO3
  clear hO3
  try dsimp only at hF
  refine K_ent hE ?_
  refine Cc (fun hb63 => ?_) (fun hb63 => ?_)
  · rw [if_pos hb63] at hF
    iterate 4 refine au ?_
    cases hF
    exact Er ()
  rw [if_neg (nt hb63)] at hF
  iterate 5 refine au ?_
  refine CW_block (CW_loop (m := a_m.Inputs.length) (fun m25 f' cs' => ∃ (g : Fr) (k27 : Nat) (rest28 : List Int), m25 = rest28.length ∧ f' = updL g [(0, v0_0.v), (3, (.pointer (some ⟨k1, 0, some 0⟩))), (5, (.int .i64 (k27 : Int)))] ∧ List.drop k27 a_m.Inputs = rest28 ∧ Ent cs' [crd (RdS 3 rdInt) v0_0.v a_s, cboR k1 53 (.agg [(.int .i64 a_m.Rel), v1_1.v, (.int .i64 a_m.Limit), (.int .i64 a_m.Cost), (.int .i64 a_m.Quota)].toArray), crd (RdS 3 rdInt) v1_1.v a_m.Inputs] ∧ s_IsMethod_L1 a_s a_m rest28 k27 = some R) ⟨_, 0, _, rfl, eqA, rfl, entA, hF⟩ ?_)
  clear hF
  rintro m25 _ _ ⟨g26, k27, rest28, rfl, rfl, hd30, hE, hF⟩
  refine K_ent hE ?_
  clear hE
  refine K_pure (c := crd (RdS 3 rdInt) v1_1.v a_m.Inputs) (.t (.t .h)) crd_bound (fun hbd35 => ?_)
  rcases rest28 with _ | ⟨x29, rest28⟩
  · have hk31 := List.drop_eq_nil_iff.1 hd30
    rw [s_IsMethod_L1] at hF
    iterate 8 refine au ?_
    refine CdF ?_
    iterate 8 refine au ?_
    cases hF
    exact Er ()
  obtain ⟨hk31, hx32, hd33⟩ := drop_cons hd30
  rw [s_IsMethod_L1] at hF
  iterate 8 refine au ?_
  refine CdT ?_
  iterate 2 refine au ?_
  obtain ⟨o36, hio36, hO37⟩ := bind_some hF
  refine K_draw [0, 1, 2, 3, 4, 5, 6, 7, 8, 9, 10, 11, 12, 13, 14, 15, 16, 17, 18, 19, 20, 21, 22, 23, 24, 25, 26, 27, 28, 29, 30] [0, 1, 0, 7, 15, 0, 0, 64, 224, 480, 992, 2047, 4095, 8191, 16383, 32767, 65535, 131071, 262143, 131071, 1048575, 2097151, 131071, 4325375, 131071, 16908287, 63045631, 130154495, 268435455, 536870911, 1073741823] [11] mixed (by decide +kernel) ?_
  refine D_cut (fun f' cs' => ∃ (c59 : Bool) (g : Fr), c59 = o36 ∧ f' = updL g [(0, v0_0.v), (3, (.pointer (some ⟨k1, 0, some 0⟩))), (5, (.int .i64 (k27 : Int))), (73, (.bool c59))] ∧ Ent cs' [crd (RdS 3 rdInt) v0_0.v a_s, cboR k1 53 (.agg [(.int .i64 a_m.Rel), v1_1.v, (.int .i64 a_m.Limit), (.int .i64 a_m.Cost), (.int .i64 a_m.Quota)].toArray), crd (RdS 3 rdInt) v1_1.v a_m.Inputs]) ?_ ?_
  · replace hF := hio36
    iterate 3 refine du ?_
    refine Di hx32 (fun k38 j39 => ?_)
    refine Dl ls3_0 ?_
    iterate 3 refine du ?_
    obtain ⟨x40, hx41, hF⟩ := bind_some hF
    obtain ⟨hp42, hx43⟩ := ix_some hx41
    refine Di hx43 (fun k44 j45 => ?_)
    refine Dl ls3_0 ?_
    refine du ?_
    obtain ⟨r46, hx47, hF⟩ := bind_some hF
    refine Dx0 (s_l1In_ok _ _ _ _ hx47) (fun _ => ?_)
    iterate 2 refine du ?_
    rcases Bool.eq_false_or_eq_true (!r46) with hg49 | hg49
    · rw [hg49]
      try rw [hg49] at hF; dsimp only [cond_true, cond_false] at hF
      iterate 18 refine du ?_
      cases hF
      exact ⟨_, _, rfl, eqA, entA⟩
    rw [hg49]
    try rw [hg49] at hF; dsimp only [cond_true, cond_false] at hF
    iterate 3 refine du ?_
    rcases Bool.eq_false_or_eq_true (decide ((0 : Int) < (k27 : Int))) with hg50 | hg50
    · rw [hg50]
      try rw [hg50] at hF; dsimp only [cond_true, cond_false] at hF
      iterate 3 refine du ?_
      refine Di hx32 (fun k51 j52 => ?_)
      refine Dl ls3_0 ?_
      iterate 4 refine du ?_
      obtain ⟨x53, hx54, hF⟩ := bind_some hF
      obtain ⟨hp55, hx56⟩ := ix_some hx54
      refine Di hx56 (fun k57 j58 => ?_)
      refine Dl ls3_0 ?_
      iterate 4 refine du ?_
      cases hF
      exact ⟨_, _, rfl, eqA, entA⟩
    rw [hg50]
    try rw [hg50] at hF; dsimp only [cond_true, cond_false] at hF
    iterate 15 refine du ?_
    cases hF
    exact ⟨_, _, rfl, eqA, entA⟩
  rintro _ _ ⟨c59, g62, rfl, rfl, hE⟩
  replace hF := hO37
  clear hO37
  try dsimp only at hF
  refine K_ent hE ?_
  refine Cc (fun hb61 => ?_) (fun hb61 => ?_)
  · rw [if_pos hb61] at hF
    iterate 4 refine au ?_
    cases hF
    exact Er ()
  rw [if_neg (nt hb61)] at hF
  iterate 6 refine au ?_
  rw [wk k27]
  exact ⟨_, Nat.lt_succ_self _, _, k27 + 1, rest28, rfl, eqA, hd33, entA, hF⟩

/-! spec.AreMethods -/
def s_AreMethods_L1 (a_s : List Int) (a_l : List Method) : List Method → Nat → Option (Bool)
  | [], k4 => ((s_IsSchema a_s).bind fun r15 =>
      bif r15 then (some (decide (((a_l.length : Int) : Int) ≤ 5)))
      else (some false)).bind fun o13 =>
    match o13 with
    | c19 => some c19
  | x6 :: rest5, k4 => (s_IsMethod a_s x6).bind fun r24 =>
    if (!r24) then (
      some false)
    else (
      s_AreMethods_L1 a_s a_l rest5 (k4 + 1))
def s_AreMethods (a_s : List Int) (a_l : List Method) : Option (Bool) :=
  s_AreMethods_L1 a_s a_l a_l 0
theorem s_AreMethods_ok (a_s : List Int) (v0_0 : Sv) (a_l : List Method) (v1_0 : Sv) (R : Bool) (hF : s_AreMethods a_s a_l = some R) :
    Fw.Spec Tryz.prog 93 [v0_0.v, v1_0.v] [crd (RdS 3 rdInt) v0_0.v a_s, crd (RdS 53 rd53) v1_0.v a_l] (fun _ : Unit => (.bool R)) (fun _ => []) := by
  refine Spec_enter (n := 26) Tryz.func93 rfl rfl (rs := [.tmp 4]) rfl rfl rfl ?_
  intro H0 F0
  unfold s_AreMethods at hF
  iterate 7 refine au ?_
  refine CW_block (CW_loop (m := a_l.length) (fun m2 f' cs' => ∃ (g : Fr) (k4 : Nat) (rest5 : List Method), m2 = rest5.length ∧ f' = updL g [(0, v0_0.v), (1, v1_0.v), (5, (.int .i64 (k4 : Int)))] ∧ List.drop k4 a_l = rest5 ∧ Ent cs' [crd (RdS 3 rdInt) v0_0.v a_s, crd (RdS 53 rd53) v1_0.v a_l] ∧ s_AreMethods_L1 a_s a_l rest5 k4 = some R) ⟨_, 0, _, rfl, eqA, rfl, entA, hF⟩ ?_)
  clear hF
  rintro m2 _ _ ⟨g3, k4, rest5, rfl, rfl, hd7, hE, hF⟩
  refine K_ent hE ?_
  clear hE
  refine K_pure (c := crd (RdS 53 rd53) v1_0.v a_l) (.t .h) crd_bound (fun hbd12 => ?_)
  rcases rest5 with _ | ⟨x6, rest5⟩
  · have hk8 := List.drop_eq_nil_iff.1 hd7
    rw [s_AreMethods_L1] at hF
    iterate 7 refine au ?_
    refine CdF ?_
    iterate 4 refine au ?_
    obtain ⟨o13, hio13, hO14⟩ := bind_some hF
    refine au ?_
    refine C_cut (fun f' cs' => ∃ (c19 : Bool) (g : Fr), c19 = o13 ∧ f' = updL g [(4, (.bool c19))] ∧ Ent cs' []) ?_ ?_
    · replace hF := hio13
      refine au ?_
      obtain ⟨r15, hx16, hF⟩ := bind_some hF
      refine Cx0 (s_IsSchema_ok _ _ _ hx16) (fun _ => ?_)
      refine au ?_
      rcases Bool.eq_false_or_eq_true r15 with hg18 | hg18
      · rw [hg18]
        try rw [hg18] at hF; dsimp only [cond_true, cond_false] at hF
        iterate 9 refine au ?_
        cases hF
        exact ⟨_, _, rfl, eqA, entA⟩
      rw [hg18]
      try rw [hg18] at hF; dsimp only [cond_true, cond_false] at hF
      iterate 6 refine au ?_
      cases hF
      exact ⟨_, _, rfl, eqA, entA⟩
    rintro _ _ ⟨c19, g20, rfl, rfl, hE⟩
    replace hF := hO14
    clear hO14
    try dsimp only at hF
    refine K_ent hE ?_
    refine au ?_
    cases hF
    exact Er ()
  obtain ⟨hk8, hx9, hd10⟩ := drop_cons hd7
  rw [s_AreMethods_L1] at hF
  iterate 7 refine au ?_
  refine CdT ?_
  iterate 6 refine au ?_
  refine Ai hx9 (fun k21 j22 => ?_)
  refine AlA1 (ul53_0_53 x6) la53_0_53 (fun p23 => ?_)
  obtain ⟨r24, hx25, hF⟩ := bind_some hF
  refine Cx0 (s_IsMethod_ok _ _ _ _ _ hx25) (fun _ => ?_)
  iterate 2 refine au ?_
  refine Cc (fun hb28 => ?_) (fun hb28 => ?_)
  · rw [if_pos hb28] at hF
    iterate 4 refine au ?_
    cases hF
    exact Er ()
  rw [if_neg (nt hb28)] at hF
  iterate 6 refine au ?_
  rw [wk k4]
  exact ⟨_, Nat.lt_succ_self _, _, k4 + 1, rest5, rfl, eqA, hd10, entA, hF⟩

/-! spec.IsRule -/
def s_IsRule_L1 (a_s : List Int) (a_r : Rule) : List Int → Nat → Option (Bool)
  | [], k26 => some true
  | x28 :: rest27, k26 => (ix a_s a_r.From).bind fun x37 =>
    (s_l1In x28 0 (IntKind.i64.wrap (x37 - 1))).bind fun r43 =>
    if (!r43) then (
      some false)
    else (
      s_IsRule_L1 a_s a_r rest27 (k26 + 1))
def s_IsRule (a_s : List Int) (a_r : Rule) : Option (Bool) :=
  ((s_IsSchema a_s).bind fun r4 =>
    bif (!r4) then (some true)
    else ((s_l1In a_r.From 0 (IntKind.i64.wrap ((a_s.length : Int) - 1))).bind fun r8 =>
      bif (!r8) then (some true)
      else ((s_l1In a_r.To 0 (IntKind.i64.wrap ((a_s.length : Int) - 1))).bind fun r12 =>
        bif (!r12) then (some true)
        else ((ix a_s a_r.To).bind fun x16 =>
          some (((a_r.Map.length : Int) : Int) != x16))))).bind fun o2 =>
  match o2 with
  | c22 => if c22 then (
      some false)
    else (
      s_IsRule_L1 a_s a_r a_r.Map 0)
theorem s_IsRule_ok (a_s : List Int) (v0_0 : Sv) (a_r : Rule) (v1_2 : Sv) (R : Bool) (hF : s_IsRule a_s a_r = some R) :
    Fw.Spec Tryz.prog 74 [v0_0.v, (.agg [(.int .i64 a_r.From), (.int .i64 a_r.To), v1_2.v].toArray)] [crd (RdS 3 rdInt) v0_0.v a_s, crd (RdS 3 rdInt) v1_2.v a_r.Map] (fun _ : Unit => (.bool R)) (fun _ => []) := by
  refine Spec_enter (n := 58) Tryz.func74 rfl rfl (rs := [.tmp 4]) rfl rfl rfl ?_
  intro H0 F0
  unfold s_IsRule at hF
  refine au ?_
  refine AbR (fun k1 => ?_)
  iterate 3 refine au ?_
  obtain ⟨o2, hio2, hO3⟩ := bind_some hF
  refine K_draw [0, 1, 2, 3, 4, 5, 6, 7, 8, 9, 10, 11, 12, 13, 14, 15, 16, 17, 18, 19, 20, 21, 22, 23, 24, 25, 26, 27, 28, 29, 30, 31] [0, 1, 3, 7, 15, 31, 15, 79, 207, 511, 1023, 2047, 4095, 8191, 16383, 8191, 40959, 106495, 262143, 524287, 1048575, 2097151, 4194303, 8388607, 16777215, 4194303, 4194303, 71303167, 239075327, 507510783, 1073741823, 2147483647] [1, 9, 18] mixed (by decide +kernel) ?_
  refine D_cut (fun f' cs' => ∃ (c22 : Bool) (g : Fr), c22 = o2 ∧ f' = updL g [(0, v0_0.v), (3, (.pointer (some ⟨k1, 0, some 0⟩))), (37, (.bool c22))] ∧ Ent cs' [crd (RdS 3 rdInt) v0_0.v a_s, cboR k1 64 (.agg [(.int .i64 a_r.From), (.int .i64 a_r.To), v1_2.v].toArray), crd (RdS 3 rdInt) v1_2.v a_r.Map]) ?_ ?_
  · replace hF := hio2
    refine du ?_
    obtain ⟨r4, hx5, hF⟩ := bind_some hF
    refine Dx0 (s_IsSchema_ok _ _ _ hx5) (fun _ => ?_)
    iterate 2 refine du ?_
    rcases Bool.eq_false_or_eq_true (!r4) with hg7 | hg7
    · rw [hg7]
      try rw [hg7] at hF; dsimp only [cond_true, cond_false] at hF
      iterate 29 refine du ?_
      cases hF
      exact ⟨_, _, rfl, eqA, entA⟩
    rw [hg7]
    try rw [hg7] at hF; dsimp only [cond_true, cond_false] at hF
    iterate 5 refine du ?_
    obtain ⟨r8, hx9, hF⟩ := bind_some hF
    refine Dx0 (s_l1In_ok _ _ _ _ hx9) (fun _ => ?_)
    iterate 3 refine du ?_
    rcases Bool.eq_false_or_eq_true (!r8) with hg11 | hg11
    · rw [hg11]
      try rw [hg11] at hF; dsimp only [cond_true, cond_false] at hF
      iterate 20 refine du ?_
      cases hF
      exact ⟨_, _, rfl, eqA, entA⟩
    rw [hg11]
    try rw [hg11] at hF; dsimp only [cond_true, cond_false] at hF
    iterate 5 refine du ?_
    obtain ⟨r12, hx13, hF⟩ := bind_some hF
    refine Dx0 (s_l1In_ok _ _ _ _ hx13) (fun _ => ?_)
    iterate 3 refine du ?_
    rcases Bool.eq_false_or_eq_true (!r12) with hg15 | hg15
    · rw [hg15]
      try rw [hg15] at hF; dsimp only [cond_true, cond_false] at hF
      iterate 11 refine du ?_
      cases hF
      exact ⟨_, _, rfl, eqA, entA⟩
    rw [hg15]
    try rw [hg15] at hF; dsimp only [cond_true, cond_false] at hF
    iterate 6 refine du ?_
    obtain ⟨x16, hx17, hF⟩ := bind_some hF
    obtain ⟨hp18, hx19⟩ := ix_some hx17
    refine Di hx19 (fun k20 j21 => ?_)
    refine Dl ls3_0 ?_
    iterate 3 refine du ?_
    cases hF
    exact ⟨_, _, rfl, eqA, entA⟩
  rintro _ _ ⟨c22, g49, rfl, rfl, hE⟩
  replace hF := hO3
  clear hO3
  try dsimp only at hF
  refine K_ent hE ?_
  refine Cc (fun hb48 => ?_) (fun hb48 => ?_)
  · rw [if_pos hb48] at hF
    iterate 4 refine au ?_
    cases hF
    exact Er ()
  rw [if_neg (nt hb48)] at hF
  iterate 5 refine au ?_
  refine CW_block (CW_loop (m := a_r.Map.length) (fun m24 f' cs' => ∃ (g : Fr) (k26 : Nat) (rest27 : List Int), m24 = rest27.length ∧ f' = updL g [(0, v0_0.v), (3, (.pointer (some ⟨k1, 0, some 0⟩))), (5, (.int .i64 (k26 : Int)))] ∧ List.drop k26 a_r.Map = rest27 ∧ Ent cs' [crd (RdS 3 rdInt) v0_0.v a_s, cboR k1 64 (.agg [(.int .i64 a_r.From), (.int .i64 a_r.To), v1_2.v].toArray), crd (RdS 3 rdInt) v1_2.v a_r.Map] ∧ s_IsRule_L1 a_s a_r rest27 k26 = some R) ⟨_, 0, _, rfl, eqA, rfl, entA, hF⟩ ?_)
  clear hF
  rintro m24 _ _ ⟨g25, k26, rest27, rfl, rfl, hd29, hE, hF⟩
  refine K_ent hE ?_
  clear hE
  refine K_pure (c := crd (RdS 3 rdInt) v1_2.v a_r.Map) (.t (.t .h)) crd_bound (fun hbd34 => ?_)
  rcases rest27 with _ | ⟨x28, rest27⟩
  · have hk30 := List.drop_eq_nil_iff.1 hd29
    rw [s_IsRule_L1] at hF
    iterate 8 refine au ?_
    refine CdF ?_
    iterate 8 refine au ?_
    cases hF
    exact Er ()
  obtain ⟨hk30, hx31, hd32⟩ := drop_cons hd29
  rw [s_IsRule_L1] at hF
  iterate 8 refine au ?_
  refine CdT ?_
  iterate 2 refine au ?_
  refine K_draw [0, 1, 2, 3, 4, 5, 6, 7, 8, 9, 10, 11, 12] [0, 1, 0, 7, 15, 0, 0, 64, 224, 480, 992, 2047, 4095] [11] mixed (by decide +kernel) ?_
  iterate 3 refine du ?_
  refine Di hx31 (fun k35 j36 => ?_)
  refine Dl ls3_0 ?_
  iterate 3 refine du ?_
  obtain ⟨x37, hx38, hF⟩ := bind_some hF
  obtain ⟨hp39, hx40⟩ := ix_some hx38
  refine Di hx40 (fun k41 j42 => ?_)
  refine Dl ls3_0 ?_
  refine du ?_
  obtain ⟨r43, hx44, hF⟩ := bind_some hF
  refine Dx0 (s_l1In_ok _ _ _ _ hx44) (fun _ => ?_)
  iterate 2 refine du ?_
  refine Cc (fun hb47 => ?_) (fun hb47 => ?_)
  · rw [if_pos hb47] at hF
    iterate 4 refine au ?_
    cases hF
    exact Er ()
  rw [if_neg (nt hb47)] at hF
  iterate 6 refine au ?_
  rw [wk k26]
  exact ⟨_, Nat.lt_succ_self _, _, k26 + 1, rest27, rfl, eqA, hd32, entA, hF⟩

/-! spec.AreRules -/
def s_AreRules_L1 (a_s : List Int) (a_l : List Rule) : List Rule → Nat → Option (Bool)
  | [], k4 => ((s_IsSchema a_s).bind fun r15 =>
      bif r15 then (some (decide (((a_l.length : Int) : Int) ≤ 4)))
      else (some false)).bind fun o13 =>
    match o13 with
    | c19 => some c19
  | x6 :: rest5, k4 => (s_IsRule a_s x6).bind fun r24 =>
    if (!r24) then (
      some false)
    else (
      s_AreRules_L1 a_s a_l rest5 (k4 + 1))
def s_AreRules (a_s : List Int) (a_l : List Rule) : Option (Bool) :=
  s_AreRules_L1 a_s a_l a_l 0
theorem s_AreRules_ok (a_s : List Int) (v0_0 : Sv) (a_l : List Rule) (v1_0 : Sv) (R : Bool) (hF : s_AreRules a_s a_l = some R) :
    Fw.Spec Tryz.prog 94 [v0_0.v, v1_0.v] [crd (RdS 3 rdInt) v0_0.v a_s, crd (RdS 64 rd64) v1_0.v a_l] (fun _ : Unit => (.bool R)) (fun _ => []) := by
  refine Spec_enter (n := 26) Tryz.func94 rfl rfl (rs := [.tmp 4]) rfl rfl rfl ?_
  intro H0 F0
  unfold s_AreRules at hF
  iterate 7 refine au ?_
  refine CW_block (CW_loop (m := a_l.length) (fun m2 f' cs' => ∃ (g : Fr) (k4 : Nat) (rest5 : List Rule), m2 = rest5.length ∧ f' = updL g [(0, v0_0.v), (1, v1_0.v), (5, (.int .i64 (k4 : Int)))] ∧ List.drop k4 a_l = rest5 ∧ Ent cs' [crd (RdS 3 rdInt) v0_0.v a_s, crd (RdS 64 rd64) v1_0.v a_l] ∧ s_AreRules_L1 a_s a_l rest5 k4 = some R) ⟨_, 0, _, rfl, eqA, rfl, entA, hF⟩ ?_)
  clear hF
  rintro m2 _ _ ⟨g3, k4, rest5, rfl, rfl, hd7, hE, hF⟩
  refine K_ent hE ?_
  clear hE
  refine K_pure (c := crd (RdS 64 rd64) v1_0.v a_l) (.t .h) crd_bound (fun hbd12 => ?_)
  rcases rest5 with _ | ⟨x6, rest5⟩
  · have hk8 := List.drop_eq_nil_iff.1 hd7
    rw [s_AreRules_L1] at hF
    iterate 7 refine au ?_
    refine CdF ?_
    iterate 4 refine au ?_
    obtain ⟨o13, hio13, hO14⟩ := bind_some hF
    refine au ?_
    refine C_cut (fun f' cs' => ∃ (c19 : Bool) (g : Fr), c19 = o13 ∧ f' = updL g [(4, (.bool c19))] ∧ Ent cs' []) ?_ ?_
    · replace hF := hio13
      refine au ?_
      obtain ⟨r15, hx16, hF⟩ := bind_some hF
      refine Cx0 (s_IsSchema_ok _ _ _ hx16) (fun _ => ?_)
      refine au ?_
      rcases Bool.eq_false_or_eq_true r15 with hg18 | hg18
      · rw [hg18]
        try rw [hg18] at hF; dsimp only [cond_true, cond_false] at hF
        iterate 9 refine au ?_
        cases hF
        exact ⟨_, _, rfl, eqA, entA⟩
      rw [hg18]
      try rw [hg18] at hF; dsimp only [cond_true, cond_false] at hF
      iterate 6 refine au ?_
      cases hF
      exact ⟨_, _, rfl, eqA, entA⟩
    rintro _ _ ⟨c19, g20, rfl, rfl, hE⟩
    replace hF := hO14
    clear hO14
    try dsimp only at hF
    refine K_ent hE ?_
    refine au ?_
    cases hF
    exact Er ()
  obtain ⟨hk8, hx9, hd10⟩ := drop_cons hd7
  rw [s_AreRules_L1] at hF
  iterate 7 refine au ?_
  refine CdT ?_
  iterate 6 refine au ?_
  refine Ai hx9 (fun k21 j22 => ?_)
  refine AlA1 (ul64_0_64 x6) la64_0_64 (fun p23 => ?_)
  obtain ⟨r24, hx25, hF⟩ := bind_some hF
  refine Cx0 (s_IsRule_ok _ _ _ _ _ hx25) (fun _ => ?_)
  iterate 2 refine au ?_
  refine Cc (fun hb28 => ?_) (fun hb28 => ?_)
  · rw [if_pos hb28] at hF
    iterate 4 refine au ?_
    cases hF
    exact Er ()
  rw [if_neg (nt hb28)] at hF
  iterate 6 refine au ?_
  rw [wk k4]
  exact ⟨_, Nat.lt_succ_self _, _, k4 + 1, rest5, rfl, eqA, hd10, entA, hF⟩

/-! spec.IsFact -/
def s_IsFact_L1 : List Int → Nat → Option (Bool)
  | [], k22 => some true
  | x24 :: rest23, k22 => (s_l1In x24 0 9).bind fun r33 =>
    if (!r33) then (
      some false)
    else (
      s_IsFact_L1 rest23 (k22 + 1))
def s_IsFact (a_s : List Int) (a_f : Fact) : Option (Bool) :=
  ((s_IsSchema a_s).bind fun r4 =>
    bif (!r4) then (some true)
    else ((s_l1In a_f.Rel 0 (IntKind.i64.wrap ((a_s.length : Int) - 1))).bind fun r8 =>
      bif (!r8) then (some true)
      else ((ix a_s a_f.Rel).bind fun x12 =>
        some (((a_f.Values.length : Int) : Int) != x12)))).bind fun o2 =>
  match o2 with
  | c18 => if c18 then (
      some false)
    else (
      s_IsFact_L1 a_f.Values 0)
theorem s_IsFact_ok (a_s : List Int) (v0_0 : Sv) (a_f : Fact) (v1_1 : Sv) (R : Bool) (hF : s_IsFact a_s a_f = some R) :
    Fw.Spec Tryz.prog 178 [v0_0.v, (.agg [(.int .i64 a_f.Rel), v1_1.v].toArray)] [crd (RdS 3 rdInt) v0_0.v a_s, crd (RdS 3 rdInt) v1_1.v a_f.Values] (fun _ : Unit => (.bool R)) (fun _ => []) := by
  refine Spec_enter (n := 43) Tryz.func178 rfl rfl (rs := [.tmp 4]) rfl rfl rfl ?_
  intro H0 F0
  unfold s_IsFact at hF
  refine au ?_
  refine AbR (fun k1 => ?_)
  iterate 3 refine au ?_
  obtain ⟨o2, hio2, hO3⟩ := bind_some hF
  refine K_draw [0, 1, 2, 3, 4, 5, 6, 7, 8, 9, 10, 11, 12, 13, 14, 15, 16, 17, 18, 19, 20, 21, 22] [0, 1, 3, 7, 15, 31, 15, 79, 207, 511, 1023, 2047, 4095, 8191, 16383, 32767, 8191, 8191, 139263, 466943, 991231, 2097151, 4194303] [1, 9] mixed (by decide +kernel) ?_
  refine D_cut (fun f' cs' => ∃ (c18 : Bool) (g : Fr), c18 = o2 ∧ f' = updL g [(3, (.pointer (some ⟨k1, 0, some 0⟩))), (28, (.bool c18))] ∧ Ent cs' [cboR k1 113 (.agg [(.int .i64 a_f.Rel), v1_1.v].toArray), crd (RdS 3 rdInt) v1_1.v a_f.Values]) ?_ ?_
  · replace hF := hio2
    refine du ?_
    obtain ⟨r4, hx5, hF⟩ := bind_some hF
    refine Dx0 (s_IsSchema_ok _ _ _ hx5) (fun _ => ?_)
    iterate 2 refine du ?_
    rcases Bool.eq_false_or_eq_true (!r4) with hg7 | hg7
    · rw [hg7]
      try rw [hg7] at hF; dsimp only [cond_true, cond_false] at hF
      iterate 20 refine du ?_
      cases hF
      exact ⟨_, _, rfl, eqA, entA⟩
    rw [hg7]
    try rw [hg7] at hF; dsimp only [cond_true, cond_false] at hF
    iterate 5 refine du ?_
    obtain ⟨r8, hx9, hF⟩ := bind_some hF
    refine Dx0 (s_l1In_ok _ _ _ _ hx9) (fun _ => ?_)
    iterate 3 refine du ?_
    rcases Bool.eq_false_or_eq_true (!r8) with hg11 | hg11
    · rw [hg11]
      try rw [hg11] at hF; dsimp only [cond_true, cond_false] at hF
      iterate 11 refine du ?_
      cases hF
      exact ⟨_, _, rfl, eqA, entA⟩
    rw [hg11]
    try rw [hg11] at hF; dsimp only [cond_true, cond_false] at hF
    iterate 6 refine du ?_
    obtain ⟨x12, hx13, hF⟩ := bind_some hF
    obtain ⟨hp14, hx15⟩ := ix_some hx13
    refine Di hx15 (fun k16 j17 => ?_)
    refine Dl ls3_0 ?_
    iterate 3 refine du ?_
    cases hF
    exact ⟨_, _, rfl, eqA, entA⟩
  rintro _ _ ⟨c18, g39, rfl, rfl, hE⟩
  replace hF := hO3
  clear hO3
  try dsimp only at hF
  refine K_ent hE ?_
  refine Cc (fun hb38 => ?_) (fun hb38 => ?_)
  · rw [if_pos hb38] at hF
    iterate 4 refine au ?_
    cases hF
    exact Er ()
  rw [if_neg (nt hb38)] at hF
  iterate 5 refine au ?_
  refine CW_block (CW_loop (m := a_f.Values.length) (fun m20 f' cs' => ∃ (g : Fr) (k22 : Nat) (rest23 : List Int), m20 = rest23.length ∧ f' = updL g [(3, (.pointer (some ⟨k1, 0, some 0⟩))), (5, (.int .i64 (k22 : Int)))] ∧ List.drop k22 a_f.Values = rest23 ∧ Ent cs' [cboR k1 113 (.agg [(.int .i64 a_f.Rel), v1_1.v].toArray), crd (RdS 3 rdInt) v1_1.v a_f.Values] ∧ s_IsFact_L1 rest23 k22 = some R) ⟨_, 0, _, rfl, eqA, rfl, entA, hF⟩ ?_)
  clear hF
  rintro m20 _ _ ⟨g21, k22, rest23, rfl, rfl, hd25, hE, hF⟩
  refine K_ent hE ?_
  clear hE
  refine K_pure (c := crd (RdS 3 rdInt) v1_1.v a_f.Values) (.t .h) crd_bound (fun hbd30 => ?_)
  rcases rest23 with _ | ⟨x24, rest23⟩
  · have hk26 := List.drop_eq_nil_iff.1 hd25
    rw [s_IsFact_L1] at hF
    iterate 8 refine au ?_
    refine CdF ?_
    iterate 8 refine au ?_
    cases hF
    exact Er ()
  obtain ⟨hk26, hx27, hd28⟩ := drop_cons hd25
  rw [s_IsFact_L1] at hF
  iterate 8 refine au ?_
  refine CdT ?_
  iterate 6 refine au ?_
  refine Ai hx27 (fun k31 j32 => ?_)
  refine Al ls3_0 ?_
  obtain ⟨r33, hx34, hF⟩ := bind_some hF
  refine Cx0 (s_l1In_ok _ _ _ _ hx34) (fun _ => ?_)
  iterate 2 refine au ?_
  refine Cc (fun hb37 => ?_) (fun hb37 => ?_)
  · rw [if_pos hb37] at hF
    iterate 4 refine au ?_
    cases hF
    exact Er ()
  rw [if_neg (nt hb37)] at hF
  iterate 6 refine au ?_
  rw [wk k22]
  exact ⟨_, Nat.lt_succ_self _, _, k22 + 1, rest23, rfl, eqA, hd28, entA, hF⟩

/-! spec.CompareFacts -/
def s_CompareFacts_L1 (a_a : Fact) (a_b : Fact) : Nat → Int → Option (Int)
  | 0, _ => none
  | m5 + 1, c4 => if ((decide ((c4 : Int) < (a_a.Values.length : Int))) && (decide ((c4 : Int) < (a_b.Values.length : Int)))) then (
      (ix a_a.Values c4).bind fun x15 =>
      (ix a_b.Values c4).bind fun x21 =>
      if (decide ((x15 : Int) < x21)) then (
        some (-1))
      else (
        (ix a_a.Values c4).bind fun x27 =>
        (ix a_b.Values c4).bind fun x33 =>
        if (decide ((x33 : Int) < x27)) then (
          some 1)
        else (
          s_CompareFacts_L1 a_a a_b m5 (IntKind.i64.wrap (c4 + 1)))))
    else (
      if (decide (((a_a.Values.length : Int) : Int) < (a_b.Values.length : Int))) then (
        some (-1))
      else (
        if (decide (((a_b.Values.length : Int) : Int) < (a_a.Values.length : Int))) then (
          some 1)
        else (
          some 0)))
def s_CompareFacts (a_a : Fact) (a_b : Fact) : Option (Int) :=
  if ((a_a.Rel : Int) != a_b.Rel) then (
    if (decide ((a_a.Rel : Int) < a_b.Rel)) then (
      some (-1))
    else (
      some 1))
  else (
    s_CompareFacts_L1 a_a a_b (((a_a.Values.length : Int) - 0).toNat + 2) 0)
theorem s_CompareFacts_ok (a_a : Fact) (v0_1 : Sv) (a_b : Fact) (v1_1 : Sv) (R : Int) (hF : s_CompareFacts a_a a_b = some R) :
    Fw.Spec Tryz.prog 169 [(.agg [(.int .i64 a_a.Rel), v0_1.v].toArray), (.agg [(.int .i64 a_b.Rel), v1_1.v].toArray)] [crd (RdS 3 rdInt) v0_1.v a_a.Values, crd (RdS 3 rdInt) v1_1.v a_b.Values] (fun _ : Unit => (.int .i64 R)) (fun _ => []) := by
  refine Spec_enter (n := 66) Tryz.func169 rfl rfl (rs := [.tmp 4]) rfl rfl rfl ?_
  intro H0 F0
  unfold s_CompareFacts at hF
  refine au ?_
  refine AbR (fun k1 => ?_)
  refine AbR (fun k2 => ?_)
  iterate 10 refine au ?_
  refine Cc (fun hb44 => ?_) (fun hb44 => ?_)
  · rw [if_pos hb44] at hF
    iterate 8 refine au ?_
    refine Cc (fun hb3 => ?_) (fun hb3 => ?_)
    · rw [if_pos hb3] at hF
      iterate 4 refine au ?_
      cases hF
      exact Er ()
    rw [if_neg (nt hb3)] at hF
    iterate 5 refine au ?_
    cases hF
    exact Er ()
  rw [if_neg (nt hb44)] at hF
  iterate 5 refine au ?_
  refine CW_block (CW_loop (m := (((a_a.Values.length : Int) - 0).toNat + 2)) (fun m5 f' cs' => ∃ (g : Fr) (c4 : Int), f' = updL g [(2, (.pointer (some ⟨k1, 0, some 0⟩))), (3, (.pointer (some ⟨k2, 0, some 0⟩))), (5, (.int .i64 c4))] ∧ Ent cs' [cboR k1 113 (.agg [(.int .i64 a_a.Rel), v0_1.v].toArray), crd (RdS 3 rdInt) v0_1.v a_a.Values, cboR k2 113 (.agg [(.int .i64 a_b.Rel), v1_1.v].toArray), crd (RdS 3 rdInt) v1_1.v a_b.Values] ∧ s_CompareFacts_L1 a_a a_b m5 c4 = some R) ⟨_, _, eqA, entA, hF⟩ ?_)
  clear hF
  rintro m5 _ _ ⟨g6, c4, rfl, hE, hF⟩
  refine K_ent hE ?_
  clear hE
  rcases m5 with _ | m5
  · rw [s_CompareFacts_L1] at hF
    exact absurd hF (by simp)
  rw [s_CompareFacts_L1] at hF
  iterate 2 refine au ?_
  refine C_cut (fun f' cs' => ∃ (g : Fr), f' = updL g [(2, (.pointer (some ⟨k1, 0, some 0⟩))), (3, (.pointer (some ⟨k2, 0, some 0⟩))), (5, (.int .i64 c4)), (27, (.bool ((decide ((c4 : Int) < (a_a.Values.length : Int))) && (decide ((c4 : Int) < (a_b.Values.length : Int))))))] ∧ Ent cs' [cboR k1 113 (.agg [(.int .i64 a_a.Rel), v0_1.v].toArray), crd (RdS 3 rdInt) v0_1.v a_a.Values, cboR k2 113 (.agg [(.int .i64 a_b.Rel), v1_1.v].toArray), crd (RdS 3 rdInt) v1_1.v a_b.Values]) ?_ ?_
  · iterate 6 refine au ?_
    rcases Bool.eq_false_or_eq_true (decide ((c4 : Int) < (a_a.Values.length : Int))) with hg13 | hg13
    · rw [hg13]
      try rw [hg13] at hF; dsimp only [cond_true, cond_false] at hF
      iterate 12 refine au ?_
      exact ⟨_, eqA, entA⟩
    rw [hg13]
    try rw [hg13] at hF; dsimp only [cond_true, cond_false] at hF
    iterate 7 refine au ?_
    exact ⟨_, eqA, entA⟩
  rintro _ _ ⟨g14, rfl, hE⟩
  refine K_ent hE ?_
  refine Cc (fun hb43 => ?_) (fun hb43 => ?_)
  · rw [if_pos hb43] at hF
    iterate 3 refine au ?_
    refine K_draw [0, 1, 2, 3, 4, 5, 6, 7, 8, 9, 10] [0, 1, 0, 7, 15, 0, 32, 0, 224, 480, 1023] [] mixed (by decide +kernel) ?_
    iterate 3 refine du ?_
    obtain ⟨x15, hx16, hF⟩ := bind_some hF
    obtain ⟨hp17, hx18⟩ := ix_some hx16
    refine Di hx18 (fun k19 j20 => ?_)
    refine Dl ls3_0 ?_
    iterate 3 refine du ?_
    obtain ⟨x21, hx22, hF⟩ := bind_some hF
    obtain ⟨hp23, hx24⟩ := ix_some hx22
    refine Di hx24 (fun k25 j26 => ?_)
    refine Dl ls3_0 ?_
    iterate 2 refine du ?_
    refine Cc (fun hb40 => ?_) (fun hb40 => ?_)
    · rw [if_pos hb40] at hF
      iterate 4 refine au ?_
      cases hF
      exact Er ()
    rw [if_neg (nt hb40)] at hF
    refine au ?_
    refine K_draw [0, 1, 2, 3, 4, 5, 6, 7, 8, 9, 10] [0, 1, 0, 7, 15, 0, 32, 0, 224, 480, 1023] [] mixed (by decide +kernel) ?_
    iterate 3 refine du ?_
    obtain ⟨x27, hx28, hF⟩ := bind_some hF
    obtain ⟨hp29, hx30⟩ := ix_some hx28
    refine Di hx30 (fun k31 j32 => ?_)
    refine Dl ls3_0 ?_
    iterate 3 refine du ?_
    obtain ⟨x33, hx34, hF⟩ := bind_some hF
    obtain ⟨hp35, hx36⟩ := ix_some hx34
    refine Di hx36 (fun k37 j38 => ?_)
    refine Dl ls3_0 ?_
    iterate 2 refine du ?_
    refine Cc (fun hb39 => ?_) (fun hb39 => ?_)
    · rw [if_pos hb39] at hF
      iterate 4 refine au ?_
      cases hF
      exact Er ()
    rw [if_neg (nt hb39)] at hF
    iterate 6 refine au ?_
    exact ⟨m5, Nat.lt_succ_self _, _, _, eqA, entA, hF⟩
  rw [if_neg (nt hb43)] at hF
  iterate 14 refine au ?_
  refine Cc (fun hb42 => ?_) (fun hb42 => ?_)
  · rw [if_pos hb42] at hF
    iterate 4 refine au ?_
    cases hF
    exact Er ()
  rw [if_neg (nt hb42)] at hF
  iterate 11 refine au ?_
  refine Cc (fun hb41 => ?_) (fun hb41 => ?_)
  · rw [if_pos hb41] at hF
    iterate 4 refine au ?_
    cases hF
    exact Er ()
  rw [if_neg (nt hb41)] at hF
  iterate 5 refine au ?_
  cases hF
  exact Er ()

/-! spec.AreFacts -/
def s_AreFacts_L1 (a_s : List Int) (a_l : List Fact) : List Fact → Nat → Option (Bool)
  | [], k4 => ((s_IsSchema a_s).bind fun r15 =>
      bif r15 then (some (decide (((a_l.length : Int) : Int) ≤ 24)))
      else (some false)).bind fun o13 =>
    match o13 with
    | c19 => some c19
  | x6 :: rest5, k4 => ((s_IsFact a_s x6).bind fun r26 =>
      bif (!r26) then (some true)
      else (bif (decide ((0 : Int) < (k4 : Int))) then ((ix a_l (IntKind.i64.wrap ((k4 : Int) - 1))).bind fun x31 =>
          (s_CompareFacts x31 x6).bind fun r41 =>
          some (decide ((0 : Int) ≤ r41)))
        else (some false))).bind fun o21 =>
    match o21 with
    | c44 => if c44 then (
        some false)
      else (
        s_AreFacts_L1 a_s a_l rest5 (k4 + 1))
def s_AreFacts (a_s : List Int) (a_l : List Fact) : Option (Bool) :=
  s_AreFacts_L1 a_s a_l a_l 0
theorem s_AreFacts_ok (a_s : List Int) (v0_0 : Sv) (a_l : List Fact) (v1_0 : Sv) (R : Bool) (hF : s_AreFacts a_s a_l = some R) :
    Fw.Spec Tryz.prog 142 [v0_0.v, v1_0.v] [crd (RdS 3 rdInt) v0_0.v a_s, crd (RdS 113 rd113) v1_0.v a_l] (fun _ : Unit => (.bool R)) (fun _ => []) := by
  refine Spec_enter (n := 43) Tryz.func142 rfl rfl (rs := [.tmp 4]) rfl rfl rfl ?_
  intro H0 F0
  unfold s_AreFacts at hF
  iterate 7 refine au ?_
  refine CW_block (CW_loop (m := a_l.length) (fun m2 f' cs' => ∃ (g : Fr) (k4 : Nat) (rest5 : List Fact), m2 = rest5.length ∧ f' = updL g [(0, v0_0.v), (1, v1_0.v), (5, (.int .i64 (k4 : Int)))] ∧ List.drop k4 a_l = rest5 ∧ Ent cs' [crd (RdS 3 rdInt) v0_0.v a_s, crd (RdS 113 rd113) v1_0.v a_l] ∧ s_AreFacts_L1 a_s a_l rest5 k4 = some R) ⟨_, 0, _, rfl, eqA, rfl, entA, hF⟩ ?_)
  clear hF
  rintro m2 _ _ ⟨g3, k4, rest5, rfl, rfl, hd7, hE, hF⟩
  refine K_ent hE ?_
  clear hE
  refine K_pure (c := crd (RdS 113 rd113) v1_0.v a_l) (.t .h) crd_bound (fun hbd12 => ?_)
  rcases rest5 with _ | ⟨x6, rest5⟩
  · have hk8 := List.drop_eq_nil_iff.1 hd7
    rw [s_AreFacts_L1] at hF
    iterate 7 refine au ?_
    refine CdF ?_
    iterate 4 refine au ?_
    obtain ⟨o13, hio13, hO14⟩ := bind_some hF
    refine au ?_
    refine C_cut (fun f' cs' => ∃ (c19 : Bool) (g : Fr), c19 = o13 ∧ f' = updL g [(4, (.bool c19))] ∧ Ent cs' []) ?_ ?_
    · replace hF := hio13
      refine au ?_
      obtain ⟨r15, hx16, hF⟩ := bind_some hF
      refine Cx0 (s_IsSchema_ok _ _ _ hx16) (fun _ => ?_)
      refine au ?_
      rcases Bool.eq_false_or_eq_true r15 with hg18 | hg18
      · rw [hg18]
        try rw [hg18] at hF; dsimp only [cond_true, cond_false] at hF
        iterate 9 refine au ?_
        cases hF
        exact ⟨_, _, rfl, eqA, entA⟩
      rw [hg18]
      try rw [hg18] at hF; dsimp only [cond_true, cond_false] at hF
      iterate 6 refine au ?_
      cases hF
      exact ⟨_, _, rfl, eqA, entA⟩
    rintro _ _ ⟨c19, g20, rfl, rfl, hE⟩
    replace hF := hO14
    clear hO14
    try dsimp only at hF
    refine K_ent hE ?_
    refine au ?_
    cases hF
    exact Er ()
  obtain ⟨hk8, hx9, hd10⟩ := drop_cons hd7
  rw [s_AreFacts_L1] at hF
  iterate 7 refine au ?_
  refine CdT ?_
  iterate 2 refine au ?_
  obtain ⟨o21, hio21, hO22⟩ := bind_some hF
  refine K_draw [0, 1, 2, 3, 4, 5, 6, 7, 8, 9, 10, 11, 12, 13, 14, 15, 16, 17, 18, 19, 20, 21, 22, 23] [0, 0, 0, 6, 14, 31, 63, 127, 255, 511, 1023, 2047, 2047, 6143, 16383, 32767, 2047, 2047, 198655, 460799, 1048575, 2097151, 4194303, 8388607] [5, 20] mixed (by decide +kernel) ?_
  refine D_cut (fun f' cs' => ∃ (c44 : Bool) (g : Fr), c44 = o21 ∧ f' = updL g [(0, v0_0.v), (1, v1_0.v), (5, (.int .i64 (k4 : Int))), (35, (.bool c44))] ∧ Ent cs' [crd (RdS 3 rdInt) v0_0.v a_s, crd (RdS 113 rd113) v1_0.v a_l]) ?_ ?_
  · replace hF := hio21
    iterate 3 refine du ?_
    refine Di hx9 (fun k23 j24 => ?_)
    refine DlA1 (ul113_0_113 x6) la113_0_113 (fun p25 => ?_)
    obtain ⟨r26, hx27, hF⟩ := bind_some hF
    refine Dx0 (s_IsFact_ok _ _ _ _ _ hx27) (fun _ => ?_)
    iterate 2 refine du ?_
    rcases Bool.eq_false_or_eq_true (!r26) with hg29 | hg29
    · rw [hg29]
      try rw [hg29] at hF; dsimp only [cond_true, cond_false] at hF
      iterate 17 refine du ?_
      cases hF
      exact ⟨_, _, rfl, eqA, entA⟩
    rw [hg29]
    try rw [hg29] at hF; dsimp only [cond_true, cond_false] at hF
    iterate 3 refine du ?_
    rcases Bool.eq_false_or_eq_true (decide ((0 : Int) < (k4 : Int))) with hg30 | hg30
    · rw [hg30]
      try rw [hg30] at hF; dsimp only [cond_true, cond_false] at hF
      iterate 3 refine du ?_
      obtain ⟨x31, hx32, hF⟩ := bind_some hF
      obtain ⟨hp33, hx34⟩ := ix_some hx32
      refine Di hx34 (fun k35 j36 => ?_)
      refine DlA1 (ul113_0_113 x31) la113_0_113 (fun p37 => ?_)
      iterate 2 refine du ?_
      refine Di hx9 (fun k38 j39 => ?_)
      refine DlA1 (ul113_0_113 x6) la113_0_113 (fun p40 => ?_)
      obtain ⟨r41, hx42, hF⟩ := bind_some hF
      refine Dx0 (s_CompareFacts_ok _ _ _ _ _ hx42) (fun _ => ?_)
      iterate 4 refine du ?_
      cases hF
      exact ⟨_, _, rfl, eqA, entA⟩
    rw [hg30]
    try rw [hg30] at hF; dsimp only [cond_true, cond_false] at hF
    iterate 14 refine du ?_
    cases hF
    exact ⟨_, _, rfl, eqA, entA⟩
  rintro _ _ ⟨c44, g47, rfl, rfl, hE⟩
  replace hF := hO22
  clear hO22
  try dsimp only at hF
  refine K_ent hE ?_
  refine Cc (fun hb46 => ?_) (fun hb46 => ?_)
  · rw [if_pos hb46] at hF
    iterate 4 refine au ?_
    cases hF
    exact Er ()
  rw [if_neg (nt hb46)] at hF
  iterate 6 refine au ?_
  rw [wk k4]
  exact ⟨_, Nat.lt_succ_self _, _, k4 + 1, rest5, rfl, eqA, hd10, entA, hF⟩

/-! spec.IsSource -/
def s_IsSource (a_s : List Int) (a_x : Source) : Option (Bool) :=
  ((s_AreFacts a_s a_x.Facts).bind fun r4 =>
    bif r4 then ((s_l1In a_x.Version 0 1000).bind fun r8 =>
      some r8)
    else (some false)).bind fun o2 =>
  match o2 with
  | c11 => some c11
theorem s_IsSource_ok (a_s : List Int) (v0_0 : Sv) (a_x : Source) (v1_0 : Sv) (R : Bool) (hF : s_IsSource a_s a_x = some R) :
    Fw.Spec Tryz.prog 95 [v0_0.v, (.agg [v1_0.v, (.int .i64 a_x.Version)].toArray)] [crd (RdS 3 rdInt) v0_0.v a_s, crd (RdS 113 rd113) v1_0.v a_x.Facts] (fun _ : Unit => (.bool R)) (fun _ => []) := by
  refine Spec_enter (n := 14) Tryz.func95 rfl rfl (rs := [.tmp 4]) rfl rfl rfl ?_
  intro H0 F0
  unfold s_IsSource at hF
  refine au ?_
  refine AbR (fun k1 => ?_)
  iterate 2 refine au ?_
  obtain ⟨o2, hio2, hO3⟩ := bind_some hF
  refine au ?_
  refine C_cut (fun f' cs' => ∃ (c11 : Bool) (g : Fr), c11 = o2 ∧ f' = updL g [(4, (.bool c11))] ∧ Ent cs' []) ?_ ?_
  · replace hF := hio2
    iterate 3 refine au ?_
    obtain ⟨r4, hx5, hF⟩ := bind_some hF
    refine Cx0 (s_AreFacts_ok _ _ _ _ _ hx5) (fun _ => ?_)
    refine au ?_
    rcases Bool.eq_false_or_eq_true r4 with hg7 | hg7
    · rw [hg7]
      try rw [hg7] at hF; dsimp only [cond_true, cond_false] at hF
      iterate 5 refine au ?_
      obtain ⟨r8, hx9, hF⟩ := bind_some hF
      refine Cx0 (s_l1In_ok _ _ _ _ hx9) (fun _ => ?_)
      iterate 3 refine au ?_
      cases hF
      exact ⟨_, _, rfl, eqA, entA⟩
    rw [hg7]
    try rw [hg7] at hF; dsimp only [cond_true, cond_false] at hF
    iterate 6 refine au ?_
    cases hF
    exact ⟨_, _, rfl, eqA, entA⟩
  rintro _ _ ⟨c11, g12, rfl, rfl, hE⟩
  replace hF := hO3
  clear hO3
  try dsimp only at hF
  refine K_ent hE ?_
  refine au ?_
  cases hF
  exact Er ()

/-! spec.IsAccess -/
def s_IsAccess_L1 : List Int → Nat → Option (Bool)
  | [], k23 => some true
  | x25 :: rest24, k23 => (s_l1In x25 0 9).bind fun r34 =>
    if (!r34) then (
      some false)
    else (
      s_IsAccess_L1 rest24 (k23 + 1))
def s_IsAccess (a_s : List Int) (a_l : List Method) (a_a : Access) : Option (Bool) :=
  ((s_AreMethods a_s a_l).bind fun r4 =>
    bif (!r4) then (some true)
    else ((s_l1In a_a.Method 0 (IntKind.i64.wrap ((a_l.length : Int) - 1))).bind fun r8 =>
      bif (!r8) then (some true)
      else ((ix a_l a_a.Method).bind fun x12 =>
        some (((a_a.Values.length : Int) : Int) != (x12.Inputs.length : Int))))).bind fun o2 =>
  match o2 with
  | c19 => if c19 then (
      some false)
    else (
      s_IsAccess_L1 a_a.Values 0)
theorem s_IsAccess_ok (a_s : List Int) (v0_0 : Sv) (a_l : List Method) (v1_0 : Sv) (a_a : Access) (v2_1 : Sv) (R : Bool) (hF : s_IsAccess a_s a_l a_a = some R) :
    Fw.Spec Tryz.prog 97 [v0_0.v, v1_0.v, (.agg [(.int .i64 a_a.Method), v2_1.v].toArray)] [crd (RdS 3 rdInt) v0_0.v a_s, crd (RdS 53 rd53) v1_0.v a_l, crd (RdS 3 rdInt) v2_1.v a_a.Values] (fun _ : Unit => (.bool R)) (fun _ => []) := by
  refine Spec_enter (n := 48) Tryz.func97 rfl rfl (rs := [.tmp 6]) rfl rfl rfl ?_
  intro H0 F0
  unfold s_IsAccess at hF
  refine au ?_
  refine AbR (fun k1 => ?_)
  iterate 3 refine au ?_
  obtain ⟨o2, hio2, hO3⟩ := bind_some hF
  refine K_draw [0, 1, 2, 3, 4, 5, 6, 7, 8, 9, 10, 11, 12, 13, 14, 15, 16, 17, 18, 19, 20, 21, 22, 23, 24, 25] [0, 0, 3, 7, 15, 31, 63, 31, 159, 415, 1023, 2047, 4095, 8191, 16383, 32767, 65535, 16383, 16383, 278527, 933887, 1982463, 4079615, 8273919, 16777215, 33554431] [2, 10] mixed (by decide +kernel) ?_
  refine D_cut (fun f' cs' => ∃ (c19 : Bool) (g : Fr), c19 = o2 ∧ f' = updL g [(5, (.pointer (some ⟨k1, 0, some 0⟩))), (33, (.bool c19))] ∧ Ent cs' [cboR k1 131 (.agg [(.int .i64 a_a.Method), v2_1.v].toArray), crd (RdS 3 rdInt) v2_1.v a_a.Values]) ?_ ?_
  · replace hF := hio2
    iterate 2 refine du ?_
    obtain ⟨r4, hx5, hF⟩ := bind_some hF
    refine Dx0 (s_AreMethods_ok _ _ _ _ _ hx5) (fun _ => ?_)
    iterate 2 refine du ?_
    rcases Bool.eq_false_or_eq_true (!r4) with hg7 | hg7
    · rw [hg7]
      try rw [hg7] at hF; dsimp only [cond_true, cond_false] at hF
      iterate 22 refine du ?_
      cases hF
      exact ⟨_, _, rfl, eqA, entA⟩
    rw [hg7]
    try rw [hg7] at hF; dsimp only [cond_true, cond_false] at hF
    iterate 5 refine du ?_
    obtain ⟨r8, hx9, hF⟩ := bind_some hF
    refine Dx0 (s_l1In_ok _ _ _ _ hx9) (fun _ => ?_)
    iterate 3 refine du ?_
    rcases Bool.eq_false_or_eq_true (!r8) with hg11 | hg11
    · rw [hg11]
      try rw [hg11] at hF; dsimp only [cond_true, cond_false] at hF
      iterate 13 refine du ?_
      cases hF
      exact ⟨_, _, rfl, eqA, entA⟩
    rw [hg11]
    try rw [hg11] at hF; dsimp only [cond_true, cond_false] at hF
    iterate 6 refine du ?_
    obtain ⟨x12, hx13, hF⟩ := bind_some hF
    obtain ⟨hp14, hx15⟩ := ix_some hx13
    refine Di hx15 (fun k16 j17 => ?_)
    refine du ?_
    refine D_ldV (R' := (RdS 3 rdInt)) ag22.h rfl (.on 21 rfl rfl rfl) (.tmp rfl rfl) rfl .h lv53_1 (fun w18 => ?_)
    iterate 4 refine du ?_
    cases hF
    exact ⟨_, _, rfl, eqA, entA⟩
  rintro _ _ ⟨c19, g40, rfl, rfl, hE⟩
  replace hF := hO3
  clear hO3
  try dsimp only at hF
  refine K_ent hE ?_
  refine Cc (fun hb39 => ?_) (fun hb39 => ?_)
  · rw [if_pos hb39] at hF
    iterate 4 refine au ?_
    cases hF
    exact Er ()
  rw [if_neg (nt hb39)] at hF
  iterate 5 refine au ?_
  refine CW_block (CW_loop (m := a_a.Values.length) (fun m21 f' cs' => ∃ (g : Fr) (k23 : Nat) (rest24 : List Int), m21 = rest24.length ∧ f' = updL g [(5, (.pointer (some ⟨k1, 0, some 0⟩))), (7, (.int .i64 (k23 : Int)))] ∧ List.drop k23 a_a.Values = rest24 ∧ Ent cs' [cboR k1 131 (.agg [(.int .i64 a_a.Method), v2_1.v].toArray), crd (RdS 3 rdInt) v2_1.v a_a.Values] ∧ s_IsAccess_L1 rest24 k23 = some R) ⟨_, 0, _, rfl, eqA, rfl, entA, hF⟩ ?_)
  clear hF
  rintro m21 _ _ ⟨g22, k23, rest24, rfl, rfl, hd26, hE, hF⟩
  refine K_ent hE ?_
  clear hE
  refine K_pure (c := crd (RdS 3 rdInt) v2_1.v a_a.Values) (.t .h) crd_bound (fun hbd31 => ?_)
  rcases rest24 with _ | ⟨x25, rest24⟩
  · have hk27 := List.drop_eq_nil_iff.1 hd26
    rw [s_IsAccess_L1] at hF
    iterate 8 refine au ?_
    refine CdF ?_
    iterate 8 refine au ?_
    cases hF
    exact Er ()
  obtain ⟨hk27, hx28, hd29⟩ := drop_cons hd26
  rw [s_IsAccess_L1] at hF
  iterate 8 refine au ?_
  refine CdT ?_
  iterate 6 refine au ?_
  refine Ai hx28 (fun k32 j33 => ?_)
  refine Al ls3_0 ?_
  obtain ⟨r34, hx35, hF⟩ := bind_some hF
  refine Cx0 (s_l1In_ok _ _ _ _ hx35) (fun _ => ?_)
  iterate 2 refine au ?_
  refine Cc (fun hb38 => ?_) (fun hb38 => ?_)
  · rw [if_pos hb38] at hF
    iterate 4 refine au ?_
    cases hF
    exact Er ()
  rw [if_neg (nt hb38)] at hF
  iterate 6 refine au ?_
  rw [wk k23]
  exact ⟨_, Nat.lt_succ_self _, _, k23 + 1, rest24, rfl, eqA, hd29, entA, hF⟩

/-! spec.l4Less -/
def s_l4Less_L1 (a_a : List Int) (a_b : List Int) : Nat → Int → Option (Bool)
  | 0, _ => none
  | m2 + 1, c1 => if ((decide ((c1 : Int) < (a_a.length : Int))) && (decide ((c1 : Int) < (a_b.length : Int)))) then (
      (ix a_a c1).bind fun x12 =>
      (ix a_b c1).bind fun x18 =>
      if ((x12 : Int) != x18) then (
        (ix a_a c1).bind fun x24 =>
        (ix a_b c1).bind fun x30 =>
        some (decide ((x24 : Int) < x30)))
      else (
        s_l4Less_L1 a_a a_b m2 (IntKind.i64.wrap (c1 + 1))))
    else (
      some (decide (((a_a.length : Int) : Int) < (a_b.length : Int))))
def s_l4Less (a_a : List Int) (a_b : List Int) : Option (Bool) :=
  s_l4Less_L1 a_a a_b (((a_a.length : Int) - 0).toNat + 2) 0
theorem s_l4Less_ok (a_a : List Int) (v0_0 : Sv) (a_b : List Int) (v1_0 : Sv) (R : Bool) (hF : s_l4Less a_a a_b = some R) :
    Fw.Spec Tryz.prog 179 [v0_0.v, v1_0.v] [crd (RdS 3 rdInt) v0_0.v a_a, crd (RdS 3 rdInt) v1_0.v a_b] (fun _ : Unit => (.bool R)) (fun _ => []) := by
  refine Spec_enter (n := 41) Tryz.func179 rfl rfl (rs := [.tmp 4]) rfl rfl rfl ?_
  intro H0 F0
  unfold s_l4Less at hF
  iterate 7 refine au ?_
  refine CW_block (CW_loop (m := (((a_a.length : Int) - 0).toNat + 2)) (fun m2 f' cs' => ∃ (g : Fr) (c1 : Int), f' = updL g [(0, v0_0.v), (1, v1_0.v), (5, (.int .i64 c1))] ∧ Ent cs' [crd (RdS 3 rdInt) v0_0.v a_a, crd (RdS 3 rdInt) v1_0.v a_b] ∧ s_l4Less_L1 a_a a_b m2 c1 = some R) ⟨_, _, eqA, entA, hF⟩ ?_)
  clear hF
  rintro m2 _ _ ⟨g3, c1, rfl, hE, hF⟩
  refine K_ent hE ?_
  clear hE
  rcases m2 with _ | m2
  · rw [s_l4Less_L1] at hF
    exact absurd hF (by simp)
  rw [s_l4Less_L1] at hF
  iterate 2 refine au ?_
  refine C_cut (fun f' cs' => ∃ (g : Fr), f' = updL g [(0, v0_0.v), (1, v1_0.v), (5, (.int .i64 c1)), (15, (.bool ((decide ((c1 : Int) < (a_a.length : Int))) && (decide ((c1 : Int) < (a_b.length : Int))))))] ∧ Ent cs' [crd (RdS 3 rdInt) v0_0.v a_a, crd (RdS 3 rdInt) v1_0.v a_b]) ?_ ?_
  · iterate 5 refine au ?_
    rcases Bool.eq_false_or_eq_true (decide ((c1 : Int) < (a_a.length : Int))) with hg10 | hg10
    · rw [hg10]
      try rw [hg10] at hF; dsimp only [cond_true, cond_false] at hF
      iterate 10 refine au ?_
      exact ⟨_, eqA, entA⟩
    rw [hg10]
    try rw [hg10] at hF; dsimp only [cond_true, cond_false] at hF
    iterate 6 refine au ?_
    exact ⟨_, eqA, entA⟩
  rintro _ _ ⟨g11, rfl, hE⟩
  refine K_ent hE ?_
  refine Cc (fun hb37 => ?_) (fun hb37 => ?_)
  · rw [if_pos hb37] at hF
    iterate 2 refine au ?_
    refine K_draw [0, 1, 2, 3, 4, 5, 6, 7, 8] [0, 0, 3, 7, 0, 0, 48, 112, 255] [] mixed (by decide +kernel) ?_
    iterate 2 refine du ?_
    obtain ⟨x12, hx13, hF⟩ := bind_some hF
    obtain ⟨hp14, hx15⟩ := ix_some hx13
    refine Di hx15 (fun k16 j17 => ?_)
    refine Dl ls3_0 ?_
    iterate 2 refine du ?_
    obtain ⟨x18, hx19, hF⟩ := bind_some hF
    obtain ⟨hp20, hx21⟩ := ix_some hx19
    refine Di hx21 (fun k22 j23 => ?_)
    refine Dl ls3_0 ?_
    iterate 2 refine du ?_
    refine Cc (fun hb36 => ?_) (fun hb36 => ?_)
    · rw [if_pos hb36] at hF
      refine K_draw [0, 1, 2, 3, 4, 5, 6, 7, 8, 9] [0, 0, 3, 7, 0, 0, 48, 112, 255, 511] [] mixed (by decide +kernel) ?_
      iterate 2 refine du ?_
      obtain ⟨x24, hx25, hF⟩ := bind_some hF
      obtain ⟨hp26, hx27⟩ := ix_some hx25
      refine Di hx27 (fun k28 j29 => ?_)
      refine Dl ls3_0 ?_
      iterate 2 refine du ?_
      obtain ⟨x30, hx31, hF⟩ := bind_some hF
      obtain ⟨hp32, hx33⟩ := ix_some hx31
      refine Di hx33 (fun k34 j35 => ?_)
      refine Dl ls3_0 ?_
      iterate 3 refine du ?_
      refine au ?_
      cases hF
      exact Er ()
    rw [if_neg (nt hb36)] at hF
    iterate 6 refine au ?_
    exact ⟨m2, Nat.lt_succ_self _, _, _, eqA, entA, hF⟩
  rw [if_neg (nt hb37)] at hF
  iterate 13 refine au ?_
  cases hF
  exact Er ()

/-! spec.l22Less -/
def s_l22Less (a_a : Access) (a_b : Access) : Option (Bool) :=
  if ((a_a.Method : Int) != a_b.Method) then (
    some (decide ((a_a.Method : Int) < a_b.Method)))
  else (
    (s_l4Less a_a.Values a_b.Values).bind fun r3 =>
    some r3)
theorem s_l22Less_ok (a_a : Access) (v0_1 : Sv) (a_b : Access) (v1_1 : Sv) (R : Bool) (hF : s_l22Less a_a a_b = some R) :
    Fw.Spec Tryz.prog 143 [(.agg [(.int .i64 a_a.Method), v0_1.v].toArray), (.agg [(.int .i64 a_b.Method), v1_1.v].toArray)] [crd (RdS 3 rdInt) v0_1.v a_a.Values, crd (RdS 3 rdInt) v1_1.v a_b.Values] (fun _ : Unit => (.bool R)) (fun _ => []) := by
  refine Spec_enter (n := 20) Tryz.func143 rfl rfl (rs := [.tmp 4]) rfl rfl rfl ?_
  intro H0 F0
  unfold s_l22Less at hF
  refine au ?_
  refine AbR (fun k1 => ?_)
  refine AbR (fun k2 => ?_)
  iterate 10 refine au ?_
  refine Cc (fun hb6 => ?_) (fun hb6 => ?_)
  · rw [if_pos hb6] at hF
    iterate 9 refine au ?_
    cases hF
    exact Er ()
  rw [if_neg (nt hb6)] at hF
  iterate 6 refine au ?_
  obtain ⟨r3, hx4, hF⟩ := bind_some hF
  refine Cx0 (s_l4Less_ok _ _ _ _ _ hx4) (fun _ => ?_)
  iterate 3 refine au ?_
  cases hF
  exact Er ()

/-! spec.l5Fits -/
def s_l5Fits_L1 (a_values : List Int) (a_f : Fact) : List Int → Nat → Option (Bool)
  | [], k6 => some true
  | x8 :: rest7, k6 => (ix a_f.Values x8).bind fun x17 =>
    (ix a_values (k6 : Int)).bind fun x23 =>
    if ((x17 : Int) != x23) then (
      some false)
    else (
      s_l5Fits_L1 a_values a_f rest7 (k6 + 1))
def s_l5Fits (a_m : Method) (a_values : List Int) (a_f : Fact) : Option (Bool) :=
  if ((a_f.Rel : Int) != a_m.Rel) then (
    some false)
  else (
    s_l5Fits_L1 a_values a_f a_m.Inputs 0)
theorem s_l5Fits_ok (a_m : Method) (v0_1 : Sv) (a_values : List Int) (v1_0 : Sv) (a_f : Fact) (v2_1 : Sv) (R : Bool) (hF : s_l5Fits a_m a_values a_f = some R) :
    Fw.Spec Tryz.prog 144 [(.agg [(.int .i64 a_m.Rel), v0_1.v, (.int .i64 a_m.Limit), (.int .i64 a_m.Cost), (.int .i64 a_m.Quota)].toArray), v1_0.v, (.agg [(.int .i64 a_f.Rel), v2_1.v].toArray)] [crd (RdS 3 rdInt) v0_1.v a_m.Inputs, crd (RdS 3 rdInt) v1_0.v a_values, crd (RdS 3 rdInt) v2_1.v a_f.Values] (fun _ : Unit => (.bool R)) (fun _ => []) := by
  refine Spec_enter (n := 34) Tryz.func144 rfl rfl (rs := [.tmp 6]) rfl rfl rfl ?_
  intro H0 F0
  unfold s_l5Fits at hF
  refine au ?_
  refine AbR (fun k1 => ?_)
  refine AbR (fun k2 => ?_)
  iterate 10 refine au ?_
  refine Cc (fun hb31 => ?_) (fun hb31 => ?_)
  · rw [if_pos hb31] at hF
    iterate 4 refine au ?_
    cases hF
    exact Er ()
  rw [if_neg (nt hb31)] at hF
  iterate 5 refine au ?_
  refine CW_block (CW_loop (m := a_m.Inputs.length) (fun m4 f' cs' => ∃ (g : Fr) (k6 : Nat) (rest7 : List Int), m4 = rest7.length ∧ f' = updL g [(1, v1_0.v), (3, (.pointer (some ⟨k1, 0, some 0⟩))), (5, (.pointer (some ⟨k2, 0, some 0⟩))), (7, (.int .i64 (k6 : Int)))] ∧ List.drop k6 a_m.Inputs = rest7 ∧ Ent cs' [crd (RdS 3 rdInt) v1_0.v a_values, cboR k1 53 (.agg [(.int .i64 a_m.Rel), v0_1.v, (.int .i64 a_m.Limit), (.int .i64 a_m.Cost), (.int .i64 a_m.Quota)].toArray), crd (RdS 3 rdInt) v0_1.v a_m.Inputs, cboR k2 113 (.agg [(.int .i64 a_f.Rel), v2_1.v].toArray), crd (RdS 3 rdInt) v2_1.v a_f.Values] ∧ s_l5Fits_L1 a_values a_f rest7 k6 = some R) ⟨_, 0, _, rfl, eqA, rfl, entA, hF⟩ ?_)
  clear hF
  rintro m4 _ _ ⟨g5, k6, rest7, rfl, rfl, hd9, hE, hF⟩
  refine K_ent hE ?_
  clear hE
  refine K_pure (c := crd (RdS 3 rdInt) v0_1.v a_m.Inputs) (.t (.t .h)) crd_bound (fun hbd14 => ?_)
  rcases rest7 with _ | ⟨x8, rest7⟩
  · have hk10 := List.drop_eq_nil_iff.1 hd9
    rw [s_l5Fits_L1] at hF
    iterate 8 refine au ?_
    refine CdF ?_
    iterate 8 refine au ?_
    cases hF
    exact Er ()
  obtain ⟨hk10, hx11, hd12⟩ := drop_cons hd9
  rw [s_l5Fits_L1] at hF
  iterate 8 refine au ?_
  refine CdT ?_
  iterate 2 refine au ?_
  refine K_draw [0, 1, 2, 3, 4, 5, 6, 7, 8, 9, 10, 11, 12, 13] [0, 1, 0, 4, 0, 28, 60, 127, 255, 0, 0, 1536, 3584, 8191] [] mixed (by decide +kernel) ?_
  iterate 5 refine du ?_
  refine Di hx11 (fun k15 j16 => ?_)
  refine Dl ls3_0 ?_
  obtain ⟨x17, hx18, hF⟩ := bind_some hF
  obtain ⟨hp19, hx20⟩ := ix_some hx18
  refine Di hx20 (fun k21 j22 => ?_)
  refine Dl ls3_0 ?_
  iterate 2 refine du ?_
  obtain ⟨x23, hx24, hF⟩ := bind_some hF
  obtain ⟨hp25, hx26⟩ := ix_some hx24
  refine Di hx26 (fun k27 j28 => ?_)
  refine Dl ls3_0 ?_
  iterate 2 refine du ?_
  refine Cc (fun hb30 => ?_) (fun hb30 => ?_)
  · rw [if_pos hb30] at hF
    iterate 4 refine au ?_
    cases hF
    exact Er ()
  rw [if_neg (nt hb30)] at hF
  iterate 6 refine au ?_
  rw [wk k6]
  exact ⟨_, Nat.lt_succ_self _, _, k6 + 1, rest7, rfl, eqA, hd12, entA, hF⟩

/-! spec.IsCache -/
def s_IsCache_L2 (a_l : List Method) (x18 : Stored) : List Fact → Nat → Option (Sum (Bool) (Unit))
  | [], k60 => some (.inr ())
  | x62 :: rest61, k60 => (ix a_l x18.Access.Method).bind fun x69 =>
    (s_l5Fits x69 x18.Access.Values x62).bind fun r79 =>
    if (!r79) then (
      some (.inl false))
    else (
      s_IsCache_L2 a_l x18 rest61 (k60 + 1))
def s_IsCache_L1 (a_s : List Int) (a_l : List Method) (a_c : Cache) : List Stored → Nat → Option (Bool)
  | [], k16 => some true
  | x18 :: rest17, k16 => (((s_IsAccess a_s a_l x18.Access).bind fun r33 =>
        bif (!r33) then (some true)
        else ((s_AreFacts a_s x18.Facts).bind fun r37 =>
          bif (!r37) then (some true)
          else ((s_l1In x18.At 0 10000).bind fun r41 =>
            bif (!r41) then (some true)
            else (bif (decide ((0 : Int) < (k16 : Int))) then ((ix a_c.Entries (IntKind.i64.wrap ((k16 : Int) - 1))).bind fun x46 =>
                (s_l22Less x46.Access x18.Access).bind fun r53 =>
                some (!r53))
              else (some false))))).bind fun o31 =>
      match o31 with
      | c56 => if c56 then (
          some (.inl false))
        else (
          s_IsCache_L2 a_l x18 x18.Facts 0)).bind fun o25 =>
    match o25 with
    | .inl r => some r
    | .inr _ => s_IsCache_L1 a_s a_l a_c rest17 (k16 + 1)
def s_IsCache (a_s : List Int) (a_l : List Method) (a_c : Cache) : Option (Bool) :=
  ((s_AreMethods a_s a_l).bind fun r4 =>
    bif (!r4) then (some true)
    else ((s_l1In a_c.Age 0 100).bind fun r8 =>
      bif (!r8) then (some true)
      else (some (decide ((100 : Int) < (a_c.Entries.length : Int)))))).bind fun o2 =>
  match o2 with
  | c12 => if c12 then (
      some false)
    else (
      s_IsCache_L1 a_s a_l a_c a_c.Entries 0)
theorem s_IsCache_ok (a_s : List Int) (v0_0 : Sv) (a_l : List Method) (v1_0 : Sv) (a_c : Cache) (v2_0 : Sv) (R : Bool) (hF : s_IsCache a_s a_l a_c = some R) :
    Fw.Spec Tryz.prog 96 [v0_0.v, v1_0.v, (.agg [v2_0.v, (.int .i64 a_c.Age)].toArray)] [crd (RdS 3 rdInt) v0_0.v a_s, crd (RdS 53 rd53) v1_0.v a_l, crd (RdS 145 rd145) v2_0.v a_c.Entries] (fun _ : Unit => (.bool R)) (fun _ => []) := by
  refine Spec_enter (n := 97) Tryz.func96 rfl rfl (rs := [.tmp 6]) rfl rfl rfl ?_
  intro H0 F0
  unfold s_IsCache at hF
  refine au ?_
  refine AbR (fun k1 => ?_)
  iterate 3 refine au ?_
  obtain ⟨o2, hio2, hO3⟩ := bind_some hF
  refine au ?_
  refine C_cut (fun f' cs' => ∃ (c12 : Bool) (g : Fr), c12 = o2 ∧ f' = updL g [(0, v0_0.v), (1, v1_0.v), (5, (.pointer (some ⟨k1, 0, some 0⟩))), (25, (.bool c12))] ∧ Ent cs' [crd (RdS 3 rdInt) v0_0.v a_s, crd (RdS 53 rd53) v1_0.v a_l, cboR k1 46 (.agg [v2_0.v, (.int .i64 a_c.Age)].toArray), crd (RdS 145 rd145) v2_0.v a_c.Entries]) ?_ ?_
  · replace hF := hio2
    iterate 2 refine au ?_
    obtain ⟨r4, hx5, hF⟩ := bind_some hF
    refine Cx0 (s_AreMethods_ok _ _ _ _ _ hx5) (fun _ => ?_)
    iterate 2 refine au ?_
    rcases Bool.eq_false_or_eq_true (!r4) with hg7 | hg7
    · rw [hg7]
      try rw [hg7] at hF; dsimp only [cond_true, cond_false] at hF
      iterate 12 refine au ?_
      cases hF
      exact ⟨_, _, rfl, eqA, entA⟩
    rw [hg7]
    try rw [hg7] at hF; dsimp only [cond_true, cond_false] at hF
    iterate 5 refine au ?_
    obtain ⟨r8, hx9, hF⟩ := bind_some hF
    refine Cx0 (s_l1In_ok _ _ _ _ hx9) (fun _ => ?_)
    iterate 4 refine au ?_
    rcases Bool.eq_false_or_eq_true (!r8) with hg11 | hg11
    · rw [hg11]
      try rw [hg11] at hF; dsimp only [cond_true, cond_false] at hF
      iterate 6 refine au ?_
      cases hF
      exact ⟨_, _, rfl, eqA, entA⟩
    rw [hg11]
    try rw [hg11] at hF; dsimp only [cond_true, cond_false] at hF
    iterate 10 refine au ?_
    cases hF
    exact ⟨_, _, rfl, eqA, entA⟩
  rintro _ _ ⟨c12, g89, rfl, rfl, hE⟩
  replace hF := hO3
  clear hO3
  try dsimp only at hF
  refine K_ent hE ?_
  refine Cc (fun hb88 => ?_) (fun hb88 => ?_)
  · rw [if_pos hb88] at hF
    iterate 4 refine au ?_
    cases hF
    exact Er ()
  rw [if_neg (nt hb88)] at hF
  iterate 5 refine au ?_
  refine CW_block (CW_loop (m := a_c.Entries.length) (fun m14 f' cs' => ∃ (g : Fr) (k16 : Nat) (rest17 : List Stored), m14 = rest17.length ∧ f' = updL g [(0, v0_0.v), (1, v1_0.v), (5, (.pointer (some ⟨k1, 0, some 0⟩))), (7, (.int .i64 (k16 : Int)))] ∧ List.drop k16 a_c.Entries = rest17 ∧ Ent cs' [crd (RdS 3 rdInt) v0_0.v a_s, crd (RdS 53 rd53) v1_0.v a_l, cboR k1 46 (.agg [v2_0.v, (.int .i64 a_c.Age)].toArray), crd (RdS 145 rd145) v2_0.v a_c.Entries] ∧ s_IsCache_L1 a_s a_l a_c rest17 k16 = some R) ⟨_, 0, _, rfl, eqA, rfl, entA, hF⟩ ?_)
  clear hF
  rintro m14 _ _ ⟨g15, k16, rest17, rfl, rfl, hd19, hE, hF⟩
  refine K_ent hE ?_
  clear hE
  refine K_pure (c := crd (RdS 145 rd145) v2_0.v a_c.Entries) (.t (.t (.t .h))) crd_bound (fun hbd24 => ?_)
  rcases rest17 with _ | ⟨x18, rest17⟩
  · have hk20 := List.drop_eq_nil_iff.1 hd19
    rw [s_IsCache_L1] at hF
    iterate 8 refine au ?_
    refine CdF ?_
    iterate 8 refine au ?_
    cases hF
    exact Er ()
  obtain ⟨hk20, hx21, hd22⟩ := drop_cons hd19
  rw [s_IsCache_L1] at hF
  iterate 8 refine au ?_
  refine CdT ?_
  refine au ?_
  obtain ⟨o25, hio25, hO26⟩ := bind_some hF
  refine K_cut (fun f' cs' => ∃ (g : Fr), o25 = .inr () ∧ f' = updL g [(0, v0_0.v), (1, v1_0.v), (5, (.pointer (some ⟨k1, 0, some 0⟩))), (7, (.int .i64 (k16 : Int)))] ∧ Ent cs' [crd (RdS 3 rdInt) v0_0.v a_s, crd (RdS 53 rd53) v1_0.v a_l, cboR k1 46 (.agg [v2_0.v, (.int .i64 a_c.Age)].toArray), crd (RdS 145 rd145) v2_0.v a_c.Entries]) ?_ ?_
  · replace hF := hio25
    refine CW_block (K_region (C_val (V_fieldAddr (off := 0) fd46_0.h (.tmp rfl rfl)) ?_))
    iterate 2 refine au ?_
    refine Ai hx21 (fun k27 j28 => ?_)
    refine AlA2 (ul145_0_145 x18) la145_0_145 (fun p29 => ?_)
    refine AnW (fun k30 => ?_)
    refine As (.agg [(.int .i64 x18.Access.Method), p29.1.v, p29.2.v, (.int .i64 x18.At)].toArray) ?_
    iterate 2 refine au ?_
    obtain ⟨o31, hio31, hO32⟩ := bind_some hF
    refine K_draw [0, 1, 2, 3, 4, 5, 6, 7, 8, 9, 10, 11, 12, 13, 14, 15, 16, 17, 18, 19, 20, 21, 22, 23, 24, 25, 26, 27, 28, 29, 30, 31, 32, 33, 34, 35] [0, 0, 0, 4, 15, 31, 63, 127, 127, 383, 1023, 2047, 4095, 8191, 16383, 32767, 65535, 131071, 262143, 524287, 1048575, 2097151, 4194303, 8388607, 16777215, 8388607, 41943039, 134217727, 268435455, 536870911, 8388607, 1082130431, 4294967295, 8589934591, 17179869183, 34359738367] [4, 10, 16, 32] mixed (by decide +kernel) ?_
    refine D_cut (fun f' cs' => ∃ (c56 : Bool) (g : Fr), c56 = o31 ∧ f' = updL g [(0, v0_0.v), (1, v1_0.v), (5, (.pointer (some ⟨k1, 0, some 0⟩))), (7, (.int .i64 (k16 : Int))), (8, (.pointer (some ⟨k30, 0, some 0⟩))), (73, (.bool c56))] ∧ Ent cs' [crd (RdS 3 rdInt) v0_0.v a_s, crd (RdS 53 rd53) v1_0.v a_l, cboR k1 46 (.agg [v2_0.v, (.int .i64 a_c.Age)].toArray), crd (RdS 145 rd145) v2_0.v a_c.Entries, cbox k30 145 (.agg [(.int .i64 x18.Access.Method), p29.1.v, p29.2.v, (.int .i64 x18.At)].toArray), crd (RdS 3 rdInt) p29.1.v x18.Access.Values, crd (RdS 113 rd113) p29.2.v x18.Facts]) ?_ ?_
    · replace hF := hio31
      iterate 3 refine du ?_
      refine D_atO rfl .no .h (fun ha hp => V_loadA (s := 2) (l := [(.int .i64 x18.Access.Method), p29.1.v]) ag131.h ty131.h.sz (EN ha (.tmp rfl rfl) rfl) hp.2 rfl (by decide) (Nat.le_of_ble_eq_true rfl) rfl) ?_
      obtain ⟨r33, hx34, hF⟩ := bind_some hF
      refine Dx0 (s_IsAccess_ok _ _ _ _ _ _ _ hx34) (fun _ => ?_)
      iterate 2 refine du ?_
      rcases Bool.eq_false_or_eq_true (!r33) with hg36 | hg36
      · rw [hg36]
        try rw [hg36] at hF; dsimp only [cond_true, cond_false] at hF
        iterate 30 refine du ?_
        cases hF
        exact ⟨_, _, rfl, eqA, entA⟩
      rw [hg36]
      try rw [hg36] at hF; dsimp only [cond_true, cond_false] at hF
      iterate 2 refine du ?_
      refine D_atO rfl (.on 44 rfl rfl rfl) .h (fun ha hp => V_load (v := p29.2.v) ag41.h (EN ha (.tmp rfl rfl) rfl) hp.2 rfl rfl) ?_
      obtain ⟨r37, hx38, hF⟩ := bind_some hF
      refine Dx0 (s_AreFacts_ok _ _ _ _ _ hx38) (fun _ => ?_)
      iterate 3 refine du ?_
      rcases Bool.eq_false_or_eq_true (!r37) with hg40 | hg40
      · rw [hg40]
        try rw [hg40] at hF; dsimp only [cond_true, cond_false] at hF
        iterate 23 refine du ?_
        cases hF
        exact ⟨_, _, rfl, eqA, entA⟩
      rw [hg40]
      try rw [hg40] at hF; dsimp only [cond_true, cond_false] at hF
      refine du ?_
      refine D_atO rfl (.on 51 rfl rfl rfl) .h (fun ha hp => V_load (v := (.int .i64 x18.At)) ag3.h (EN ha (.tmp rfl rfl) rfl) hp.2 rfl rfl) ?_
      obtain ⟨r41, hx42, hF⟩ := bind_some hF
      refine Dx0 (s_l1In_ok _ _ _ _ hx42) (fun _ => ?_)
      iterate 3 refine du ?_
      rcases Bool.eq_false_or_eq_true (!r41) with hg44 | hg44
      · rw [hg44]
        try rw [hg44] at hF; dsimp only [cond_true, cond_false] at hF
        iterate 17 refine du ?_
        cases hF
        exact ⟨_, _, rfl, eqA, entA⟩
      rw [hg44]
      try rw [hg44] at hF; dsimp only [cond_true, cond_false] at hF
      iterate 3 refine du ?_
      rcases Bool.eq_false_or_eq_true (decide ((0 : Int) < (k16 : Int))) with hg45 | hg45
      · rw [hg45]
        try rw [hg45] at hF; dsimp only [cond_true, cond_false] at hF
        iterate 4 refine du ?_
        obtain ⟨x46, hx47, hF⟩ := bind_some hF
        obtain ⟨hp48, hx49⟩ := ix_some hx47
        refine Di hx49 (fun k50 j51 => ?_)
        refine du ?_
        refine DlA1 (ul145_0_131 x46) la145_0_131 (fun p52 => ?_)
        refine du ?_
        refine D_atO rfl (.on 60 rfl rfl rfl) (.t (.t .h)) (fun ha hp => V_loadA (s := 2) (l := [(.int .i64 x18.Access.Method), p29.1.v]) ag131.h ty131.h.sz (EN ha (.tmp rfl rfl) rfl) hp.2 rfl (by decide) (Nat.le_of_ble_eq_true rfl) rfl) ?_
        obtain ⟨r53, hx54, hF⟩ := bind_some hF
        refine Dx0 (s_l22Less_ok _ _ _ _ _ hx54) (fun _ => ?_)
        iterate 4 refine du ?_
        cases hF
        exact ⟨_, _, rfl, eqA, entA⟩
      rw [hg45]
      try rw [hg45] at hF; dsimp only [cond_true, cond_false] at hF
      iterate 14 refine du ?_
      cases hF
      exact ⟨_, _, rfl, eqA, entA⟩
    rintro _ _ ⟨c56, g85, rfl, rfl, hE⟩
    replace hF := hO32
    clear hO32
    try dsimp only at hF
    refine K_ent hE ?_
    refine Cc (fun hb84 => ?_) (fun hb84 => ?_)
    · rw [if_pos hb84] at hF
      iterate 4 refine au ?_
      cases hF
      replace hF := hO26
      try dsimp only at hF
      cases hF
      exact Er ()
    rw [if_neg (nt hb84)] at hF
    iterate 4 refine au ?_
    refine CW_block (CW_loop (m := x18.Facts.length) (fun m58 f' cs' => ∃ (g : Fr) (k60 : Nat) (rest61 : List Fact), m58 = rest61.length ∧ f' = updL g [(0, v0_0.v), (1, v1_0.v), (5, (.pointer (some ⟨k1, 0, some 0⟩))), (7, (.int .i64 (k16 : Int))), (8, (.pointer (some ⟨k30, 0, some 0⟩))), (9, (.int .i64 (k60 : Int)))] ∧ List.drop k60 x18.Facts = rest61 ∧ Ent cs' [crd (RdS 3 rdInt) v0_0.v a_s, crd (RdS 53 rd53) v1_0.v a_l, cboR k1 46 (.agg [v2_0.v, (.int .i64 a_c.Age)].toArray), crd (RdS 145 rd145) v2_0.v a_c.Entries, cbox k30 145 (.agg [(.int .i64 x18.Access.Method), p29.1.v, p29.2.v, (.int .i64 x18.At)].toArray), crd (RdS 3 rdInt) p29.1.v x18.Access.Values, crd (RdS 113 rd113) p29.2.v x18.Facts] ∧ s_IsCache_L2 a_l x18 rest61 k60 = some o25) ⟨_, 0, _, rfl, eqA, rfl, entA, hF⟩ ?_)
    clear hF
    rintro m58 _ _ ⟨g59, k60, rest61, rfl, rfl, hd63, hE, hF⟩
    refine K_ent hE ?_
    clear hE
    refine K_pure (c := crd (RdS 113 rd113) p29.2.v x18.Facts) (.t (.t (.t (.t (.t (.t .h)))))) crd_bound (fun hbd68 => ?_)
    rcases rest61 with _ | ⟨x62, rest61⟩
    · have hk64 := List.drop_eq_nil_iff.1 hd63
      rw [s_IsCache_L2] at hF
      iterate 8 refine au ?_
      refine CdF ?_
      iterate 4 refine au ?_
      cases hF
      exact ⟨_, rfl, eqA, entA⟩
    obtain ⟨hk64, hx65, hd66⟩ := drop_cons hd63
    rw [s_IsCache_L2] at hF
    iterate 8 refine au ?_
    refine CdT ?_
    iterate 2 refine au ?_
    refine K_draw [0, 1, 2, 3, 4, 5, 6, 7, 8, 9, 10, 11, 12, 13, 14, 15] [0, 0, 2, 6, 15, 31, 0, 64, 192, 0, 512, 0, 3584, 7680, 16383, 32767] [14] mixed (by decide +kernel) ?_
    iterate 3 refine du ?_
    refine D_atO rfl .no (.t (.t (.t (.t .h)))) (fun ha hp => V_load (v := (.int .i64 x18.Access.Method)) ag3.h (EN ha (.tmp rfl rfl) rfl) hp.2 rfl rfl) ?_
    obtain ⟨x69, hx70, hF⟩ := bind_some hF
    obtain ⟨hp71, hx72⟩ := ix_some hx70
    refine Di hx72 (fun k73 j74 => ?_)
    refine DlA1 (ul53_0_53 x69) la53_0_53 (fun p75 => ?_)
    iterate 2 refine du ?_
    refine D_atO rfl .no (.t (.t (.t (.t (.t (.t .h)))))) (fun ha hp => V_load (v := p29.1.v) ag22.h (EN ha (.tmp rfl rfl) rfl) hp.2 rfl rfl) ?_
    refine du ?_
    refine D_atO rfl .no (.t (.t (.t (.t (.t (.t .h)))))) (fun ha hp => V_load (v := p29.2.v) ag41.h (EN ha (.tmp rfl rfl) rfl) hp.2 rfl rfl) ?_
    refine du ?_
    refine Di hx65 (fun k76 j77 => ?_)
    refine DlA1 (ul113_0_113 x62) la113_0_113 (fun p78 => ?_)
    obtain ⟨r79, hx80, hF⟩ := bind_some hF
    refine Dx0 (s_l5Fits_ok _ _ _ _ _ _ _ hx80) (fun _ => ?_)
    iterate 2 refine du ?_
    refine Cc (fun hb83 => ?_) (fun hb83 => ?_)
    · rw [if_pos hb83] at hF
      iterate 4 refine au ?_
      cases hF
      replace hF := hO26
      try dsimp only at hF
      cases hF
      exact Er ()
    rw [if_neg (nt hb83)] at hF
    iterate 6 refine au ?_
    rw [wk k60]
    exact ⟨_, Nat.lt_succ_self _, _, k60 + 1, rest61, rfl, eqA, hd66, entA, hF⟩
  rintro _ _ ⟨g87, rfl, rfl, hE⟩
  replace hF := hO26
  clear hO26
  try dsimp only at hF
  refine K_ent hE ?_
  iterate 5 refine au ?_
  rw [wk k16]
  exact ⟨_, Nat.lt_succ_self _, _, k16 + 1, rest17, rfl, eqA, hd22, entA, hF⟩

/-! spec.l18Times -/
def s_l18Times_L1 (a_times : List Int) : List Int → Nat → Option (Bool)
  | [], k4 => some (decide (((a_times.length : Int) : Int) ≤ 1000))
  | x6 :: rest5, k4 => ((s_l1In x6 0 10000).bind fun r17 =>
      bif (!r17) then (some true)
      else (bif (decide ((0 : Int) < (k4 : Int))) then ((ix a_times (IntKind.i64.wrap ((k4 : Int) - 1))).bind fun x24 =>
          some (decide ((x6 : Int) < x24)))
        else (some false))).bind fun o13 =>
    match o13 with
    | c30 => if c30 then (
        some false)
      else (
        s_l18Times_L1 a_times rest5 (k4 + 1))
def s_l18Times (a_times : List Int) : Option (Bool) :=
  s_l18Times_L1 a_times a_times 0
theorem s_l18Times_ok (a_times : List Int) (v0_0 : Sv) (R : Bool) (hF : s_l18Times a_times = some R) :
    Fw.Spec Tryz.prog 98 [v0_0.v] [crd (RdS 3 rdInt) v0_0.v a_times] (fun _ : Unit => (.bool R)) (fun _ => []) := by
  refine Spec_enter (n := 35) Tryz.func98 rfl rfl (rs := [.tmp 2]) rfl rfl rfl ?_
  intro H0 F0
  unfold s_l18Times at hF
  iterate 7 refine au ?_
  refine CW_block (CW_loop (m := a_times.length) (fun m2 f' cs' => ∃ (g : Fr) (k4 : Nat) (rest5 : List Int), m2 = rest5.length ∧ f' = updL g [(0, v0_0.v), (3, (.int .i64 (k4 : Int)))] ∧ List.drop k4 a_times = rest5 ∧ Ent cs' [crd (RdS 3 rdInt) v0_0.v a_times] ∧ s_l18Times_L1 a_times rest5 k4 = some R) ⟨_, 0, _, rfl, eqA, rfl, entA, hF⟩ ?_)
  clear hF
  rintro m2 _ _ ⟨g3, k4, rest5, rfl, rfl, hd7, hE, hF⟩
  refine K_ent hE ?_
  clear hE
  refine K_pure (c := crd (RdS 3 rdInt) v0_0.v a_times) .h crd_bound (fun hbd12 => ?_)
  rcases rest5 with _ | ⟨x6, rest5⟩
  · have hk8 := List.drop_eq_nil_iff.1 hd7
    rw [s_l18Times_L1] at hF
    iterate 7 refine au ?_
    refine CdF ?_
    iterate 11 refine au ?_
    cases hF
    exact Er ()
  obtain ⟨hk8, hx9, hd10⟩ := drop_cons hd7
  rw [s_l18Times_L1] at hF
  iterate 7 refine au ?_
  refine CdT ?_
  iterate 2 refine au ?_
  obtain ⟨o13, hio13, hO14⟩ := bind_some hF
  refine K_draw [0, 1, 2, 3, 4, 5, 6, 7, 8, 9, 10, 11, 12, 13, 14, 15, 16, 17, 18, 19, 20, 21] [0, 0, 3, 7, 15, 31, 63, 127, 255, 511, 1023, 1023, 4095, 8191, 1023, 1023, 33791, 115711, 246783, 524287, 1048575, 2097151] [4] mixed (by decide +kernel) ?_
  refine D_cut (fun f' cs' => ∃ (c30 : Bool) (g : Fr), c30 = o13 ∧ f' = updL g [(0, v0_0.v), (3, (.int .i64 (k4 : Int))), (31, (.bool c30))] ∧ Ent cs' [crd (RdS 3 rdInt) v0_0.v a_times]) ?_ ?_
  · replace hF := hio13
    iterate 2 refine du ?_
    refine Di hx9 (fun k15 j16 => ?_)
    refine Dl ls3_0 ?_
    obtain ⟨r17, hx18, hF⟩ := bind_some hF
    refine Dx0 (s_l1In_ok _ _ _ _ hx18) (fun _ => ?_)
    iterate 2 refine du ?_
    rcases Bool.eq_false_or_eq_true (!r17) with hg20 | hg20
    · rw [hg20]
      try rw [hg20] at hF; dsimp only [cond_true, cond_false] at hF
      iterate 16 refine du ?_
      cases hF
      exact ⟨_, _, rfl, eqA, entA⟩
    rw [hg20]
    try rw [hg20] at hF; dsimp only [cond_true, cond_false] at hF
    iterate 3 refine du ?_
    rcases Bool.eq_false_or_eq_true (decide ((0 : Int) < (k4 : Int))) with hg21 | hg21
    · rw [hg21]
      try rw [hg21] at hF; dsimp only [cond_true, cond_false] at hF
      iterate 2 refine du ?_
      refine Di hx9 (fun k22 j23 => ?_)
      refine Dl ls3_0 ?_
      iterate 3 refine du ?_
      obtain ⟨x24, hx25, hF⟩ := bind_some hF
      obtain ⟨hp26, hx27⟩ := ix_some hx25
      refine Di hx27 (fun k28 j29 => ?_)
      refine Dl ls3_0 ?_
      iterate 4 refine du ?_
      cases hF
      exact ⟨_, _, rfl, eqA, entA⟩
    rw [hg21]
    try rw [hg21] at hF; dsimp only [cond_true, cond_false] at hF
    iterate 13 refine du ?_
    cases hF
    exact ⟨_, _, rfl, eqA, entA⟩
  rintro _ _ ⟨c30, g33, rfl, rfl, hE⟩
  replace hF := hO14
  clear hO14
  try dsimp only at hF
  refine K_ent hE ?_
  refine Cc (fun hb32 => ?_) (fun hb32 => ?_)
  · rw [if_pos hb32] at hF
    iterate 4 refine au ?_
    cases hF
    exact Er ()
  rw [if_neg (nt hb32)] at hF
  iterate 6 refine au ?_
  rw [wk k4]
  exact ⟨_, Nat.lt_succ_self _, _, k4 + 1, rest5, rfl, eqA, hd10, entA, hF⟩

/-! spec.IsMediator -/
def s_IsMediator_L1 (a_m : Mediator) : List Access → Nat → Option (Bool)
  | [], k27 => ((s_l1In a_m.Now 0 10000).bind fun r38 =>
      bif r38 then (bif (decide (((a_m.Log.length : Int) : Int) ≤ 1000)) then (bif (((a_m.Times.length : Int) : Int) == (a_m.Log.length : Int)) then ((s_l18Times a_m.Times).bind fun r44 =>
            bif r44 then ((s_l1In a_m.Spent 0 1000000).bind fun r48 =>
              bif r48 then (some (decide (((a_m.Results.length : Int) : Int) ≤ 100)))
              else (some false))
            else (some false))
          else (some false))
        else (some false))
      else (some false)).bind fun o36 =>
    match o36 with
    | c52 => some c52
  | x29 :: rest28, k27 => (s_IsAccess a_m.Schema a_m.Methods x29).bind fun r57 =>
    if (!r57) then (
      some false)
    else (
      s_IsMediator_L1 a_m rest28 (k27 + 1))
def s_IsMediator (a_m : Mediator) : Option (Bool) :=
  ((s_IsSchema a_m.Schema).bind fun r4 =>
    bif (!r4) then (some true)
    else ((s_AreMethods a_m.Schema a_m.Methods).bind fun r8 =>
      bif (!r8) then (some true)
      else ((s_AreRules a_m.Schema a_m.Rules).bind fun r12 =>
        bif (!r12) then (some true)
        else ((s_IsSource a_m.Schema a_m.Source).bind fun r16 =>
          bif (!r16) then (some true)
          else ((s_IsCache a_m.Schema a_m.Methods a_m.Cache).bind fun r20 =>
            some (!r20)))))).bind fun o2 =>
  match o2 with
  | c23 => if c23 then (
      some false)
    else (
      s_IsMediator_L1 a_m a_m.Log 0)
theorem s_IsMediator_ok (a_m : Mediator) (v0_0 : Sv) (v0_1 : Sv) (v0_2 : Sv) (v0_3 : Sv) (v0_5 : Sv) (v0_8 : Sv) (v0_9 : Sv) (v0_11 : Sv) (R : Bool) (hF : s_IsMediator a_m = some R) :
    Fw.Spec Tryz.prog 39 [(.agg [v0_0.v, v0_1.v, v0_2.v, v0_3.v, (.int .i64 a_m.Source.Version), v0_5.v, (.int .i64 a_m.Cache.Age), (.int .i64 a_m.Now), v0_8.v, v0_9.v, (.int .i64 a_m.Spent), v0_11.v].toArray)] [crd (RdS 3 rdInt) v0_0.v a_m.Schema, crd (RdS 53 rd53) v0_1.v a_m.Methods, crd (RdS 64 rd64) v0_2.v a_m.Rules, crd (RdS 113 rd113) v0_3.v a_m.Source.Facts, crd (RdS 145 rd145) v0_5.v a_m.Cache.Entries, crd (RdS 131 rd131) v0_8.v a_m.Log, crd (RdS 3 rdInt) v0_9.v a_m.Times, crd (RdS 120 (RdS 22 (RdS 3 rdInt))) v0_11.v a_m.Results] (fun _ : Unit => (.bool R)) (fun _ => []) := by
  refine Spec_enter (n := 94) Tryz.func39 rfl rfl (rs := [.tmp 2]) rfl rfl rfl ?_
  intro H0 F0
  unfold s_IsMediator at hF
  refine au ?_
  refine AbR (fun k1 => ?_)
  iterate 3 refine au ?_
  obtain ⟨o2, hio2, hO3⟩ := bind_some hF
  refine au ?_
  refine C_cut (fun f' cs' => ∃ (c23 : Bool) (g : Fr), c23 = o2 ∧ f' = updL g [(1, (.pointer (some ⟨k1, 0, some 0⟩))), (41, (.bool c23))] ∧ Ent cs' [cboR k1 49 (.agg [v0_0.v, v0_1.v, v0_2.v, v0_3.v, (.int .i64 a_m.Source.Version), v0_5.v, (.int .i64 a_m.Cache.Age), (.int .i64 a_m.Now), v0_8.v, v0_9.v, (.int .i64 a_m.Spent), v0_11.v].toArray), crd (RdS 3 rdInt) v0_0.v a_m.Schema, crd (RdS 53 rd53) v0_1.v a_m.Methods, crd (RdS 64 rd64) v0_2.v a_m.Rules, crd (RdS 113 rd113) v0_3.v a_m.Source.Facts, crd (RdS 145 rd145) v0_5.v a_m.Cache.Entries, crd (RdS 131 rd131) v0_8.v a_m.Log, crd (RdS 3 rdInt) v0_9.v a_m.Times, crd (RdS 120 (RdS 22 (RdS 3 rdInt))) v0_11.v a_m.Results]) ?_ ?_
  · replace hF := hio2
    iterate 2 refine au ?_
    obtain ⟨r4, hx5, hF⟩ := bind_some hF
    refine Cx0 (s_IsSchema_ok _ _ _ hx5) (fun _ => ?_)
    iterate 2 refine au ?_
    rcases Bool.eq_false_or_eq_true (!r4) with hg7 | hg7
    · rw [hg7]
      try rw [hg7] at hF; dsimp only [cond_true, cond_false] at hF
      iterate 34 refine au ?_
      cases hF
      exact ⟨_, _, rfl, eqA, entA⟩
    rw [hg7]
    try rw [hg7] at hF; dsimp only [cond_true, cond_false] at hF
    iterate 9 refine au ?_
    obtain ⟨r8, hx9, hF⟩ := bind_some hF
    refine Cx0 (s_AreMethods_ok _ _ _ _ _ hx9) (fun _ => ?_)
    iterate 4 refine au ?_
    rcases Bool.eq_false_or_eq_true (!r8) with hg11 | hg11
    · rw [hg11]
      try rw [hg11] at hF; dsimp only [cond_true, cond_false] at hF
      iterate 26 refine au ?_
      cases hF
      exact ⟨_, _, rfl, eqA, entA⟩
    rw [hg11]
    try rw [hg11] at hF; dsimp only [cond_true, cond_false] at hF
    iterate 9 refine au ?_
    obtain ⟨r12, hx13, hF⟩ := bind_some hF
    refine Cx0 (s_AreRules_ok _ _ _ _ _ hx13) (fun _ => ?_)
    iterate 4 refine au ?_
    rcases Bool.eq_false_or_eq_true (!r12) with hg15 | hg15
    · rw [hg15]
      try rw [hg15] at hF; dsimp only [cond_true, cond_false] at hF
      iterate 18 refine au ?_
      cases hF
      exact ⟨_, _, rfl, eqA, entA⟩
    rw [hg15]
    try rw [hg15] at hF; dsimp only [cond_true, cond_false] at hF
    iterate 7 refine au ?_
    refine C_at .h (fun hp => V_loadA (s := 2) (l := [v0_3.v, (.int .i64 a_m.Source.Version)]) ag43.h ty43.h.sz (.tmp rfl rfl) hp.2 rfl (by decide) (Nat.le_of_ble_eq_true rfl) rfl) ?_
    refine au ?_
    obtain ⟨r16, hx17, hF⟩ := bind_some hF
    refine Cx0 (s_IsSource_ok _ _ _ _ _ hx17) (fun _ => ?_)
    iterate 4 refine au ?_
    rcases Bool.eq_false_or_eq_true (!r16) with hg19 | hg19
    · rw [hg19]
      try rw [hg19] at hF; dsimp only [cond_true, cond_false] at hF
      iterate 10 refine au ?_
      cases hF
      exact ⟨_, _, rfl, eqA, entA⟩
    rw [hg19]
    try rw [hg19] at hF; dsimp only [cond_true, cond_false] at hF
    iterate 11 refine au ?_
    refine C_at .h (fun hp => V_loadA (s := 2) (l := [v0_5.v, (.int .i64 a_m.Cache.Age)]) ag46.h ty46.h.sz (.tmp rfl rfl) hp.2 rfl (by decide) (Nat.le_of_ble_eq_true rfl) rfl) ?_
    refine au ?_
    obtain ⟨r20, hx21, hF⟩ := bind_some hF
    refine Cx0 (s_IsCache_ok _ _ _ _ _ _ _ hx21) (fun _ => ?_)
    iterate 4 refine au ?_
    cases hF
    exact ⟨_, _, rfl, eqA, entA⟩
  rintro _ _ ⟨c23, g63, rfl, rfl, hE⟩
  replace hF := hO3
  clear hO3
  try dsimp only at hF
  refine K_ent hE ?_
  refine Cc (fun hb62 => ?_) (fun hb62 => ?_)
  · rw [if_pos hb62] at hF
    iterate 4 refine au ?_
    cases hF
    exact Er ()
  rw [if_neg (nt hb62)] at hF
  iterate 5 refine au ?_
  refine CW_block (CW_loop (m := a_m.Log.length) (fun m25 f' cs' => ∃ (g : Fr) (k27 : Nat) (rest28 : List Access), m25 = rest28.length ∧ f' = updL g [(1, (.pointer (some ⟨k1, 0, some 0⟩))), (3, (.int .i64 (k27 : Int)))] ∧ List.drop k27 a_m.Log = rest28 ∧ Ent cs' [cboR k1 49 (.agg [v0_0.v, v0_1.v, v0_2.v, v0_3.v, (.int .i64 a_m.Source.Version), v0_5.v, (.int .i64 a_m.Cache.Age), (.int .i64 a_m.Now), v0_8.v, v0_9.v, (.int .i64 a_m.Spent), v0_11.v].toArray), crd (RdS 3 rdInt) v0_0.v a_m.Schema, crd (RdS 53 rd53) v0_1.v a_m.Methods, crd (RdS 64 rd64) v0_2.v a_m.Rules, crd (RdS 113 rd113) v0_3.v a_m.Source.Facts, crd (RdS 145 rd145) v0_5.v a_m.Cache.Entries, crd (RdS 131 rd131) v0_8.v a_m.Log, crd (RdS 3 rdInt) v0_9.v a_m.Times, crd (RdS 120 (RdS 22 (RdS 3 rdInt))) v0_11.v a_m.Results] ∧ s_IsMediator_L1 a_m rest28 k27 = some R) ⟨_, 0, _, rfl, eqA, rfl, entA, hF⟩ ?_)
  clear hF
  rintro m25 _ _ ⟨g26, k27, rest28, rfl, rfl, hd30, hE, hF⟩
  refine K_ent hE ?_
  clear hE
  refine K_pure (c := crd (RdS 131 rd131) v0_8.v a_m.Log) (.t (.t (.t (.t (.t (.t .h)))))) crd_bound (fun hbd35 => ?_)
  rcases rest28 with _ | ⟨x29, rest28⟩
  · have hk31 := List.drop_eq_nil_iff.1 hd30
    rw [s_IsMediator_L1] at hF
    iterate 8 refine au ?_
    refine CdF ?_
    iterate 4 refine au ?_
    obtain ⟨o36, hio36, hO37⟩ := bind_some hF
    refine au ?_
    refine C_cut (fun f' cs' => ∃ (c52 : Bool) (g : Fr), c52 = o36 ∧ f' = updL g [(2, (.bool c52))] ∧ Ent cs' []) ?_ ?_
    · replace hF := hio36
      iterate 2 refine au ?_
      obtain ⟨r38, hx39, hF⟩ := bind_some hF
      refine Cx0 (s_l1In_ok _ _ _ _ hx39) (fun _ => ?_)
      refine au ?_
      rcases Bool.eq_false_or_eq_true r38 with hg41 | hg41
      · rw [hg41]
        try rw [hg41] at hF; dsimp only [cond_true, cond_false] at hF
        iterate 10 refine au ?_
        rcases Bool.eq_false_or_eq_true (decide (((a_m.Log.length : Int) : Int) ≤ 1000)) with hg42 | hg42
        · rw [hg42]
          try rw [hg42] at hF; dsimp only [cond_true, cond_false] at hF
          iterate 16 refine au ?_
          rcases Bool.eq_false_or_eq_true (((a_m.Times.length : Int) : Int) == (a_m.Log.length : Int)) with hg43 | hg43
          · rw [hg43]
            try rw [hg43] at hF; dsimp only [cond_true, cond_false] at hF
            iterate 5 refine au ?_
            obtain ⟨r44, hx45, hF⟩ := bind_some hF
            refine Cx0 (s_l18Times_ok _ _ _ hx45) (fun _ => ?_)
            iterate 2 refine au ?_
            rcases Bool.eq_false_or_eq_true r44 with hg47 | hg47
            · rw [hg47]
              try rw [hg47] at hF; dsimp only [cond_true, cond_false] at hF
              iterate 5 refine au ?_
              obtain ⟨r48, hx49, hF⟩ := bind_some hF
              refine Cx0 (s_l1In_ok _ _ _ _ hx49) (fun _ => ?_)
              iterate 2 refine au ?_
              rcases Bool.eq_false_or_eq_true r48 with hg51 | hg51
              · rw [hg51]
                try rw [hg51] at hF; dsimp only [cond_true, cond_false] at hF
                iterate 11 refine au ?_
                cases hF
                exact ⟨_, _, rfl, eqA, entA⟩
              rw [hg51]
              try rw [hg51] at hF; dsimp only [cond_true, cond_false] at hF
              iterate 7 refine au ?_
              cases hF
              exact ⟨_, _, rfl, eqA, entA⟩
            rw [hg47]
            try rw [hg47] at hF; dsimp only [cond_true, cond_false] at hF
            iterate 12 refine au ?_
            cases hF
            exact ⟨_, _, rfl, eqA, entA⟩
          rw [hg43]
          try rw [hg43] at hF; dsimp only [cond_true, cond_false] at hF
          iterate 17 refine au ?_
          cases hF
          exact ⟨_, _, rfl, eqA, entA⟩
        rw [hg42]
        try rw [hg42] at hF; dsimp only [cond_true, cond_false] at hF
        iterate 26 refine au ?_
        cases hF
        exact ⟨_, _, rfl, eqA, entA⟩
      rw [hg41]
      try rw [hg41] at hF; dsimp only [cond_true, cond_false] at hF
      iterate 32 refine au ?_
      cases hF
      exact ⟨_, _, rfl, eqA, entA⟩
    rintro _ _ ⟨c52, g53, rfl, rfl, hE⟩
    replace hF := hO37
    clear hO37
    try dsimp only at hF
    refine K_ent hE ?_
    refine au ?_
    cases hF
    exact Er ()
  obtain ⟨hk31, hx32, hd33⟩ := drop_cons hd30
  rw [s_IsMediator_L1] at hF
  iterate 8 refine au ?_
  refine CdT ?_
  iterate 2 refine au ?_
  refine K_draw [0, 1, 2, 3, 4, 5, 6, 7, 8, 9, 10] [0, 1, 0, 4, 0, 16, 0, 112, 240, 511, 1023] [9] mixed (by decide +kernel) ?_
  iterate 7 refine du ?_
  refine Di hx32 (fun k54 j55 => ?_)
  refine DlA1 (ul131_0_131 x29) la131_0_131 (fun p56 => ?_)
  obtain ⟨r57, hx58, hF⟩ := bind_some hF
  refine Dx0 (s_IsAccess_ok _ _ _ _ _ _ _ hx58) (fun _ => ?_)
  iterate 2 refine du ?_
  refine Cc (fun hb61 => ?_) (fun hb61 => ?_)
  · rw [if_pos hb61] at hF
    iterate 4 refine au ?_
    cases hF
    exact Er ()
  rw [if_neg (nt hb61)] at hF
  iterate 6 refine au ?_
  rw [wk k27]
  exact ⟨_, Nat.lt_succ_self _, _, k27 + 1, rest28, rfl, eqA, hd33, entA, hF⟩

/-! spec.l13Apply -/
def s_l13Apply_L1 (a_r : Rule) (a_f : Fact) : List Int → Nat → (List Int) → Option (Fact)
  | [], k35, c29 => some ({ Rel := a_r.To, Values := c29 } : Fact)
  | x37 :: rest36, k35, c29 => (ix a_f.Values x37).bind fun x46 =>
    (app c29 ([x46] : List Int)).bind fun z53 =>
    s_l13Apply_L1 a_r a_f rest36 (k35 + 1) z53
def s_l13Apply (a_r : Rule) (a_f : Fact) : Option (Fact) :=
  s_l13Apply_L1 a_r a_f a_r.Map 0 ([] : List Int)
theorem s_l13Apply_ok (a_r : Rule) (v0_2 : Sv) (a_f : Fact) (v1_1 : Sv) (R : Fact) (hF : s_l13Apply a_r a_f = some R) :
    Fw.Spec Tryz.prog 132 [(.agg [(.int .i64 a_r.From), (.int .i64 a_r.To), v0_2.v].toArray), (.agg [(.int .i64 a_f.Rel), v1_1.v].toArray)] [crd (RdS 3 rdInt) v0_2.v a_r.Map, crd (RdS 3 rdInt) v1_1.v a_f.Values] (fun p : Sv × List Nat => (.agg [(.int .i64 R.Rel), p.1.v].toArray)) (fun p => [cown (OwnS 3 (roE rdInt)) p.2 p.1.v R.Values]) := by
  refine Spec_enter (n := 32) Tryz.func132 rfl rfl (rs := [.cell 4 113]) rfl rfl rfl ?_
  intro H0 F0
  unfold s_l13Apply at hF
  refine au ?_
  refine AbR (fun k1 => ?_)
  refine AbR (fun k2 => ?_)
  refine AnW (fun k3 => ?_)
  iterate 4 refine au ?_
  refine C_val (V_build ty113.h rfl (vs := [(.int .i64 a_r.To)]) (.cons (.tmp rfl rfl) .nil) (cells := [(.int .i64 a_r.To), (.slice none 0 0)]) rfl) ?_
  refine AnW (fun k4 => ?_)
  refine As (.agg [(.int .i64 a_r.To), (.slice none 0 0)].toArray) ?_
  iterate 5 refine au ?_
  refine CW_block (CW_loop (m := a_r.Map.length) (fun m33 f' cs' => ∃ (g : Fr) (k35 : Nat) (rest36 : List Int) (c29 : List Int) (v30 : Sv) (F31 : List Nat), m33 = rest36.length ∧ f' = updL g [(2, (.pointer (some ⟨k1, 0, some 0⟩))), (3, (.pointer (some ⟨k2, 0, some 0⟩))), (4, (.pointer (some ⟨k3, 0, some 0⟩))), (5, (.pointer (some ⟨k4, 0, some 0⟩))), (6, (.int .i64 (k35 : Int)))] ∧ List.drop k35 a_r.Map = rest36 ∧ Ent cs' [cboR k1 64 (.agg [(.int .i64 a_r.From), (.int .i64 a_r.To), v0_2.v].toArray), crd (RdS 3 rdInt) v0_2.v a_r.Map, cboR k2 113 (.agg [(.int .i64 a_f.Rel), v1_1.v].toArray), crd (RdS 3 rdInt) v1_1.v a_f.Values, cbox k3 113 (.agg [(.int .i64 0), (.slice none 0 0)].toArray), cbox k4 113 (.agg [(.int .i64 a_r.To), v30.v].toArray), cown (OwnS 3 (roE rdInt)) F31 v30.v c29] ∧ s_l13Apply_L1 a_r a_f rest36 k35 c29 = some R) ⟨_, 0, _, _, ⟨none, 0, 0⟩, [], rfl, eqA, rfl, (.conv .nil (own_nil (Ro := (roE rdInt)) (E := 3)) (.cons .nil) entA), hF⟩ ?_)
  clear hF
  rintro m33 _ _ ⟨g34, k35, rest36, c29, v30, F31, rfl, rfl, hd38, hE, hF⟩
  refine K_ent hE ?_
  clear hE
  refine K_pure (c := crd (RdS 3 rdInt) v0_2.v a_r.Map) (.t .h) crd_bound (fun hbd43 => ?_)
  rcases rest36 with _ | ⟨x37, rest36⟩
  · have hk39 := List.drop_eq_nil_iff.1 hd38
    rw [s_l13Apply_L1] at hF
    iterate 8 refine au ?_
    refine CdF ?_
    iterate 6 refine au ?_
    refine As (.agg [(.int .i64 a_r.To), v30.v].toArray) ?_
    iterate 2 refine au ?_
    cases hF
    exact Er (v30, F31)
  obtain ⟨hk39, hx40, hd41⟩ := drop_cons hd38
  rw [s_l13Apply_L1] at hF
  iterate 8 refine au ?_
  refine CdT ?_
  iterate 2 refine au ?_
  refine CW_draw [0, 1, 2, 3, 4, 5, 6, 7, 8, 9, 10, 11, 12, 13, 14] [0, 1, 0, 4, 0, 16, 0, 112, 240, 508, 1020, 2044, 4095, 8191, 16383] [12, 14] mixed (by decide +kernel) ?_
  refine du ?_
  refine D_atO rfl .no (.t (.t (.t (.t (.t .h))))) (fun ha hp => V_load (v := v30.v) ag22.h (EN ha (.tmp rfl rfl) rfl) hp.2 rfl rfl) ?_
  iterate 5 refine du ?_
  refine Di hx40 (fun k44 j45 => ?_)
  refine Dl ls3_0 ?_
  obtain ⟨x46, hx47, hF⟩ := bind_some hF
  obtain ⟨hp48, hx49⟩ := ix_some hx47
  refine Di hx49 (fun k50 j51 => ?_)
  refine Dl ls3_0 ?_
  refine D_new rfl .no rfl (fun ha => N_buildSliceT (g := true) (len := 1) (parts := [(0, .tmp 27)]) sl22.h ty3.h (.cons (EN ha (.tmp rfl rfl) rfl) .nil) (vs := [(.int .i64 x46)]) rfl rfl rfl (by intro v hv; simp at hv; rcases hv with rfl <;> rfl)) (fun k52 => ?_)
  refine Dv1 (.cons .h .nil) (own_lit (Ro := (roE rdInt)) (E := 3) (F := ([] ++ [])) (xs := ([x46] : List Int)) (MkL_cons (Mk_pure (fun _ => rfl)) MkL_nil apps) rfl rfl) ?_
  obtain ⟨z53, hx54, hF⟩ := bind_some hF
  refine D_act1 rfl rfl .no (.cons (.t (.t (.t (.t (.t (.t (.t (.t (.t .h))))))))) (.cons .h .nil)) (.dep rfl (.dep rfl .nil)) (fun ha => X_appendO (Ro := (roE rdInt)) sl22.h ni22 ty3.h rfl rfl rfl (EN ha (.tmp rfl rfl) rfl) (EN ha (.tmp rfl rfl) rfl) hx54 src_own) (fun p55 => ?_)
  refine du ?_
  refine D_act1 rfl rfl .no (.cons (.t (.t (.t (.t (.t (.t (.t (.t .h)))))))) .nil) (.dep rfl (.dep rfl .nil)) (fun ha => X_storeB (e' := (.agg [(.int .i64 a_r.To), p55.1.v].toArray)) ty22.h.sz (EN ha (.tmp rfl rfl) rfl) (EN ha (.tmp rfl rfl) rfl) rfl rfl rfl rfl rfl) (fun _ => ?_)
  refine du ?_
  iterate 5 refine au ?_
  rw [wk k35]
  exact ⟨_, Nat.lt_succ_self _, _, k35 + 1, rest36, _, p55.1, p55.2, rfl, eqA, hd41, entA, hF⟩

/-! spec.HasFact -/
def s_HasFact_L1 (a_f : Fact) : List Fact → Nat → Option (Bool)
  | [], k5 => some false
  | x7 :: rest6, k5 => (s_CompareFacts x7 a_f).bind fun r17 =>
    if ((r17 : Int) == 0) then (
      some true)
    else (
      s_HasFact_L1 a_f rest6 (k5 + 1))
def s_HasFact (a_l : List Fact) (a_f : Fact) : Option (Bool) :=
  s_HasFact_L1 a_f a_l 0
theorem s_HasFact_ok (a_l : List Fact) (v0_0 : Sv) (a_f : Fact) (v1_1 : Sv) (R : Bool) (hF : s_HasFact a_l a_f = some R) :
    Fw.Spec Tryz.prog 133 [v0_0.v, (.agg [(.int .i64 a_f.Rel), v1_1.v].toArray)] [crd (RdS 113 rd113) v0_0.v a_l, crd (RdS 3 rdInt) v1_1.v a_f.Values] (fun _ : Unit => (.bool R)) (fun _ => []) := by
  refine Spec_enter (n := 19) Tryz.func133 rfl rfl (rs := [.tmp 4]) rfl rfl rfl ?_
  intro H0 F0
  unfold s_HasFact at hF
  refine K_region (C_newR rfl (N_box (g := false) (v := (.agg [(.int .i64 a_f.Rel), v1_1.v].toArray)) ty113.h.sz (.tmp rfl rfl) rfl) (fun k1 => ?_))
  refine C_val (V_assign (v := (.bool false)) (.bool _)) ?_
  refine C_nil (K_in (K_region (C_val (V_assign (v := (.int .i64 0)) (.int _ _)) ?_)))
  refine C_nil (CW_block (CW_loop (m := a_l.length) (fun m3 f' cs' => ∃ (g : Fr) (k5 : Nat) (rest6 : List Fact), m3 = rest6.length ∧ f' = updL g [(0, v0_0.v), (3, (.pointer (some ⟨k1, 0, some 0⟩))), (5, (.int .i64 (k5 : Int)))] ∧ List.drop k5 a_l = rest6 ∧ Ent cs' [crd (RdS 113 rd113) v0_0.v a_l, cboR k1 113 (.agg [(.int .i64 a_f.Rel), v1_1.v].toArray), crd (RdS 3 rdInt) v1_1.v a_f.Values] ∧ s_HasFact_L1 a_f rest6 k5 = some R) ⟨_, 0, _, rfl, (EqL.cons rfl (EqL.cons rfl (EqL.cons rfl (EqL.nil)))).eq, rfl, (.sel (.rd (.t .h) rfl (.rd .h rfl (.rd (.t (.t .h)) rfl .nil)))), hF⟩ ?_))
  clear hF
  rintro m3 _ _ ⟨g4, k5, rest6, rfl, rfl, hd8, hE, hF⟩
  refine K_ent hE ?_
  clear hE
  refine K_pure (c := crd (RdS 113 rd113) v0_0.v a_l) .h crd_bound (fun hbd13 => ?_)
  rcases rest6 with _ | ⟨x7, rest6⟩
  · have hk9 := List.drop_eq_nil_iff.1 hd8
    have hfe12 : (decide (((k5 : Int) : Int) < (a_l.length : Int))) = false := decide_eq_false (by omega)
    rw [s_HasFact_L1] at hF
    refine K_in (K_region (Cm (.int .i64 (k5 : Int)) rfl rfl ?_))
    refine Cm v0_0.v rfl rfl ?_
    refine C_at .h (fun hp => V_lenR (l := a_l.length) sl41.h (.tmp rfl rfl) (crd_len hp)) ?_
    refine C_val (V_lss (i := (k5 : Int)) (j := (a_l.length : Int)) (.tmp rfl rfl) (.tmp rfl rfl)) ?_
    refine C_nil (CW_cond (b := (decide (((k5 : Int) : Int) < (a_l.length : Int)))) (.tmp rfl rfl) (fun hb => absurd (hfe12.symm.trans hb) (by decide)) (fun _ => ?_))
    refine CW_exit ?_
    iterate 2 refine CThen_exit ?_
    refine CIn_self (K_region (C_val (V_assign (v := (.bool false)) (.bool _)) ?_))
    refine C_nil (CW_ret ?_)
    obtain rfl := Option.some.inj hF
    exact End_ret () (.tmp rfl rfl .nil) rfl (.sel .nil)
  obtain ⟨hk9, hx10, hd11⟩ := drop_cons hd8
  have hfe12 : (decide (((k5 : Int) : Int) < (a_l.length : Int))) = true := decide_eq_true (by omega)
  rw [s_HasFact_L1] at hF
  refine K_in (K_region (Cm (.int .i64 (k5 : Int)) rfl rfl ?_))
  refine Cm v0_0.v rfl rfl ?_
  refine C_at .h (fun hp => V_lenR (l := a_l.length) sl41.h (.tmp rfl rfl) (crd_len hp)) ?_
  refine C_val (V_lss (i := (k5 : Int)) (j := (a_l.length : Int)) (.tmp rfl rfl) (.tmp rfl rfl)) ?_
  refine C_nil (CW_cond (b := (decide (((k5 : Int) : Int) < (a_l.length : Int)))) (.tmp rfl rfl) (fun _ => ?_) (fun hb => absurd (hfe12.symm.trans hb) (by decide)))
  refine CW_skip (K_block (K_draw [0, 1, 2, 3, 4, 5, 6] [0, 0, 3, 7, 0, 31, 63] [5] mixed (by decide +kernel) ?_))
  refine Dm v0_0.v rfl rfl rfl rfl ?_
  refine Dm (.int .i64 (k5 : Int)) rfl rfl rfl rfl ?_
  refine D_idx (a := x7) sl41.h ty113.h.sz rfl .no (.tmp rfl rfl) (.tmp rfl rfl) rfl rfl .h (Int.natCast_nonneg k5) hx10 (fun k14 j15 => ?_)
  refine D_ldA1 (ul113_0_113 x7) ag113.h ty113.h.sz rfl rfl .no (.tmp rfl rfl) rfl .h la113_0_113 (fun p16 => ?_)
  refine D_at rfl .no (.t (.t (.t .h))) rfl (fun ha hp => V_loadBox ag113.h ty113.h.sz rfl (EN ha (.tmp rfl rfl) rfl) hp.2 rfl) ?_
  obtain ⟨r17, hx18, hF⟩ := bind_some hF
  refine D_act0 rfl rfl .no (.rd .h rfl (.rd (.t (.t (.t (.t .h)))) rfl .nil)) .nil (fun ha => X_callS cf169.h (.cons (EN ha (.tmp rfl rfl) rfl) (.cons (EN ha (.tmp rfl rfl) rfl) .nil)) (s_CompareFacts_ok x7 p16 a_f v1_1 _ hx18)) (fun _ => ?_)
  refine D_val rfl .no (fun ha => V_eql (i := r17) (j := 0) (EN ha (.tmp rfl rfl) rfl) (EN ha (.int _ _) rfl)) ?_
  refine D_nil (CW_cond (b := ((r17 : Int) == 0)) (.tmp rfl rfl) (fun hb21 => ?_) (fun hb21 => ?_))
  · rw [if_pos hb21] at hF
    refine K_region (C_val (V_assign (v := (.bool true)) (.bool _)) ?_)
    refine C_nil (CW_ret ?_)
    obtain rfl := Option.some.inj hF
    exact End_ret () (.tmp rfl rfl .nil) rfl (.sel .nil)
  rw [if_neg (by rw [hb21]; exact Bool.false_ne_true)] at hF
  refine CW_skip (CW_region (Cm (.int .i64 (k5 : Int)) rfl rfl ?_))
  refine C_val (V_add (i := (k5 : Int)) (j := 1) (.tmp rfl rfl) (.int _ _)) ?_
  refine Ca (.int .i64 (IntKind.i64.wrap ((k5 : Int) + 1))) rfl rfl ?_
  refine C_nil ?_
  have hw20 : IntKind.i64.wrap ((k5 : Int) + 1) = ((k5 + 1 : Nat) : Int) := by rw [wrap_in (by omega) (by omega)]; rfl
  rw [hw20]
  exact ⟨_, Nat.lt_succ_self _, _, k5 + 1, rest6, rfl, (EqL.cons rfl (EqL.cons rfl (EqL.cons rfl (EqL.nil)))).eq, hd11, (.sel (.rd (.t (.t .h)) rfl (.rd (.t (.t (.t .h))) rfl (.rd (.t (.t (.t (.t .h)))) rfl .nil)))), hF⟩

/-! spec.l2One -/
def s_l2One (a_rel : Int) (a_values : List Int) : Option (Fact) :=
  (app ([] : List Int) a_values).bind fun z3 =>
  some ({ Rel := a_rel, Values := z3 } : Fact)
theorem s_l2One_ok (a_rel : Int) (a_values : List Int) (v1_0 : Sv) (R : Fact) (hF : s_l2One a_rel a_values = some R) :
    Fw.Spec Tryz.prog 170 [(.int .i64 a_rel), v1_0.v] [crd (RdS 3 rdInt) v1_0.v a_values] (fun p : Sv × List Nat => (.agg [(.int .i64 R.Rel), p.1.v].toArray)) (fun p => [cown (OwnS 3 (roE rdInt)) p.2 p.1.v R.Values]) := by
  refine Spec_enter (n := 10) Tryz.func170 rfl rfl (rs := [.cell 4 113]) rfl rfl rfl ?_
  intro H0 F0
  unfold s_l2One at hF
  refine au ?_
  refine AnW (fun k1 => ?_)
  iterate 3 refine au ?_
  refine C_new rfl (N_buildSliceT (g := true) sl22.h ty3.h .nil (vs := []) rfl rfl rfl (by simp)) (fun k2 => ?_)
  refine Cv1 (.cons .h .nil) (own_lit (Ro := (roE rdInt)) (E := 3) (F := []) (xs := ([] : List Int)) MkL_nil rfl rfl) ?_
  refine au ?_
  obtain ⟨z3, hx4, hF⟩ := bind_some hF
  refine C_x1 (.cons .h (.rd (.t .h) rfl .nil)) (X_appendO (Ro := (roE rdInt)) sl22.h ni22 ty3.h rfl rfl rfl (.tmp rfl rfl) (.tmp rfl rfl) hx4 src_rd) (fun p5 => ?_)
  refine C_val (V_build ty113.h rfl (vs := [(.int .i64 a_rel), p5.1.v]) (.cons (.tmp rfl rfl) (.cons (.tmp rfl rfl) .nil)) (cells := [(.int .i64 a_rel), p5.1.v]) rfl) ?_
  refine As (.agg [(.int .i64 a_rel), p5.1.v].toArray) ?_
  iterate 2 refine au ?_
  cases hF
  exact Er (p5.1, p5.2)

end Go.Proofs.YtmjhcoelkbcmkaaGreat
