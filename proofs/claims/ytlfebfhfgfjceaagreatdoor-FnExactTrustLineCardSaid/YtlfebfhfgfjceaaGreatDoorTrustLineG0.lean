/-
  Functions of the program as Lean functions, and that the calls return what these say: part 1. No conditions.
-/
import Derived.Test.YtlfebfhfgfjceaaGreatDoorFcTrustLine
import Derived.Shelf.Strings.OnBuilder
import Derived.Shelf.Strconv.Itoa3
import Derived.Test.YtlfebfhfgfjceaaGreatDoorProg
import Derived.KernelRfl
set_option maxRecDepth 100000
set_option maxHeartbeats 1000000
set_option linter.unusedVariables false
namespace Go.Proofs.YtlfebfhfgfjceaaGreatDoor
open Go Go.Fw

instance : LaidP Tryz.prog := ⟨fun w => Lib.TabIs Tryz.prog w "internal/strconv.uint64pow10" .u64 Lib.pow10Tab⟩
structure Method where
 Rel : Int
 Inputs : List Int
 Limit : Int
 Cost : Int
 Quota : Int
structure Access where
 Method : Int
 Values : List Int
structure Fact where
 Rel : Int
 Values : List Int
structure Told where
 Access : Access
 Facts : List Fact
instance sl22 : ISL Tryz.prog 22 3 := ⟨by unfold SL; kernel_rfl⟩
instance cf6 : ICF Tryz.prog 6 := ⟨Tryz.call6⟩
instance sl23 : ISL Tryz.prog 23 74 := ⟨by unfold SL; kernel_rfl⟩
def rd74 (H : AHeap) (v : Value) (a : Method) : Prop := ∃ v0 : Sv, v = .agg [(.int .i64 a.Rel), v0.v, (.int .i64 a.Limit), (.int .i64 a.Cost), (.int .i64 a.Quota)].toArray ∧ (RdS 3 rdInt) H v0.v a.Inputs
instance : Mono rd74 := ⟨fun h hi => by
 obtain ⟨v0, h, h0⟩ := h
 exact ⟨v0, h, Mono.up h0 hi⟩⟩
instance : Cells rd74 5 := ⟨fun h => by
 obtain ⟨v0, rfl, h0⟩ := h
 exact ⟨rfl, rfl⟩⟩
instance ty74 : ITY Tryz.prog 74 5 56 (.agg [(.int .i64 0), (.slice none 0 0), (.int .i64 0), (.int .i64 0), (.int .i64 0)].toArray) := ⟨by unfold TY; kernel_rfl⟩
def ul74_0_74 (a : Method) (p : Sv) : List Value := [(.int .i64 a.Rel), p.v, (.int .i64 a.Limit), (.int .i64 a.Cost), (.int .i64 a.Quota)]
theorem la74_0_74 {a : Method} : ∀ H e, rd74 H e a → ∃ i : Sv, 0 + 5 ≤ e.cells.size ∧ (e.cells.toList.drop 0).take 5 = ul74_0_74 a i ∧ ∀ c ∈ ([crd (RdS 3 rdInt) i.v a.Inputs] : List Comp), c.P H ∧ c.F = [] := by
 intro H e h
 obtain ⟨v0, rfl, h0⟩ := h
 refine ⟨v0, Nat.le_of_ble_eq_true rfl, rfl, fun c hc => by
   simp only [List.mem_cons, List.not_mem_nil, or_false] at hc
   rcases hc with rfl
   · exact ⟨h0, rfl⟩
⟩
instance ag74 : IAG Tryz.prog 74 true := ⟨by unfold AG; kernel_rfl⟩
instance cf30 : ICF Tryz.prog 30 := ⟨Tryz.call30⟩
instance fd74_1 : IFD Tryz.prog 74 1 1 := ⟨by unfold FD; kernel_rfl⟩
instance ag22 : IAG Tryz.prog 22 false := ⟨by unfold AG; kernel_rfl⟩
instance cf48 : ICF Tryz.prog 48 := ⟨Tryz.call48⟩
instance cf7 : ICF Tryz.prog 7 := ⟨Tryz.call7⟩
instance sl24 : ISL Tryz.prog 24 79 := ⟨by unfold SL; kernel_rfl⟩
def rd123 (H : AHeap) (v : Value) (a : Fact) : Prop := ∃ v0 : Sv, v = .agg [(.int .i64 a.Rel), v0.v].toArray ∧ (RdS 3 rdInt) H v0.v a.Values
instance : Mono rd123 := ⟨fun h hi => by
 obtain ⟨v0, h, h0⟩ := h
 exact ⟨v0, h, Mono.up h0 hi⟩⟩
instance : Cells rd123 2 := ⟨fun h => by
 obtain ⟨v0, rfl, h0⟩ := h
 exact ⟨rfl, rfl⟩⟩
def rd79 (H : AHeap) (v : Value) (a : Told) : Prop := ∃ v0 v1 : Sv, v = .agg [(.int .i64 a.Access.Method), v0.v, v1.v].toArray ∧ (RdS 3 rdInt) H v0.v a.Access.Values ∧ (RdS 123 rd123) H v1.v a.Facts
instance : Mono rd79 := ⟨fun h hi => by
 obtain ⟨v0, v1, h, h0, h1⟩ := h
 exact ⟨v0, v1, h, Mono.up h0 hi, Mono.up h1 hi⟩⟩
instance : Cells rd79 3 := ⟨fun h => by
 obtain ⟨v0, v1, rfl, h0, h1⟩ := h
 exact ⟨rfl, rfl⟩⟩
instance ty79 : ITY Tryz.prog 79 3 56 (.agg [(.int .i64 0), (.slice none 0 0), (.slice none 0 0)].toArray) := ⟨by unfold TY; kernel_rfl⟩
def ul79_0_79 (a : Told) (p : Sv × Sv) : List Value := [(.int .i64 a.Access.Method), p.1.v, p.2.v]
theorem la79_0_79 {a : Told} : ∀ H e, rd79 H e a → ∃ i : Sv × Sv, 0 + 3 ≤ e.cells.size ∧ (e.cells.toList.drop 0).take 3 = ul79_0_79 a i ∧ ∀ c ∈ ([crd (RdS 3 rdInt) i.1.v a.Access.Values, crd (RdS 123 rd123) i.2.v a.Facts] : List Comp), c.P H ∧ c.F = [] := by
 intro H e h
 obtain ⟨v0, v1, rfl, h0, h1⟩ := h
 refine ⟨(v0, v1), Nat.le_of_ble_eq_true rfl, rfl, fun c hc => by
   simp only [List.mem_cons, List.not_mem_nil, or_false] at hc
   rcases hc with rfl | rfl
   · exact ⟨h0, rfl⟩
   · exact ⟨h1, rfl⟩
⟩
instance ag79 : IAG Tryz.prog 79 true := ⟨by unfold AG; kernel_rfl⟩
instance cf31 : ICF Tryz.prog 31 := ⟨Tryz.call31⟩
instance fd79_0 : IFD Tryz.prog 79 0 0 := ⟨by unfold FD; kernel_rfl⟩
instance ag77 : IAG Tryz.prog 77 true := ⟨by unfold AG; kernel_rfl⟩
instance ty77 : ITY Tryz.prog 77 2 32 (.agg [(.int .i64 0), (.slice none 0 0)].toArray) := ⟨by unfold TY; kernel_rfl⟩
instance cf87 : ICF Tryz.prog 87 := ⟨Tryz.call87⟩
instance fd77_1 : IFD Tryz.prog 77 1 1 := ⟨by unfold FD; kernel_rfl⟩
instance fd79_1 : IFD Tryz.prog 79 1 2 := ⟨by unfold FD; kernel_rfl⟩
instance ag38 : IAG Tryz.prog 38 false := ⟨by unfold AG; kernel_rfl⟩
instance cf25 : ICF Tryz.prog 25 := ⟨Tryz.call25⟩
instance sl38 : ISL Tryz.prog 38 123 := ⟨by unfold SL; kernel_rfl⟩
instance ty123 : ITY Tryz.prog 123 2 32 (.agg [(.int .i64 0), (.slice none 0 0)].toArray) := ⟨by unfold TY; kernel_rfl⟩
def ul123_0_123 (a : Fact) (p : Sv) : List Value := [(.int .i64 a.Rel), p.v]
theorem la123_0_123 {a : Fact} : ∀ H e, rd123 H e a → ∃ i : Sv, 0 + 2 ≤ e.cells.size ∧ (e.cells.toList.drop 0).take 2 = ul123_0_123 a i ∧ ∀ c ∈ ([crd (RdS 3 rdInt) i.v a.Values] : List Comp), c.P H ∧ c.F = [] := by
 intro H e h
 obtain ⟨v0, rfl, h0⟩ := h
 refine ⟨v0, Nat.le_of_ble_eq_true rfl, rfl, fun c hc => by
   simp only [List.mem_cons, List.not_mem_nil, or_false] at hc
   rcases hc with rfl
   · exact ⟨h0, rfl⟩
⟩
instance ag123 : IAG Tryz.prog 123 true := ⟨by unfold AG; kernel_rfl⟩
instance cf78 : ICF Tryz.prog 78 := ⟨Tryz.call78⟩
instance fd123_1 : IFD Tryz.prog 123 1 1 := ⟨by unfold FD; kernel_rfl⟩
instance cf9 : ICF Tryz.prog 9 := ⟨Tryz.call9⟩
instance ty3 : ITY Tryz.prog 3 1 8 (.int .i64 0) := ⟨by unfold TY; kernel_rfl⟩
theorem ls3_0 {a : Int} : ∀ H e, rdInt H e a → e.cells.toList[0]? = some (.int .i64 a) := by
 intro H e h
 subst h
 rfl
instance ag3 : IAG Tryz.prog 3 false := ⟨by unfold AG; kernel_rfl⟩
instance cf10 : ICF Tryz.prog 10 := ⟨Tryz.call10⟩
instance sl29 : ISL Tryz.prog 29 86 := ⟨by unfold SL; kernel_rfl⟩
instance ty86 : ITY Tryz.prog 86 5 56 (.agg [(.int .i64 0), (.slice none 0 0), (.int .i64 0), (.int .i64 0), (.int .i64 0)].toArray) := ⟨by unfold TY; kernel_rfl⟩
def rd86 (H : AHeap) (v : Value) (a : Method) : Prop := ∃ v0 : Sv, v = .agg [(.int .i64 a.Rel), v0.v, (.int .i64 a.Limit), (.int .i64 a.Cost), (.int .i64 a.Quota)].toArray ∧ (RdS 3 rdInt) H v0.v a.Inputs
instance : Mono rd86 := ⟨fun h hi => by
 obtain ⟨v0, h, h0⟩ := h
 exact ⟨v0, h, Mono.up h0 hi⟩⟩
instance : Cells rd86 5 := ⟨fun h => by
 obtain ⟨v0, rfl, h0⟩ := h
 exact ⟨rfl, rfl⟩⟩
def ow86 : ORel Method := fun F H v a => ∃ (v0 : Sv) (F0 : List Nat), v = .agg [(.int .i64 a.Rel), v0.v, (.int .i64 a.Limit), (.int .i64 a.Cost), (.int .i64 a.Quota)].toArray ∧ F0 = F ∧ (OwnS 3 (roE rdInt)) F0 H v0.v a.Inputs
instance : Keep ow86 := ⟨fun h hi hg => by
 obtain ⟨v0, F0, rfl, rfl, h0⟩ := h
 exact ⟨v0, F0, rfl, rfl, Keep.keep h0 hi (fun k hk => hg k (by simp [hk]))⟩⟩
instance : Local ow86 := ⟨fun h hg => by
 obtain ⟨v0, F0, rfl, rfl, h0⟩ := h
 exact ⟨v0, F0, rfl, rfl, Local.keep h0 (fun k hk => hg k (by simp [hk]))⟩⟩
instance : Owns ow86 := ⟨fun h k hk => by
 obtain ⟨v0, F0, rfl, rfl, h0⟩ := h
 exact Owns.owns h0 k hk
⟩
instance : OCells ow86 5 := ⟨fun h => by
 obtain ⟨v0, F0, rfl, rfl, h0⟩ := h
 exact ⟨rfl, rfl⟩⟩
instance : Frz ow86 rd86 := ⟨fun h hg => by
 obtain ⟨v0, F0, rfl, rfl, h0⟩ := h
 exact ⟨v0, rfl, Frz.frz h0 (fun k hk => hg k (by simp [hk]))⟩⟩
instance cf38 : ICF Tryz.prog 38 := ⟨Tryz.call38⟩
instance fd74_0 : IFD Tryz.prog 74 0 0 := ⟨by unfold FD; kernel_rfl⟩
instance fd86_0 : IFD Tryz.prog 86 0 0 := ⟨by unfold FD; kernel_rfl⟩
instance fd86_1 : IFD Tryz.prog 86 1 1 := ⟨by unfold FD; kernel_rfl⟩
instance ty22 : ITY Tryz.prog 22 1 24 (.slice none 0 0) := ⟨by unfold TY; kernel_rfl⟩
instance fd74_2 : IFD Tryz.prog 74 2 2 := ⟨by unfold FD; kernel_rfl⟩
instance fd86_2 : IFD Tryz.prog 86 2 2 := ⟨by unfold FD; kernel_rfl⟩
instance fd74_3 : IFD Tryz.prog 74 3 3 := ⟨by unfold FD; kernel_rfl⟩
instance fd86_3 : IFD Tryz.prog 86 3 3 := ⟨by unfold FD; kernel_rfl⟩
instance fd74_4 : IFD Tryz.prog 74 4 4 := ⟨by unfold FD; kernel_rfl⟩
instance fd86_4 : IFD Tryz.prog 86 4 4 := ⟨by unfold FD; kernel_rfl⟩
instance ag86 : IAG Tryz.prog 86 true := ⟨by unfold AG; kernel_rfl⟩
theorem mk86 {a : Method} {v0 : Sv} {F0 : List Nat} : Mk ow86 F0 (.agg [(.int .i64 a.Rel), v0.v, (.int .i64 a.Limit), (.int .i64 a.Cost), (.int .i64 a.Quota)].toArray) a [cown (OwnS 3 (roE rdInt)) F0 v0.v a.Inputs] :=
 ⟨fun H h => ⟨v0, F0, rfl, rfl, h (cown (OwnS 3 (roE rdInt)) F0 v0.v a.Inputs) (by simp)⟩, by simp [cown]⟩
instance cf11 : ICF Tryz.prog 11 := ⟨Tryz.call11⟩
instance sl31 : ISL Tryz.prog 31 90 := ⟨by unfold SL; kernel_rfl⟩
instance ty90 : ITY Tryz.prog 90 3 56 (.agg [(.int .i64 0), (.slice none 0 0), (.slice none 0 0)].toArray) := ⟨by unfold TY; kernel_rfl⟩
def rd129 (H : AHeap) (v : Value) (a : Fact) : Prop := ∃ v0 : Sv, v = .agg [(.int .i64 a.Rel), v0.v].toArray ∧ (RdS 3 rdInt) H v0.v a.Values
instance : Mono rd129 := ⟨fun h hi => by
 obtain ⟨v0, h, h0⟩ := h
 exact ⟨v0, h, Mono.up h0 hi⟩⟩
instance : Cells rd129 2 := ⟨fun h => by
 obtain ⟨v0, rfl, h0⟩ := h
 exact ⟨rfl, rfl⟩⟩
def rd90 (H : AHeap) (v : Value) (a : Told) : Prop := ∃ v0 v1 : Sv, v = .agg [(.int .i64 a.Access.Method), v0.v, v1.v].toArray ∧ (RdS 3 rdInt) H v0.v a.Access.Values ∧ (RdS 129 rd129) H v1.v a.Facts
instance : Mono rd90 := ⟨fun h hi => by
 obtain ⟨v0, v1, h, h0, h1⟩ := h
 exact ⟨v0, v1, h, Mono.up h0 hi, Mono.up h1 hi⟩⟩
instance : Cells rd90 3 := ⟨fun h => by
 obtain ⟨v0, v1, rfl, h0, h1⟩ := h
 exact ⟨rfl, rfl⟩⟩
def ow129 : ORel Fact := fun F H v a => ∃ (v0 : Sv) (F0 : List Nat), v = .agg [(.int .i64 a.Rel), v0.v].toArray ∧ F0 = F ∧ (OwnS 3 (roE rdInt)) F0 H v0.v a.Values
instance : Keep ow129 := ⟨fun h hi hg => by
 obtain ⟨v0, F0, rfl, rfl, h0⟩ := h
 exact ⟨v0, F0, rfl, rfl, Keep.keep h0 hi (fun k hk => hg k (by simp [hk]))⟩⟩
instance : Local ow129 := ⟨fun h hg => by
 obtain ⟨v0, F0, rfl, rfl, h0⟩ := h
 exact ⟨v0, F0, rfl, rfl, Local.keep h0 (fun k hk => hg k (by simp [hk]))⟩⟩
instance : Owns ow129 := ⟨fun h k hk => by
 obtain ⟨v0, F0, rfl, rfl, h0⟩ := h
 exact Owns.owns h0 k hk
⟩
instance : OCells ow129 2 := ⟨fun h => by
 obtain ⟨v0, F0, rfl, rfl, h0⟩ := h
 exact ⟨rfl, rfl⟩⟩
instance : Frz ow129 rd129 := ⟨fun h hg => by
 obtain ⟨v0, F0, rfl, rfl, h0⟩ := h
 exact ⟨v0, rfl, Frz.frz h0 (fun k hk => hg k (by simp [hk]))⟩⟩
def ow90 : ORel Told := fun F H v a => ∃ (v0 v1 : Sv) (F0 F1 : List Nat), v = .agg [(.int .i64 a.Access.Method), v0.v, v1.v].toArray ∧ F = (F0 ++ F1) ∧ (OwnS 3 (roE rdInt)) F0 H v0.v a.Access.Values ∧ (OwnS 129 ow129) F1 H v1.v a.Facts
instance : Keep ow90 := ⟨fun h hi hg => by
 obtain ⟨v0, v1, F0, F1, rfl, rfl, h0, h1⟩ := h
 exact ⟨v0, v1, F0, F1, rfl, rfl, Keep.keep h0 hi (fun k hk => hg k (by simp [hk])), Keep.keep h1 hi (fun k hk => hg k (by simp [hk]))⟩⟩
instance : Local ow90 := ⟨fun h hg => by
 obtain ⟨v0, v1, F0, F1, rfl, rfl, h0, h1⟩ := h
 exact ⟨v0, v1, F0, F1, rfl, rfl, Local.keep h0 (fun k hk => hg k (by simp [hk])), Local.keep h1 (fun k hk => hg k (by simp [hk]))⟩⟩
instance : Owns ow90 := ⟨fun h k hk => by
 obtain ⟨v0, v1, F0, F1, rfl, rfl, h0, h1⟩ := h
 simp only [List.mem_append] at hk
 rcases hk with hk | hk
 · exact Owns.owns h0 k hk
 · exact Owns.owns h1 k hk
⟩
instance : OCells ow90 3 := ⟨fun h => by
 obtain ⟨v0, v1, F0, F1, rfl, rfl, h0, h1⟩ := h
 exact ⟨rfl, rfl⟩⟩
instance : Frz ow90 rd90 := ⟨fun h hg => by
 obtain ⟨v0, v1, F0, F1, rfl, rfl, h0, h1⟩ := h
 exact ⟨v0, v1, rfl, Frz.frz h0 (fun k hk => hg k (by simp [hk])), Frz.frz h1 (fun k hk => hg k (by simp [hk]))⟩⟩
instance cf39 : ICF Tryz.prog 39 := ⟨Tryz.call39⟩
instance cf96 : ICF Tryz.prog 96 := ⟨Tryz.call96⟩
instance ty88 : ITY Tryz.prog 88 2 32 (.agg [(.int .i64 0), (.slice none 0 0)].toArray) := ⟨by unfold TY; kernel_rfl⟩
instance fd77_0 : IFD Tryz.prog 77 0 0 := ⟨by unfold FD; kernel_rfl⟩
instance fd88_0 : IFD Tryz.prog 88 0 0 := ⟨by unfold FD; kernel_rfl⟩
instance fd88_1 : IFD Tryz.prog 88 1 1 := ⟨by unfold FD; kernel_rfl⟩
instance ag88 : IAG Tryz.prog 88 true := ⟨by unfold AG; kernel_rfl⟩
instance fd90_0 : IFD Tryz.prog 90 0 0 := ⟨by unfold FD; kernel_rfl⟩
instance cf27 : ICF Tryz.prog 27 := ⟨Tryz.call27⟩
instance sl52 : ISL Tryz.prog 52 129 := ⟨by unfold SL; kernel_rfl⟩
instance ty129 : ITY Tryz.prog 129 2 32 (.agg [(.int .i64 0), (.slice none 0 0)].toArray) := ⟨by unfold TY; kernel_rfl⟩
instance cf82 : ICF Tryz.prog 82 := ⟨Tryz.call82⟩
instance fd123_0 : IFD Tryz.prog 123 0 0 := ⟨by unfold FD; kernel_rfl⟩
instance fd129_0 : IFD Tryz.prog 129 0 0 := ⟨by unfold FD; kernel_rfl⟩
instance fd129_1 : IFD Tryz.prog 129 1 1 := ⟨by unfold FD; kernel_rfl⟩
instance ag129 : IAG Tryz.prog 129 true := ⟨by unfold AG; kernel_rfl⟩
theorem mk129 {a : Fact} {v0 : Sv} {F0 : List Nat} : Mk ow129 F0 (.agg [(.int .i64 a.Rel), v0.v].toArray) a [cown (OwnS 3 (roE rdInt)) F0 v0.v a.Values] :=
 ⟨fun H h => ⟨v0, F0, rfl, rfl, h (cown (OwnS 3 (roE rdInt)) F0 v0.v a.Values) (by simp)⟩, by simp [cown]⟩
instance fd90_1 : IFD Tryz.prog 90 1 2 := ⟨by unfold FD; kernel_rfl⟩
instance ty52 : ITY Tryz.prog 52 1 24 (.slice none 0 0) := ⟨by unfold TY; kernel_rfl⟩
instance ag90 : IAG Tryz.prog 90 true := ⟨by unfold AG; kernel_rfl⟩
theorem mk90 {a : Told} {v0 v1 : Sv} {F0 F1 : List Nat} : Mk ow90 (F0 ++ F1) (.agg [(.int .i64 a.Access.Method), v0.v, v1.v].toArray) a [cown (OwnS 3 (roE rdInt)) F0 v0.v a.Access.Values, cown (OwnS 129 ow129) F1 v1.v a.Facts] :=
 ⟨fun H h => ⟨v0, v1, F0, F1, rfl, rfl, h (cown (OwnS 3 (roE rdInt)) F0 v0.v a.Access.Values) (by simp), h (cown (OwnS 129 ow129) F1 v1.v a.Facts) (by simp)⟩, by simp [cown]⟩
instance cf8 : ICF Tryz.prog 8 := ⟨Tryz.call8⟩
instance cf32 : ICF Tryz.prog 32 := ⟨Tryz.call32⟩
instance cf79 : ICF Tryz.prog 79 := ⟨Tryz.call79⟩
instance cf106 : ICF Tryz.prog 106 := ⟨Tryz.call106⟩
instance cf111 : ICF Tryz.prog 111 := ⟨Tryz.call111⟩
def ul86_0_86 (a : Method) (p : Sv) : List Value := [(.int .i64 a.Rel), p.v, (.int .i64 a.Limit), (.int .i64 a.Cost), (.int .i64 a.Quota)]
theorem la86_0_86 {a : Method} : ∀ H e, rd86 H e a → ∃ i : Sv, 0 + 5 ≤ e.cells.size ∧ (e.cells.toList.drop 0).take 5 = ul86_0_86 a i ∧ ∀ c ∈ ([crd (RdS 3 rdInt) i.v a.Inputs] : List Comp), c.P H ∧ c.F = [] := by
 intro H e h
 obtain ⟨v0, rfl, h0⟩ := h
 refine ⟨v0, Nat.le_of_ble_eq_true rfl, rfl, fun c hc => by
   simp only [List.mem_cons, List.not_mem_nil, or_false] at hc
   rcases hc with rfl
   · exact ⟨h0, rfl⟩
⟩
instance cf133 : ICF Tryz.prog 133 := ⟨Tryz.call133⟩
theorem mixed : Tryz.prog.follows .mixedOrders = true := by kernel_rfl
instance cf88 : ICF Tryz.prog 88 := ⟨Tryz.call88⟩
theorem ni22 : NotInt Tryz.prog 22 := .inr ⟨3, by kernel_rfl⟩
instance cf89 : ICF Tryz.prog 89 := ⟨Tryz.call89⟩
instance cf146 : ICF Tryz.prog 146 := ⟨Tryz.call146⟩
instance cf91 : ICF Tryz.prog 91 := ⟨Tryz.call91⟩
instance cf148 : ICF Tryz.prog 148 := ⟨Tryz.call148⟩
def ul90_0_90 (a : Told) (p : Sv × Sv) : List Value := [(.int .i64 a.Access.Method), p.1.v, p.2.v]
theorem la90_0_90 {a : Told} : ∀ H e, rd90 H e a → ∃ i : Sv × Sv, 0 + 3 ≤ e.cells.size ∧ (e.cells.toList.drop 0).take 3 = ul90_0_90 a i ∧ ∀ c ∈ ([crd (RdS 3 rdInt) i.1.v a.Access.Values, crd (RdS 129 rd129) i.2.v a.Facts] : List Comp), c.P H ∧ c.F = [] := by
 intro H e h
 obtain ⟨v0, v1, rfl, h0, h1⟩ := h
 refine ⟨(v0, v1), Nat.le_of_ble_eq_true rfl, rfl, fun c hc => by
   simp only [List.mem_cons, List.not_mem_nil, or_false] at hc
   rcases hc with rfl | rfl
   · exact ⟨h0, rfl⟩
   · exact ⟨h1, rfl⟩
⟩
instance cf149 : ICF Tryz.prog 149 := ⟨Tryz.call149⟩
instance ag52 : IAG Tryz.prog 52 false := ⟨by unfold AG; kernel_rfl⟩
instance cf203 : ICF Tryz.prog 203 := ⟨Tryz.call203⟩
instance cf204 : ICF Tryz.prog 204 := ⟨Tryz.call204⟩
theorem ls129_0 {a : Fact} : ∀ H e, rd129 H e a → e.cells.toList[0]? = some (.int .i64 a.Rel) := by
 intro H e h
 obtain ⟨_, rfl, _⟩ := h
 rfl
theorem lv129_1 {a : Fact} : ∀ H e, rd129 H e a → ∃ w : Sv, e.cells.toList[1]? = some w.v ∧ (RdS 3 rdInt) H w.v a.Values := by
 intro H e h
 obtain ⟨v0, rfl, h0⟩ := h
 exact ⟨v0, rfl, h0⟩
instance cf150 : ICF Tryz.prog 150 := ⟨Tryz.call150⟩
theorem ni52 : NotInt Tryz.prog 52 := .inr ⟨129, by kernel_rfl⟩
theorem ni31 : NotInt Tryz.prog 31 := .inr ⟨90, by kernel_rfl⟩
instance cf90 : ICF Tryz.prog 90 := ⟨Tryz.call90⟩
instance cf147 : ICF Tryz.prog 147 := ⟨Tryz.call147⟩
instance cf201 : ICF Tryz.prog 201 := ⟨Tryz.call201⟩
instance cf240 : ICF Tryz.prog 240 := ⟨Tryz.call240⟩
instance cf110 : ICF Tryz.prog 110 := ⟨Tryz.call110⟩
theorem lv86_1 {a : Method} : ∀ H e, rd86 H e a → ∃ w : Sv, e.cells.toList[1]? = some w.v ∧ (RdS 3 rdInt) H w.v a.Inputs := by
 intro H e h
 obtain ⟨v0, rfl, h0⟩ := h
 exact ⟨v0, rfl, h0⟩
instance cf80 : ICF Tryz.prog 80 := ⟨Tryz.call80⟩
def ul129_0_129 (a : Fact) (p : Sv) : List Value := [(.int .i64 a.Rel), p.v]
theorem la129_0_129 {a : Fact} : ∀ H e, rd129 H e a → ∃ i : Sv, 0 + 2 ≤ e.cells.size ∧ (e.cells.toList.drop 0).take 2 = ul129_0_129 a i ∧ ∀ c ∈ ([crd (RdS 3 rdInt) i.v a.Values] : List Comp), c.P H ∧ c.F = [] := by
 intro H e h
 obtain ⟨v0, rfl, h0⟩ := h
 refine ⟨v0, Nat.le_of_ble_eq_true rfl, rfl, fun c hc => by
   simp only [List.mem_cons, List.not_mem_nil, or_false] at hc
   rcases hc with rfl
   · exact ⟨h0, rfl⟩
⟩
instance cf134 : ICF Tryz.prog 134 := ⟨Tryz.call134⟩
instance cf135 : ICF Tryz.prog 135 := ⟨Tryz.call135⟩
instance cf171 : ICF Tryz.prog 171 := ⟨Tryz.call171⟩
instance cf202 : ICF Tryz.prog 202 := ⟨Tryz.call202⟩
instance cf241 : ICF Tryz.prog 241 := ⟨Tryz.call241⟩
instance cf95 : ICF Tryz.prog 95 := ⟨Tryz.call95⟩
instance cf34 : ICF Tryz.prog 34 := ⟨Tryz.call34⟩
theorem lv90_2 {a : Told} : ∀ H e, rd90 H e a → ∃ w : Sv, e.cells.toList[2]? = some w.v ∧ (RdS 129 rd129) H w.v a.Facts := by
 intro H e h
 obtain ⟨v0, v1, rfl, h0, h1⟩ := h
 exact ⟨v1, rfl, h1⟩
instance cf93 : ICF Tryz.prog 93 := ⟨Tryz.call93⟩
instance cf33 : ICF Tryz.prog 33 := ⟨Tryz.call33⟩
instance cf92 : ICF Tryz.prog 92 := ⟨Tryz.call92⟩
instance cf56 : ICF Tryz.prog 56 := ⟨Tryz.call56⟩
theorem ik3 : IK Tryz.prog 3 .i64 := by unfold IK; kernel_rfl
theorem ik5 : IK Tryz.prog 5 .u8 := by unfold IK; kernel_rfl
instance sl160 : ISL Tryz.prog 160 5 := ⟨by unfold SL; kernel_rfl⟩
instance ty5 : ITY Tryz.prog 5 1 1 (.int .u8 0) := ⟨by unfold TY; kernel_rfl⟩
theorem str9 : Tryz.prog.underlying 9 = some .string := by kernel_rfl
instance cf35 : ICF Tryz.prog 35 := ⟨Tryz.call35⟩
instance cf36 : ICF Tryz.prog 36 := ⟨Tryz.call36⟩
instance cf94 : ICF Tryz.prog 94 := ⟨Tryz.call94⟩
instance sl139 : ISL Tryz.prog 139 22 := ⟨by unfold SL; kernel_rfl⟩
instance cf151 : ICF Tryz.prog 151 := ⟨Tryz.call151⟩
theorem ni139 : NotInt Tryz.prog 139 := .inr ⟨22, by kernel_rfl⟩
theorem lv22_0 {a : List Int} : ∀ H e, (RdS 3 rdInt) H e a → ∃ w : Sv, e.cells.toList[0]? = some w.v ∧ (RdS 3 rdInt) H w.v a := by
 intro H e h
 obtain ⟨a0, m, rfl⟩ := RdS.len h
 exact ⟨⟨a0, _, m⟩, rfl, h⟩
instance cf205 : ICF Tryz.prog 205 := ⟨Tryz.call205⟩
theorem mr129 {a : Fact} {v0 : Sv} : Mk (roE rd129) [] (.agg [(.int .i64 a.Rel), v0.v].toArray) a [crd (RdS 3 rdInt) v0.v a.Values] :=
 ⟨fun H h => ⟨rfl, v0, rfl, h (crd (RdS 3 rdInt) v0.v a.Values) (by simp)⟩, by simp [crd]⟩
instance cf37 : ICF Tryz.prog 37 := ⟨Tryz.call37⟩
instance cf12 : ICF Tryz.prog 12 := ⟨Tryz.call12⟩
instance cf40 : ICF Tryz.prog 40 := ⟨Tryz.call40⟩
instance cf97 : ICF Tryz.prog 97 := ⟨Tryz.call97⟩
instance ty29 : ITY Tryz.prog 29 1 24 (.slice none 0 0) := ⟨by unfold TY; kernel_rfl⟩
instance ty31 : ITY Tryz.prog 31 1 24 (.slice none 0 0) := ⟨by unfold TY; kernel_rfl⟩
instance ag29 : IAG Tryz.prog 29 false := ⟨by unfold AG; kernel_rfl⟩
instance cf83 : ICF Tryz.prog 83 := ⟨Tryz.call83⟩
instance cf138 : ICF Tryz.prog 138 := ⟨Tryz.call138⟩
instance cf124 : ICF Tryz.prog 124 := ⟨Tryz.call124⟩
instance cf180 : ICF Tryz.prog 180 := ⟨Tryz.call180⟩
instance cf223 : ICF Tryz.prog 223 := ⟨Tryz.call223⟩
instance cf190 : ICF Tryz.prog 190 := ⟨Tryz.call190⟩
instance cf139 : ICF Tryz.prog 139 := ⟨Tryz.call139⟩
instance cf191 : ICF Tryz.prog 191 := ⟨Tryz.call191⟩
instance cf140 : ICF Tryz.prog 140 := ⟨Tryz.call140⟩
instance cf141 : ICF Tryz.prog 141 := ⟨Tryz.call141⟩
instance cf192 : ICF Tryz.prog 192 := ⟨Tryz.call192⟩
instance cf193 : ICF Tryz.prog 193 := ⟨Tryz.call193⟩
instance cf228 : ICF Tryz.prog 228 := ⟨Tryz.call228⟩
instance cf229 : ICF Tryz.prog 229 := ⟨Tryz.call229⟩
instance cf230 : ICF Tryz.prog 230 := ⟨Tryz.call230⟩
instance ag31 : IAG Tryz.prog 31 false := ⟨by unfold AG; kernel_rfl⟩
instance cf155 : ICF Tryz.prog 155 := ⟨Tryz.call155⟩
instance cf152 : ICF Tryz.prog 152 := ⟨Tryz.call152⟩
instance cf154 : ICF Tryz.prog 154 := ⟨Tryz.call154⟩
instance cf207 : ICF Tryz.prog 207 := ⟨Tryz.call207⟩
instance cf246 : ICF Tryz.prog 246 := ⟨Tryz.call246⟩
instance cf208 : ICF Tryz.prog 208 := ⟨Tryz.call208⟩
instance cf247 : ICF Tryz.prog 247 := ⟨Tryz.call247⟩
instance cf213 : ICF Tryz.prog 213 := ⟨Tryz.call213⟩
instance cf238 : ICF Tryz.prog 238 := ⟨Tryz.call238⟩
instance cf165 : ICF Tryz.prog 165 := ⟨Tryz.call165⟩
instance cf153 : ICF Tryz.prog 153 := ⟨Tryz.call153⟩
instance cf206 : ICF Tryz.prog 206 := ⟨Tryz.call206⟩
instance cf242 : ICF Tryz.prog 242 := ⟨Tryz.call242⟩
instance cf267 : ICF Tryz.prog 267 := ⟨Tryz.call267⟩
instance cf122 : ICF Tryz.prog 122 := ⟨Tryz.call122⟩
instance cf125 : ICF Tryz.prog 125 := ⟨Tryz.call125⟩
instance cf182 : ICF Tryz.prog 182 := ⟨Tryz.call182⟩
instance cf183 : ICF Tryz.prog 183 := ⟨Tryz.call183⟩
instance cf84 : ICF Tryz.prog 84 := ⟨Tryz.call84⟩
instance cf142 : ICF Tryz.prog 142 := ⟨Tryz.call142⟩
instance cf143 : ICF Tryz.prog 143 := ⟨Tryz.call143⟩
instance cf195 : ICF Tryz.prog 195 := ⟨Tryz.call195⟩
instance cf231 : ICF Tryz.prog 231 := ⟨Tryz.call231⟩
instance cf196 : ICF Tryz.prog 196 := ⟨Tryz.call196⟩
instance cf194 : ICF Tryz.prog 194 := ⟨Tryz.call194⟩
theorem ls86_2 {a : Method} : ∀ H e, rd86 H e a → e.cells.toList[2]? = some (.int .i64 a.Limit) := by
 intro H e h
 obtain ⟨_, rfl, _⟩ := h
 rfl
instance cf199 : ICF Tryz.prog 199 := ⟨Tryz.call199⟩
instance cf237 : ICF Tryz.prog 237 := ⟨Tryz.call237⟩
instance cf239 : ICF Tryz.prog 239 := ⟨Tryz.call239⟩
instance cf162 : ICF Tryz.prog 162 := ⟨Tryz.call162⟩
instance cf243 : ICF Tryz.prog 243 := ⟨Tryz.call243⟩
instance cf244 : ICF Tryz.prog 244 := ⟨Tryz.call244⟩
instance cf245 : ICF Tryz.prog 245 := ⟨Tryz.call245⟩
instance cf216 : ICF Tryz.prog 216 := ⟨Tryz.call216⟩
instance cf268 : ICF Tryz.prog 268 := ⟨Tryz.call268⟩
instance cf269 : ICF Tryz.prog 269 := ⟨Tryz.call269⟩
instance cf161 : ICF Tryz.prog 161 := ⟨Tryz.call161⟩
instance cf217 : ICF Tryz.prog 217 := ⟨Tryz.call217⟩
instance cf270 : ICF Tryz.prog 270 := ⟨Tryz.call270⟩
instance cf156 : ICF Tryz.prog 156 := ⟨Tryz.call156⟩
instance cf209 : ICF Tryz.prog 209 := ⟨Tryz.call209⟩
instance cf166 : ICF Tryz.prog 166 := ⟨Tryz.call166⟩
instance cf210 : ICF Tryz.prog 210 := ⟨Tryz.call210⟩
instance cf248 : ICF Tryz.prog 248 := ⟨Tryz.call248⟩
instance cf249 : ICF Tryz.prog 249 := ⟨Tryz.call249⟩
instance cf211 : ICF Tryz.prog 211 := ⟨Tryz.call211⟩
instance cf212 : ICF Tryz.prog 212 := ⟨Tryz.call212⟩
theorem hov250 : ∀ args w, (callFunc 250 args).run Tryz.prog w = ((Extern.SlicesOverlaps.overlaps #[139, 139] #[4] args).run Tryz.prog w).andThen fun v w' => .ok (.value v) w' := fun args w => run_callFunc_extern Tryz.func250 (by kernel_rfl) (by kernel_rfl) (by kernel_rfl) (e := Extern.SlicesOverlaps.overlaps #[139, 139] #[4]) (by kernel_rfl) args w
instance cf42 : ICF Tryz.prog 42 := ⟨Tryz.call42⟩
instance cf100 : ICF Tryz.prog 100 := ⟨Tryz.call100⟩
instance cf163 : ICF Tryz.prog 163 := ⟨Tryz.call163⟩
instance cf164 : ICF Tryz.prog 164 := ⟨Tryz.call164⟩
theorem hov218 : ∀ args w, (callFunc 218 args).run Tryz.prog w = ((Extern.SlicesOverlaps.overlaps #[52, 52] #[4] args).run Tryz.prog w).andThen fun v w' => .ok (.value v) w' := fun args w => run_callFunc_extern Tryz.func218 (by kernel_rfl) (by kernel_rfl) (by kernel_rfl) (e := Extern.SlicesOverlaps.overlaps #[52, 52] #[4]) (by kernel_rfl) args w
instance cf41 : ICF Tryz.prog 41 := ⟨Tryz.call41⟩
instance sl49 : ISL Tryz.prog 49 9 := ⟨by unfold SL; kernel_rfl⟩
instance ty9 : ITY Tryz.prog 9 1 16 (.string ⟨[].toArray⟩) := ⟨by unfold TY; kernel_rfl⟩
instance cf99 : ICF Tryz.prog 99 := ⟨Tryz.call99⟩
def lays156_ren : Go.Shelf.Ren := ⟨fun | 156 => 99 | 165 => 158 | 166 => 159 | 169 => 160 | 240 => 214 | 241 => 215 | 276 => 252 | 277 => 253 | n => n, fun | 31 => 49 | 9 => 9 | 3 => 3 | 4 => 4 | 0 => 0 | 20 => 20 | 72 => 191 | 76 => 195 | 70 => 189 | 37 => 160 | 75 => 194 | 127 => 235 | 164 => 255 | 5 => 5 | 80 => 197 | n => n, fun | n => n⟩
theorem lays156 : Go.Proofs.Lays.n156 Tryz.prog lays156_ren := {
 mixed := by kernel_rfl
 f156 := Tryz.func99.trans (congrArg some (by kernel_rfl))
 f165 := Tryz.func158.trans (congrArg some (by kernel_rfl))
 f166 := Tryz.func159.trans (congrArg some (by kernel_rfl))
 f169 := Tryz.func160.trans (congrArg some (by kernel_rfl))
 f240 := Tryz.func214.trans (congrArg some (by kernel_rfl))
 f241 := Tryz.func215.trans (congrArg some (by kernel_rfl))
 f276 := Tryz.func252.trans (congrArg some (by kernel_rfl))
 f277 := Tryz.func253.trans (congrArg some (by kernel_rfl))
 t0 := Tryz.underlying0
 a0 := Tryz.isAgg0
 z0 := Tryz.sizeOf0
 v0 := Tryz.zeroValue0
 t3 := Tryz.underlying3
 a3 := Tryz.isAgg3
 z3 := Tryz.sizeOf3
 v3 := Tryz.zeroValue3
 t4 := Tryz.underlying4
 a4 := Tryz.isAgg4
 z4 := Tryz.sizeOf4
 v4 := Tryz.zeroValue4
 t9 := Tryz.underlying9
 a9 := Tryz.isAgg9
 z9 := Tryz.sizeOf9
 v9 := Tryz.zeroValue9
 t20 := Tryz.underlying20
 a20 := Tryz.isAgg20
 z20 := Tryz.sizeOf20
 v20 := Tryz.zeroValue20
 t31 := Tryz.underlying49
 a31 := Tryz.isAgg49
 z31 := Tryz.sizeOf49
 v31 := Tryz.zeroValue49
 t37 := Tryz.underlying160
 a37 := Tryz.isAgg160
 z37 := Tryz.sizeOf160
 v37 := Tryz.zeroValue160
 t70 := Tryz.underlying189
 a70 := Tryz.isAgg189
 z70 := Tryz.sizeOf189
 v70 := Tryz.zeroValue189
 t72 := Tryz.underlying191
 a72 := Tryz.isAgg191
 z72 := Tryz.sizeOf191
 v72 := Tryz.zeroValue191
 t75 := Tryz.underlying194
 a75 := Tryz.isAgg194
 z75 := Tryz.sizeOf194
 v75 := Tryz.zeroValue194
 t76 := Tryz.underlying195
 a76 := Tryz.isAgg195
 z76 := Tryz.sizeOf195
 v76 := Tryz.zeroValue195
 t127 := Tryz.underlying235
 a127 := Tryz.isAgg235
 z127 := Tryz.sizeOf235
 v127 := Tryz.zeroValue235
 t164 := Tryz.underlying255
 a164 := Tryz.isAgg255
 z164 := Tryz.sizeOf255
 v164 := Tryz.zeroValue255 }
theorem extra : Go.Proofs.Builder.Extra Tryz.prog lays156_ren := {
 sizeBuilder := by kernel_rfl
 liesBuilder := by kernel_rfl
 t5 := Tryz.underlying5
 a5 := Tryz.isAgg5
 z5 := Tryz.sizeOf5
 v5 := Tryz.zeroValue5
 infoByte := by kernel_rfl
 cellsByte := by kernel_rfl
 sizeByte := by kernel_rfl
 neB5 := by decide }
instance cf98 : ICF Tryz.prog 98 := ⟨Tryz.call98⟩
instance cf157 : ICF Tryz.prog 157 := ⟨Tryz.call157⟩
instance cf64 : ICF Tryz.prog 64 := ⟨Tryz.call64⟩
instance cf126 : ICF Tryz.prog 126 := ⟨Tryz.call126⟩
def laysM171_ren : Go.Shelf.Ren := ⟨fun | 171 => 126 | 243 => 184 | 246 => 224 | 283 => 256 | 284 => 257 | 285 => 258 | 286 => 259 | 129 => 274 | 317 => 273 | 318 => 275 | 319 => 276 | 320 => 277 | 337 => 289 | 338 => 290 | n => n, fun | 3 => 3 | 9 => 9 | 2 => 2 | 4 => 4 | 171 => 258 | 0 => 0 | 53 => 259 | 37 => 160 | 5 => 5 | 173 => 262 | 212 => 270 | 51 => 271 | 20 => 20 | 213 => 272 | 46 => 266 | 232 => 289 | 233 => 290 | n => n, fun | 17 => 1 | 18 => 2 | 19 => 3 | n => n⟩
theorem laysM171 : Go.Proofs.LaysM.n171 Tryz.prog laysM171_ren := {
 mixed := by kernel_rfl
 f129 := Tryz.func274.trans (congrArg some (by kernel_rfl))
 f171 := Tryz.func126.trans (congrArg some (by kernel_rfl))
 f243 := Tryz.func184.trans (congrArg some (by kernel_rfl))
 f246 := Tryz.func224.trans (congrArg some (by kernel_rfl))
 f283 := Tryz.func256.trans (congrArg some (by kernel_rfl))
 f284 := Tryz.func257.trans (congrArg some (by kernel_rfl))
 f285 := Tryz.func258.trans (congrArg some (by kernel_rfl))
 f286 := Tryz.func259.trans (congrArg some (by kernel_rfl))
 f317 := Tryz.func273.trans (congrArg some (by kernel_rfl))
 f318 := Tryz.func275.trans (congrArg some (by kernel_rfl))
 f319 := Tryz.func276.trans (congrArg some (by kernel_rfl))
 f320 := Tryz.func277.trans (congrArg some (by kernel_rfl))
 f337 := Tryz.func289.trans (congrArg some (by kernel_rfl))
 f338 := Tryz.func290.trans (congrArg some (by kernel_rfl))
 t0 := Tryz.underlying0
 a0 := Tryz.isAgg0
 z0 := Tryz.sizeOf0
 v0 := Tryz.zeroValue0
 t2 := Tryz.underlying2
 a2 := Tryz.isAgg2
 z2 := Tryz.sizeOf2
 v2 := Tryz.zeroValue2
 t3 := Tryz.underlying3
 a3 := Tryz.isAgg3
 z3 := Tryz.sizeOf3
 v3 := Tryz.zeroValue3
 t4 := Tryz.underlying4
 a4 := Tryz.isAgg4
 z4 := Tryz.sizeOf4
 v4 := Tryz.zeroValue4
 t5 := Tryz.underlying5
 a5 := Tryz.isAgg5
 z5 := Tryz.sizeOf5
 v5 := Tryz.zeroValue5
 t9 := Tryz.underlying9
 a9 := Tryz.isAgg9
 z9 := Tryz.sizeOf9
 v9 := Tryz.zeroValue9
 t20 := Tryz.underlying20
 a20 := Tryz.isAgg20
 z20 := Tryz.sizeOf20
 v20 := Tryz.zeroValue20
 t37 := Tryz.underlying160
 a37 := Tryz.isAgg160
 z37 := Tryz.sizeOf160
 v37 := Tryz.zeroValue160
 t46 := Tryz.underlying266
 a46 := Tryz.isAgg266
 z46 := Tryz.sizeOf266
 v46 := Tryz.zeroValue266
 t51 := Tryz.underlying271
 a51 := Tryz.isAgg271
 z51 := Tryz.sizeOf271
 v51 := Tryz.zeroValue271
 t53 := Tryz.underlying259
 a53 := Tryz.isAgg259
 z53 := Tryz.sizeOf259
 v53 := Tryz.zeroValue259
 t171 := Tryz.underlying258
 a171 := Tryz.isAgg258
 z171 := Tryz.sizeOf258
 v171 := Tryz.zeroValue258
 t173 := Tryz.underlying262
 a173 := Tryz.isAgg262
 z173 := Tryz.sizeOf262
 v173 := Tryz.zeroValue262
 t212 := Tryz.underlying270
 a212 := Tryz.isAgg270
 z212 := Tryz.sizeOf270
 v212 := Tryz.zeroValue270
 t213 := Tryz.underlying272
 a213 := Tryz.isAgg272
 z213 := Tryz.sizeOf272
 t232 := Tryz.underlying289
 a232 := Tryz.isAgg289
 z232 := Tryz.sizeOf289
 v232 := Tryz.zeroValue289
 t233 := Tryz.underlying290
 a233 := Tryz.isAgg290
 z233 := Tryz.sizeOf290
 v233 := Tryz.zeroValue290
 g17 := by kernel_rfl
 g18 := by kernel_rfl
 g19 := by kernel_rfl
 i0 := by kernel_rfl
 i2 := by kernel_rfl
 i3 := by kernel_rfl
 i4 := by kernel_rfl
 i5 := by kernel_rfl
 i9 := by kernel_rfl
 i20 := by kernel_rfl
 i37 := by kernel_rfl
 i46 := by kernel_rfl
 i51 := by kernel_rfl
 i53 := by kernel_rfl
 i171 := by kernel_rfl
 i173 := by kernel_rfl
 i212 := by kernel_rfl
 i232 := by kernel_rfl
 i233 := by kernel_rfl
 m17 := by kernel_rfl
 m18 := by kernel_rfl
 m19 := by kernel_rfl }
instance cf43 : ICF Tryz.prog 43 := ⟨Tryz.call43⟩
theorem ni49 : NotInt Tryz.prog 49 := .inr ⟨9, by kernel_rfl⟩
instance cf44 : ICF Tryz.prog 44 := ⟨Tryz.call44⟩
instance cf101 : ICF Tryz.prog 101 := ⟨Tryz.call101⟩
instance cf167 : ICF Tryz.prog 167 := ⟨Tryz.call167⟩
instance cf45 : ICF Tryz.prog 45 := ⟨Tryz.call45⟩
instance cf13 : ICF Tryz.prog 13 := ⟨Tryz.call13⟩
instance cf14 : ICF Tryz.prog 14 := ⟨Tryz.call14⟩
instance cf46 : ICF Tryz.prog 46 := ⟨Tryz.call46⟩
instance cf15 : ICF Tryz.prog 15 := ⟨Tryz.call15⟩
instance cf47 : ICF Tryz.prog 47 := ⟨Tryz.call47⟩
instance cf102 : ICF Tryz.prog 102 := ⟨Tryz.call102⟩
instance cf29 : ICF Tryz.prog 29 := ⟨Tryz.call29⟩
instance cf86 : ICF Tryz.prog 86 := ⟨Tryz.call86⟩
theorem fa74_0 : fieldAt Tryz.prog 74 0 = some (3, 0, 1) := by kernel_rfl
theorem fa74_1 : fieldAt Tryz.prog 74 1 = some (22, 1, 1) := by kernel_rfl
theorem fa74_2 : fieldAt Tryz.prog 74 2 = some (3, 2, 1) := by kernel_rfl
theorem fa74_3 : fieldAt Tryz.prog 74 3 = some (3, 3, 1) := by kernel_rfl
theorem fa74_4 : fieldAt Tryz.prog 74 4 = some (3, 4, 1) := by kernel_rfl
def wf74 (a : Method) : Prop := wfInt a.Rel ∧ (wfSl wfInt) a.Inputs ∧ wfInt a.Limit ∧ wfInt a.Cost ∧ wfInt a.Quota
theorem sh74 : ∀ H v a, rd74 H v a → isAgV v = aggT Tryz.prog 74 := by
 intro H v a h
 obtain ⟨v1, rfl, _⟩ := h
 kernel_rfl
theorem op74 : Opn Tryz.prog 74 rd74 wf74 := by
 intro T enc w fuel cs x h hw ρ H hr hF
 have hl := opn_len fa74_0 h (n := 5) ty74.h.sz.cells
 obtain ⟨ρ0, H0, av0, a0, r0, f0, u0, i0, v0, q0, w0⟩ := opn_field fa74_0 h hw (Opn.int (by kernel_rfl)) hr hF
 obtain ⟨ρ1, H1, av1, a1, r1, f1, u1, i1, v1, q1, w1⟩ := opn_field fa74_1 h hw (Opn.slice (s := 1) (by kernel_rfl) (by kernel_rfl) (by decide) (Nat.lt_of_lt_of_le (by decide) (Nat.le_of_eq (show 8 = _ from by kernel_rfl))) (Opn.int (by kernel_rfl))) r0 f0
 obtain ⟨ρ2, H2, av2, a2, r2, f2, u2, i2, v2, q2, w2⟩ := opn_field fa74_2 h hw (Opn.int (by kernel_rfl)) r1 f1
 obtain ⟨ρ3, H3, av3, a3, r3, f3, u3, i3, v3, q3, w3⟩ := opn_field fa74_3 h hw (Opn.int (by kernel_rfl)) r2 f2
 obtain ⟨ρ4, H4, av4, a4, r4, f4, u4, i4, v4, q4, w4⟩ := opn_field fa74_4 h hw (Opn.int (by kernel_rfl)) r3 f3
 obtain rfl : av0 = (.int .i64 a0) := q0
 replace v0 := v0.up (((u1.trans u2).trans u3).trans u4)
 obtain ⟨sa1, sm1, rfl⟩ := RdS.len q1
 replace v1 := v1.one rfl
 replace v1 := v1.up ((u2.trans u3).trans u4)
 obtain rfl : av2 = (.int .i64 a2) := q2
 replace v2 := v2.up (u3.trans u4)
 obtain rfl : av3 = (.int .i64 a3) := q3
 replace v3 := v3.up u4
 obtain rfl : av4 = (.int .i64 a4) := q4
 have hv := RelVs.field (o := 0) v0 (RelVs.field (o := 1) v1 (RelVs.field (o := 2) v2 (RelVs.field (o := 3) v3 (RelVs.field (o := 4) v4 (RelVs.end hl)))))
 rw [List.drop_zero] at hv
 refine ⟨ρ4, H4, (.agg [(.int .i64 a0), (.slice sa1 a1.length sm1), (.int .i64 a2), (.int .i64 a3), (.int .i64 a4)].toArray : Value), ({ Rel := a0, Inputs := a1, Limit := a2, Cost := a3, Quota := a4 } : Method), r4, f4, ((((u0.trans u1).trans u2).trans u3).trans u4), ((((i0.trans i1).trans i2).trans i3).trans i4), ?_, ?_, w0, w1, w2, w3, w4⟩
 · exact hv
 · exact ⟨⟨sa1, _, sm1⟩, rfl, (Mono.up q1 ((i2.trans i3).trans i4))⟩
def rd77 (H : AHeap) (v : Value) (a : Access) : Prop := ∃ v0 : Sv, v = .agg [(.int .i64 a.Method), v0.v].toArray ∧ (RdS 3 rdInt) H v0.v a.Values
instance : Mono rd77 := ⟨fun h hi => by
 obtain ⟨v0, h, h0⟩ := h
 exact ⟨v0, h, Mono.up h0 hi⟩⟩
instance : Cells rd77 2 := ⟨fun h => by
 obtain ⟨v0, rfl, h0⟩ := h
 exact ⟨rfl, rfl⟩⟩
theorem fa77_0 : fieldAt Tryz.prog 77 0 = some (3, 0, 1) := by kernel_rfl
theorem fa77_1 : fieldAt Tryz.prog 77 1 = some (22, 1, 1) := by kernel_rfl
def wf77 (a : Access) : Prop := wfInt a.Method ∧ (wfSl wfInt) a.Values
theorem sh77 : ∀ H v a, rd77 H v a → isAgV v = aggT Tryz.prog 77 := by
 intro H v a h
 obtain ⟨v1, rfl, _⟩ := h
 kernel_rfl
theorem op77 : Opn Tryz.prog 77 rd77 wf77 := by
 intro T enc w fuel cs x h hw ρ H hr hF
 have hl := opn_len fa77_0 h (n := 2) ty77.h.sz.cells
 obtain ⟨ρ0, H0, av0, a0, r0, f0, u0, i0, v0, q0, w0⟩ := opn_field fa77_0 h hw (Opn.int (by kernel_rfl)) hr hF
 obtain ⟨ρ1, H1, av1, a1, r1, f1, u1, i1, v1, q1, w1⟩ := opn_field fa77_1 h hw (Opn.slice (s := 1) (by kernel_rfl) (by kernel_rfl) (by decide) (Nat.lt_of_lt_of_le (by decide) (Nat.le_of_eq (show 8 = _ from by kernel_rfl))) (Opn.int (by kernel_rfl))) r0 f0
 obtain rfl : av0 = (.int .i64 a0) := q0
 replace v0 := v0.up u1
 obtain ⟨sa1, sm1, rfl⟩ := RdS.len q1
 replace v1 := v1.one rfl
 have hv := RelVs.field (o := 0) v0 (RelVs.field (o := 1) v1 (RelVs.end hl))
 rw [List.drop_zero] at hv
 refine ⟨ρ1, H1, (.agg [(.int .i64 a0), (.slice sa1 a1.length sm1)].toArray : Value), ({ Method := a0, Values := a1 } : Access), r1, f1, (u0.trans u1), (i0.trans i1), ?_, ?_, w0, w1⟩
 · exact hv
 · exact ⟨⟨sa1, _, sm1⟩, rfl, q1⟩
theorem fa123_0 : fieldAt Tryz.prog 123 0 = some (3, 0, 1) := by kernel_rfl
theorem fa123_1 : fieldAt Tryz.prog 123 1 = some (22, 1, 1) := by kernel_rfl
def wf123 (a : Fact) : Prop := wfInt a.Rel ∧ (wfSl wfInt) a.Values
theorem sh123 : ∀ H v a, rd123 H v a → isAgV v = aggT Tryz.prog 123 := by
 intro H v a h
 obtain ⟨v1, rfl, _⟩ := h
 kernel_rfl
theorem op123 : Opn Tryz.prog 123 rd123 wf123 := by
 intro T enc w fuel cs x h hw ρ H hr hF
 have hl := opn_len fa123_0 h (n := 2) ty123.h.sz.cells
 obtain ⟨ρ0, H0, av0, a0, r0, f0, u0, i0, v0, q0, w0⟩ := opn_field fa123_0 h hw (Opn.int (by kernel_rfl)) hr hF
 obtain ⟨ρ1, H1, av1, a1, r1, f1, u1, i1, v1, q1, w1⟩ := opn_field fa123_1 h hw (Opn.slice (s := 1) (by kernel_rfl) (by kernel_rfl) (by decide) (Nat.lt_of_lt_of_le (by decide) (Nat.le_of_eq (show 8 = _ from by kernel_rfl))) (Opn.int (by kernel_rfl))) r0 f0
 obtain rfl : av0 = (.int .i64 a0) := q0
 replace v0 := v0.up u1
 obtain ⟨sa1, sm1, rfl⟩ := RdS.len q1
 replace v1 := v1.one rfl
 have hv := RelVs.field (o := 0) v0 (RelVs.field (o := 1) v1 (RelVs.end hl))
 rw [List.drop_zero] at hv
 refine ⟨ρ1, H1, (.agg [(.int .i64 a0), (.slice sa1 a1.length sm1)].toArray : Value), ({ Rel := a0, Values := a1 } : Fact), r1, f1, (u0.trans u1), (i0.trans i1), ?_, ?_, w0, w1⟩
 · exact hv
 · exact ⟨⟨sa1, _, sm1⟩, rfl, q1⟩
theorem fa79_0 : fieldAt Tryz.prog 79 0 = some (77, 0, 2) := by kernel_rfl
theorem fa79_1 : fieldAt Tryz.prog 79 1 = some (38, 2, 1) := by kernel_rfl
def wf79 (a : Told) : Prop := wf77 a.Access ∧ (wfSl wf123) a.Facts
theorem sh79 : ∀ H v a, rd79 H v a → isAgV v = aggT Tryz.prog 79 := by
 intro H v a h
 obtain ⟨v1, v2, rfl, _, _⟩ := h
 kernel_rfl
theorem op79 : Opn Tryz.prog 79 rd79 wf79 := by
 intro T enc w fuel cs x h hw ρ H hr hF
 have hl := opn_len fa79_0 h (n := 3) ty79.h.sz.cells
 obtain ⟨ρ0, H0, av0, a0, r0, f0, u0, i0, v0, q0, w0⟩ := opn_field fa79_0 h hw op77 hr hF
 obtain ⟨ρ1, H1, av1, a1, r1, f1, u1, i1, v1, q1, w1⟩ := opn_field fa79_1 h hw (Opn.slice (s := 2) (by kernel_rfl) (by kernel_rfl) (by decide) (Nat.lt_of_lt_of_le (by decide) (Nat.le_of_eq (show 32 = _ from by kernel_rfl))) op123) r0 f0
 obtain ⟨xav0_0, rfl, gav0_0⟩ := q0
 replace v0 := v0.up u1
 obtain ⟨sa1, sm1, rfl⟩ := RdS.len q1
 replace v1 := v1.one rfl
 have hv := RelVs.field (o := 0) v0 (RelVs.field (o := 2) v1 (RelVs.end hl))
 rw [List.drop_zero] at hv
 refine ⟨ρ1, H1, (.agg [(.int .i64 a0.Method), xav0_0.v, (.slice sa1 a1.length sm1)].toArray : Value), ({ Access := a0, Facts := a1 } : Told), r1, f1, (u0.trans u1), (i0.trans i1), ?_, ?_, w0, w1⟩
 · exact hv
 · exact ⟨xav0_0, ⟨sa1, _, sm1⟩, rfl, (Mono.up gav0_0 i1), q1⟩
def l_szIntS (a_a : List Int) (a_left : Int) : Option (Int) :=
 if (decide (((IntKind.i64.wrap (a_left - (a_a.length : Int))) : Int) < 0)) then (
   some (-1))
 else (
   some (IntKind.i64.wrap (a_left - (a_a.length : Int))))
theorem l_szIntS_ok (a_a : List Int) (v0_0 : Sv) (a_left : Int) (R : Int) (hF : l_szIntS a_a a_left = some R) :
   Fw.Spec Tryz.prog 48 [v0_0.v, (.int .i64 a_left)] [crd (RdS 3 rdInt) v0_0.v a_a] (fun _ : Unit => (.int .i64 R)) (fun _ => []) := by
 refine Se 12 Tryz.func48 [.tmp 4] ?_
 intro H0 F0
 unfold l_szIntS at hF
 iterate 15 refine au ?_
 refine Ci hF (fun hb1 hF => ?_) (fun hb1 hF => ?_)
 · iterate 4 refine au ?_
   cases hF
   exact Er ()
 iterate 6 refine au ?_
 cases hF
 exact Er ()
def l_szMethod (a_a : Method) (a_left : Int) : Option (Int) :=
 (l_szIntS a_a.Inputs a_left).bind fun r2 =>
 if (decide ((r2 : Int) < 0)) then (
   some (-1))
 else (
   some r2)
theorem l_szMethod_ok (a_a : Method) (v0_1 : Sv) (a_left : Int) (R : Int) (hF : l_szMethod a_a a_left = some R) :
   Fw.Spec Tryz.prog 30 [(.agg [(.int .i64 a_a.Rel), v0_1.v, (.int .i64 a_a.Limit), (.int .i64 a_a.Cost), (.int .i64 a_a.Quota)].toArray), (.int .i64 a_left)] [crd (RdS 3 rdInt) v0_1.v a_a.Inputs] (fun _ : Unit => (.int .i64 R)) (fun _ => []) := by
 refine Se 12 Tryz.func30 [.tmp 4] ?_
 intro H0 F0
 unfold l_szMethod at hF
 refine au ?_
 refine AbR (fun k1 => ?_)
 iterate 6 refine au ?_
 refine bnd hF fun r2 hx3 hF => Cx0 (l_szIntS_ok _ _ _ _ hx3) (fun _ => ?_)
 iterate 7 refine au ?_
 refine Ci hF (fun hb5 hF => ?_) (fun hb5 hF => ?_)
 · iterate 4 refine au ?_
   cases hF
   exact Er ()
 iterate 6 refine au ?_
 cases hF
 exact Er ()
def l_szMethodS_L1 : List Method → Nat → Int → Option (Int)
 | [], k5, c1 => some c1
 | x7 :: rest6, k5, c1 => (l_szMethod x7 c1).bind fun r17 =>
   if (decide ((r17 : Int) < 0)) then (
     some (-1))
   else (
     l_szMethodS_L1 rest6 (k5 + 1) r17)
def l_szMethodS (a_a : List Method) (a_left : Int) : Option (Int) :=
 if (decide (((IntKind.i64.wrap (a_left - (a_a.length : Int))) : Int) < 0)) then (
   some (-1))
 else (
   l_szMethodS_L1 a_a 0 (IntKind.i64.wrap (a_left - (a_a.length : Int))))
theorem l_szMethodS_ok (a_a : List Method) (v0_0 : Sv) (a_left : Int) (R : Int) (hF : l_szMethodS a_a a_left = some R) :
   Fw.Spec Tryz.prog 6 [v0_0.v, (.int .i64 a_left)] [crd (RdS 74 rd74) v0_0.v a_a] (fun _ : Unit => (.int .i64 R)) (fun _ => []) := by
 refine Se 27 Tryz.func6 [.tmp 4] ?_
 intro H0 F0
 unfold l_szMethodS at hF
 iterate 15 refine au ?_
 refine Ci hF (fun hb22 hF => ?_) (fun hb22 hF => ?_)
 · iterate 4 refine au ?_
   cases hF
   exact Er ()
 iterate 5 refine au ?_
 refine CW_block (CW_loop (m := a_a.length) (fun m3 f' cs' => ∃ (g : Fr) (k5 : Nat) (rest6 : List Method) (c1 : Int), m3 = rest6.length ∧ f' = updL g [(0, v0_0.v), (1, (.int .i64 c1)), (5, (.int .i64 (k5 : Int)))] ∧ List.drop k5 a_a = rest6 ∧ Ent cs' [crd (RdS 74 rd74) v0_0.v a_a] ∧ l_szMethodS_L1 rest6 k5 c1 = some R) ⟨_, 0, _, _, rfl, eqA, rfl, entA, hF⟩ ?_)
 rintro m3 _ _ ⟨g4, k5, rest6, c1, rfl, rfl, hd8, hE, hF⟩
 refine Kb hE a_a (fun hbd13 => ?_)
 rcases rest6 with _ | ⟨x7, rest6⟩
 · have hk9 := dn hd8
   rw [l_szMethodS_L1] at hF
   iterate 7 refine au ?_
   refine CdF ?_
   iterate 9 refine au ?_
   cases hF
   exact Er ()
 obtain ⟨hk9, hx10, hd11⟩ := drop_cons hd8
 rw [l_szMethodS_L1] at hF
 iterate 7 refine au ?_
 refine CdT ?_
 iterate 5 refine au ?_
 refine Ai hx10 (fun k14 j15 => ?_)
 refine AlA1 (ul74_0_74 x7) la74_0_74 (fun p16 => ?_)
 refine au ?_
 refine bnd hF fun r17 hx18 hF => Cx0 (l_szMethod_ok _ _ _ _ hx18) (fun _ => ?_)
 iterate 6 refine au ?_
 refine Ci hF (fun hb21 hF => ?_) (fun hb21 hF => ?_)
 · iterate 4 refine au ?_
   cases hF
   exact Er ()
 iterate 6 refine au ?_
 rw [wk k5]
 exact ⟨_, Nat.lt_succ_self _, _, k5 + 1, rest6, _, rfl, eqA, hd11, entA, hF⟩
def l_szAccess (a_a : Access) (a_left : Int) : Option (Int) :=
 (l_szIntS a_a.Values a_left).bind fun r2 =>
 if (decide ((r2 : Int) < 0)) then (
   some (-1))
 else (
   some r2)
theorem l_szAccess_ok (a_a : Access) (v0_1 : Sv) (a_left : Int) (R : Int) (hF : l_szAccess a_a a_left = some R) :
   Fw.Spec Tryz.prog 87 [(.agg [(.int .i64 a_a.Method), v0_1.v].toArray), (.int .i64 a_left)] [crd (RdS 3 rdInt) v0_1.v a_a.Values] (fun _ : Unit => (.int .i64 R)) (fun _ => []) := by
 refine Se 12 Tryz.func87 [.tmp 4] ?_
 intro H0 F0
 unfold l_szAccess at hF
 refine au ?_
 refine AbR (fun k1 => ?_)
 iterate 6 refine au ?_
 refine bnd hF fun r2 hx3 hF => Cx0 (l_szIntS_ok _ _ _ _ hx3) (fun _ => ?_)
 iterate 7 refine au ?_
 refine Ci hF (fun hb5 hF => ?_) (fun hb5 hF => ?_)
 · iterate 4 refine au ?_
   cases hF
   exact Er ()
 iterate 6 refine au ?_
 cases hF
 exact Er ()
def l_szFact (a_a : Fact) (a_left : Int) : Option (Int) :=
 (l_szIntS a_a.Values a_left).bind fun r2 =>
 if (decide ((r2 : Int) < 0)) then (
   some (-1))
 else (
   some r2)
theorem l_szFact_ok (a_a : Fact) (v0_1 : Sv) (a_left : Int) (R : Int) (hF : l_szFact a_a a_left = some R) :
   Fw.Spec Tryz.prog 78 [(.agg [(.int .i64 a_a.Rel), v0_1.v].toArray), (.int .i64 a_left)] [crd (RdS 3 rdInt) v0_1.v a_a.Values] (fun _ : Unit => (.int .i64 R)) (fun _ => []) := by
 refine Se 12 Tryz.func78 [.tmp 4] ?_
 intro H0 F0
 unfold l_szFact at hF
 refine au ?_
 refine AbR (fun k1 => ?_)
 iterate 6 refine au ?_
 refine bnd hF fun r2 hx3 hF => Cx0 (l_szIntS_ok _ _ _ _ hx3) (fun _ => ?_)
 iterate 7 refine au ?_
 refine Ci hF (fun hb5 hF => ?_) (fun hb5 hF => ?_)
 · iterate 4 refine au ?_
   cases hF
   exact Er ()
 iterate 6 refine au ?_
 cases hF
 exact Er ()
def l_szFactS_L1 : List Fact → Nat → Int → Option (Int)
 | [], k5, c1 => some c1
 | x7 :: rest6, k5, c1 => (l_szFact x7 c1).bind fun r17 =>
   if (decide ((r17 : Int) < 0)) then (
     some (-1))
   else (
     l_szFactS_L1 rest6 (k5 + 1) r17)
def l_szFactS (a_a : List Fact) (a_left : Int) : Option (Int) :=
 if (decide (((IntKind.i64.wrap (a_left - (a_a.length : Int))) : Int) < 0)) then (
   some (-1))
 else (
   l_szFactS_L1 a_a 0 (IntKind.i64.wrap (a_left - (a_a.length : Int))))
theorem l_szFactS_ok (a_a : List Fact) (v0_0 : Sv) (a_left : Int) (R : Int) (hF : l_szFactS a_a a_left = some R) :
   Fw.Spec Tryz.prog 25 [v0_0.v, (.int .i64 a_left)] [crd (RdS 123 rd123) v0_0.v a_a] (fun _ : Unit => (.int .i64 R)) (fun _ => []) := by
 refine Se 27 Tryz.func25 [.tmp 4] ?_
 intro H0 F0
 unfold l_szFactS at hF
 iterate 15 refine au ?_
 refine Ci hF (fun hb22 hF => ?_) (fun hb22 hF => ?_)
 · iterate 4 refine au ?_
   cases hF
   exact Er ()
 iterate 5 refine au ?_
 refine CW_block (CW_loop (m := a_a.length) (fun m3 f' cs' => ∃ (g : Fr) (k5 : Nat) (rest6 : List Fact) (c1 : Int), m3 = rest6.length ∧ f' = updL g [(0, v0_0.v), (1, (.int .i64 c1)), (5, (.int .i64 (k5 : Int)))] ∧ List.drop k5 a_a = rest6 ∧ Ent cs' [crd (RdS 123 rd123) v0_0.v a_a] ∧ l_szFactS_L1 rest6 k5 c1 = some R) ⟨_, 0, _, _, rfl, eqA, rfl, entA, hF⟩ ?_)
 rintro m3 _ _ ⟨g4, k5, rest6, c1, rfl, rfl, hd8, hE, hF⟩
 refine Kb hE a_a (fun hbd13 => ?_)
 rcases rest6 with _ | ⟨x7, rest6⟩
 · have hk9 := dn hd8
   rw [l_szFactS_L1] at hF
   iterate 7 refine au ?_
   refine CdF ?_
   iterate 9 refine au ?_
   cases hF
   exact Er ()
 obtain ⟨hk9, hx10, hd11⟩ := drop_cons hd8
 rw [l_szFactS_L1] at hF
 iterate 7 refine au ?_
 refine CdT ?_
 iterate 5 refine au ?_
 refine Ai hx10 (fun k14 j15 => ?_)
 refine AlA1 (ul123_0_123 x7) la123_0_123 (fun p16 => ?_)
 refine au ?_
 refine bnd hF fun r17 hx18 hF => Cx0 (l_szFact_ok _ _ _ _ hx18) (fun _ => ?_)
 iterate 6 refine au ?_
 refine Ci hF (fun hb21 hF => ?_) (fun hb21 hF => ?_)
 · iterate 4 refine au ?_
   cases hF
   exact Er ()
 iterate 6 refine au ?_
 rw [wk k5]
 exact ⟨_, Nat.lt_succ_self _, _, k5 + 1, rest6, _, rfl, eqA, hd11, entA, hF⟩
def l_szTold (a_a : Told) (a_left : Int) : Option (Int) :=
 (l_szAccess a_a.Access a_left).bind fun r2 =>
 if (decide ((r2 : Int) < 0)) then (
   some (-1))
 else (
   (l_szFactS a_a.Facts r2).bind fun r5 =>
   if (decide ((r5 : Int) < 0)) then (
     some (-1))
   else (
     some r5))
theorem l_szTold_ok (a_a : Told) (v0_1 : Sv) (v0_2 : Sv) (a_left : Int) (R : Int) (hF : l_szTold a_a a_left = some R) :
   Fw.Spec Tryz.prog 31 [(.agg [(.int .i64 a_a.Access.Method), v0_1.v, v0_2.v].toArray), (.int .i64 a_left)] [crd (RdS 3 rdInt) v0_1.v a_a.Access.Values, crd (RdS 123 rd123) v0_2.v a_a.Facts] (fun _ : Unit => (.int .i64 R)) (fun _ => []) := by
 refine Se 18 Tryz.func31 [.tmp 4] ?_
 intro H0 F0
 unfold l_szTold at hF
 refine au ?_
 refine AbR (fun k1 => ?_)
 iterate 4 refine au ?_
 refine C_at .h (fun hp => V_loadA (s := 2) (l := [(.int .i64 a_a.Access.Method), v0_1.v]) ag77.h ty77.h.sz (.tmp rfl rfl) hp.2 rfl (by decide) (Nat.le_of_ble_eq_true rfl) rfl) ?_
 refine au ?_
 refine bnd hF fun r2 hx3 hF => Cx0 (l_szAccess_ok _ _ _ _ hx3) (fun _ => ?_)
 iterate 7 refine au ?_
 refine Ci hF (fun hb9 hF => ?_) (fun hb9 hF => ?_)
 · iterate 4 refine au ?_
   cases hF
   exact Er ()
 iterate 5 refine au ?_
 refine bnd hF fun r5 hx6 hF => Cx0 (l_szFactS_ok _ _ _ _ hx6) (fun _ => ?_)
 iterate 7 refine au ?_
 refine Ci hF (fun hb8 hF => ?_) (fun hb8 hF => ?_)
 · iterate 4 refine au ?_
   cases hF
   exact Er ()
 iterate 6 refine au ?_
 cases hF
 exact Er ()
def l_szToldS_L1 : List Told → Nat → Int → Option (Int)
 | [], k5, c1 => some c1
 | x7 :: rest6, k5, c1 => (l_szTold x7 c1).bind fun r17 =>
   if (decide ((r17 : Int) < 0)) then (
     some (-1))
   else (
     l_szToldS_L1 rest6 (k5 + 1) r17)
def l_szToldS (a_a : List Told) (a_left : Int) : Option (Int) :=
 if (decide (((IntKind.i64.wrap (a_left - (a_a.length : Int))) : Int) < 0)) then (
   some (-1))
 else (
   l_szToldS_L1 a_a 0 (IntKind.i64.wrap (a_left - (a_a.length : Int))))
theorem l_szToldS_ok (a_a : List Told) (v0_0 : Sv) (a_left : Int) (R : Int) (hF : l_szToldS a_a a_left = some R) :
   Fw.Spec Tryz.prog 7 [v0_0.v, (.int .i64 a_left)] [crd (RdS 79 rd79) v0_0.v a_a] (fun _ : Unit => (.int .i64 R)) (fun _ => []) := by
 refine Se 27 Tryz.func7 [.tmp 4] ?_
 intro H0 F0
 unfold l_szToldS at hF
 iterate 15 refine au ?_
 refine Ci hF (fun hb22 hF => ?_) (fun hb22 hF => ?_)
 · iterate 4 refine au ?_
   cases hF
   exact Er ()
 iterate 5 refine au ?_
 refine CW_block (CW_loop (m := a_a.length) (fun m3 f' cs' => ∃ (g : Fr) (k5 : Nat) (rest6 : List Told) (c1 : Int), m3 = rest6.length ∧ f' = updL g [(0, v0_0.v), (1, (.int .i64 c1)), (5, (.int .i64 (k5 : Int)))] ∧ List.drop k5 a_a = rest6 ∧ Ent cs' [crd (RdS 79 rd79) v0_0.v a_a] ∧ l_szToldS_L1 rest6 k5 c1 = some R) ⟨_, 0, _, _, rfl, eqA, rfl, entA, hF⟩ ?_)
 rintro m3 _ _ ⟨g4, k5, rest6, c1, rfl, rfl, hd8, hE, hF⟩
 refine Kb hE a_a (fun hbd13 => ?_)
 rcases rest6 with _ | ⟨x7, rest6⟩
 · have hk9 := dn hd8
   rw [l_szToldS_L1] at hF
   iterate 7 refine au ?_
   refine CdF ?_
   iterate 9 refine au ?_
   cases hF
   exact Er ()
 obtain ⟨hk9, hx10, hd11⟩ := drop_cons hd8
 rw [l_szToldS_L1] at hF
 iterate 7 refine au ?_
 refine CdT ?_
 iterate 5 refine au ?_
 refine Ai hx10 (fun k14 j15 => ?_)
 refine AlA2 (ul79_0_79 x7) la79_0_79 (fun p16 => ?_)
 refine au ?_
 refine bnd hF fun r17 hx18 hF => Cx0 (l_szTold_ok _ _ _ _ _ hx18) (fun _ => ?_)
 iterate 6 refine au ?_
 refine Ci hF (fun hb21 hF => ?_) (fun hb21 hF => ?_)
 · iterate 4 refine au ?_
   cases hF
   exact Er ()
 iterate 6 refine au ?_
 rw [wk k5]
 exact ⟨_, Nat.lt_succ_self _, _, k5 + 1, rest6, _, rfl, eqA, hd11, entA, hF⟩
def l_toIntS_L1 : List Int → Nat → (List Int) → Option ((List Int))
 | [], k32, c27 => some c27
 | x34 :: rest33, k32, c27 => (chk (decide (0 ≤ (k32 : Int)) && decide ((k32 : Int) < (c27.length : Int)))).bind fun u46 =>
   (some (c27.set ((k32 : Int)).toNat x34)).bind fun z48 =>
   l_toIntS_L1 rest33 (k32 + 1) z48
def l_toIntS (a_a : List Int) : Option ((List Int)) :=
 (mkz (a_a.length : Int) (0 : Int)).bind fun z1 =>
 l_toIntS_L1 a_a 0 z1
theorem l_toIntS_ok (a_a : List Int) (v0_0 : Sv) (R : (List Int)) (hF : l_toIntS a_a = some R) :
   Fw.Spec Tryz.prog 9 [v0_0.v] [crd (RdS 3 rdInt) v0_0.v a_a] (fun p : Sv × List Nat => p.1.v) (fun p => [cown (OwnS 3 (roE rdInt)) p.2 p.1.v R]) := by
 refine Se 22 Tryz.func9 [.tmp 2] ?_
 intro H0 F0
 unfold l_toIntS at hF
 iterate 6 refine au ?_
 refine bnd hF fun z1 hx2 hF => ?_
 have hm3 := mkz_some hx2
 refine C_new rfl (N_makeSlice (g := true) (c := (a_a.length : Int)) sl22.h ty3.h rfl rfl (by decide) (.tmp rfl rfl) hm3.2.1 hm3.2.2) (fun k4 => ?_)
 refine Cv1 (.cons .h .nil) (own_make (Ro := (roE rdInt)) (E := 3) (a := (0 : Int)) hx2 (fun _ => ⟨rfl, rfl⟩)) ?_
 iterate 6 refine au ?_
 refine CW_block (CW_loop (m := a_a.length) (fun m30 f' cs' => ∃ (g : Fr) (k32 : Nat) (rest33 : List Int) (c27 : List Int) (F28 : List Nat), m30 = rest33.length ∧ f' = updL g [(0, v0_0.v), (3, (.slice (some ⟨k4, 0, none⟩) (a_a.length : Int).toNat 1)), (4, (.int .i64 (k32 : Int)))] ∧ List.drop k32 a_a = rest33 ∧ Ent cs' [crd (RdS 3 rdInt) v0_0.v a_a, cown (OwnS 3 (roE rdInt)) F28 (.slice (some ⟨k4, 0, none⟩) (a_a.length : Int).toNat 1) c27] ∧ l_toIntS_L1 rest33 k32 c27 = some R) ⟨_, 0, _, _, [k4], rfl, eqA, rfl, entA, hF⟩ ?_)
 rintro m30 _ _ ⟨g31, k32, rest33, c27, F28, rfl, rfl, hd35, hE, hF⟩
 refine Kb hE a_a (fun hbd40 => ?_)
 rcases rest33 with _ | ⟨x34, rest33⟩
 · have hk36 := dn hd35
   rw [l_toIntS_L1] at hF
   iterate 7 refine au ?_
   refine CdF ?_
   iterate 9 refine au ?_
   cases hF
   exact Er (⟨(some ⟨k4, 0, none⟩), (a_a.length : Int).toNat, 1⟩, F28)
 obtain ⟨hk36, hx37, hd38⟩ := drop_cons hd35
 rw [l_toIntS_L1] at hF
 iterate 7 refine au ?_
 refine CdT ?_
 iterate 7 refine au ?_
 refine Ai hx37 (fun k41 j42 => ?_)
 refine Al ls3_0 ?_
 refine bnd hF fun u46 hx47 hF => ?_
 have hi45 := chk_some hx47
 refine C_idxO sl22.h ty3.h.sz (.tmp rfl rfl) (.tmp rfl rfl) (.t (.t .h)) hi45 (fun k43 hk44 => ?_)
 refine bnd hF fun z48 hx49 hF => ?_
 replace hx49 := Option.some.inj hx49
 refine C_x1 (.cons (.t (.t .h)) .nil) (X_storeO (Ro := (roE rdInt)) (a := x34) (i := (k32 : Int)) ty3.h.sz rfl (.tmp rfl rfl) (.tmp rfl rfl) hk44 hi45 (Mk_pure (fun _ => rfl)) (fun _ _ _ _ h => by obtain ⟨-, h⟩ := h; cases h; rfl)) (fun F50 => ?_)
 rw [hx49]
 iterate 6 refine au ?_
 rw [wk k32]
 exact ⟨_, Nat.lt_succ_self _, _, k32 + 1, rest33, _, F50, rfl, eqA, hd38, entA, hF⟩
def l_toMethod (a_a : Method) : Option (Method) :=
 (l_toIntS a_a.Inputs).bind fun r4 =>
 some ({ Rel := a_a.Rel, Inputs := r4, Limit := a_a.Limit, Cost := a_a.Cost, Quota := a_a.Quota } : Method)
theorem l_toMethod_ok (a_a : Method) (v0_1 : Sv) (R : Method) (hF : l_toMethod a_a = some R) :
   Fw.Spec Tryz.prog 38 [(.agg [(.int .i64 a_a.Rel), v0_1.v, (.int .i64 a_a.Limit), (.int .i64 a_a.Cost), (.int .i64 a_a.Quota)].toArray)] [crd (RdS 3 rdInt) v0_1.v a_a.Inputs] (fun p : Sv × List Nat => (.agg [(.int .i64 R.Rel), p.1.v, (.int .i64 R.Limit), (.int .i64 R.Cost), (.int .i64 R.Quota)].toArray)) (fun p => [cown (OwnS 3 (roE rdInt)) p.2 p.1.v R.Inputs]) := by
 refine Se 21 Tryz.func38 [.cell 2 86] ?_
 intro H0 F0
 unfold l_toMethod at hF
 refine au ?_
 refine AbR (fun k1 => ?_)
 refine AnW (fun k2 => ?_)
 iterate 2 refine au ?_
 refine AnW (fun k3 => ?_)
 iterate 5 refine au ?_
 refine As (.agg [(.int .i64 a_a.Rel), (.slice none 0 0), (.int .i64 0), (.int .i64 0), (.int .i64 0)].toArray) ?_
 iterate 4 refine au ?_
 refine bnd hF fun r4 hx5 hF => Cx1 (l_toIntS_ok _ _ _ hx5) (fun p6 => ?_)
 refine au ?_
 refine As (.agg [(.int .i64 a_a.Rel), p6.1.v, (.int .i64 0), (.int .i64 0), (.int .i64 0)].toArray) ?_
 iterate 5 refine au ?_
 refine As (.agg [(.int .i64 a_a.Rel), p6.1.v, (.int .i64 a_a.Limit), (.int .i64 0), (.int .i64 0)].toArray) ?_
 iterate 5 refine au ?_
 refine As (.agg [(.int .i64 a_a.Rel), p6.1.v, (.int .i64 a_a.Limit), (.int .i64 a_a.Cost), (.int .i64 0)].toArray) ?_
 iterate 5 refine au ?_
 refine As (.agg [(.int .i64 a_a.Rel), p6.1.v, (.int .i64 a_a.Limit), (.int .i64 a_a.Cost), (.int .i64 a_a.Quota)].toArray) ?_
 iterate 3 refine au ?_
 refine As (.agg [(.int .i64 a_a.Rel), p6.1.v, (.int .i64 a_a.Limit), (.int .i64 a_a.Cost), (.int .i64 a_a.Quota)].toArray) ?_
 iterate 2 refine au ?_
 cases hF
 exact Er (p6.1, p6.2)
def l_toMethodS_L1 : List Method → Nat → (List Method) → Option ((List Method))
 | [], k36, c31 => some c31
 | x38 :: rest37, k36, c31 => (l_toMethod x38).bind fun r48 =>
   (chk (decide (0 ≤ (k36 : Int)) && decide ((k36 : Int) < (c31.length : Int)))).bind fun u54 =>
   (some (c31.set ((k36 : Int)).toNat r48)).bind fun z56 =>
   l_toMethodS_L1 rest37 (k36 + 1) z56
def l_toMethodS (a_a : List Method) : Option ((List Method)) :=
 (mkz (a_a.length : Int) (({ Rel := 0, Inputs := [], Limit := 0, Cost := 0, Quota := 0 } : Method) : Method)).bind fun z1 =>
 l_toMethodS_L1 a_a 0 z1
theorem l_toMethodS_ok (a_a : List Method) (v0_0 : Sv) (R : (List Method)) (hF : l_toMethodS a_a = some R) :
   Fw.Spec Tryz.prog 10 [v0_0.v] [crd (RdS 74 rd74) v0_0.v a_a] (fun p : Sv × List Nat => p.1.v) (fun p => [cown (OwnS 86 ow86) p.2 p.1.v R]) := by
 refine Se 23 Tryz.func10 [.tmp 2] ?_
 intro H0 F0
 unfold l_toMethodS at hF
 iterate 6 refine au ?_
 refine bnd hF fun z1 hx2 hF => ?_
 have hm3 := mkz_some hx2
 refine C_new rfl (N_makeSlice (g := true) (c := (a_a.length : Int)) sl29.h ty86.h rfl rfl (by decide) (.tmp rfl rfl) hm3.2.1 hm3.2.2) (fun k4 => ?_)
 refine Cv1 (.cons .h .nil) (own_make (Ro := ow86) (E := 86) (a := (({ Rel := 0, Inputs := [], Limit := 0, Cost := 0, Quota := 0 } : Method) : Method)) hx2 (fun _ => ⟨⟨none, 0, 0⟩, [], rfl, rfl, .inl ⟨rfl, rfl, rfl⟩⟩)) ?_
 iterate 6 refine au ?_
 refine CW_block (CW_loop (m := a_a.length) (fun m34 f' cs' => ∃ (g : Fr) (k36 : Nat) (rest37 : List Method) (c31 : List Method) (F32 : List Nat), m34 = rest37.length ∧ f' = updL g [(0, v0_0.v), (3, (.slice (some ⟨k4, 0, none⟩) (a_a.length : Int).toNat 1)), (4, (.int .i64 (k36 : Int)))] ∧ List.drop k36 a_a = rest37 ∧ Ent cs' [crd (RdS 74 rd74) v0_0.v a_a, cown (OwnS 86 ow86) F32 (.slice (some ⟨k4, 0, none⟩) (a_a.length : Int).toNat 1) c31] ∧ l_toMethodS_L1 rest37 k36 c31 = some R) ⟨_, 0, _, _, [k4], rfl, eqA, rfl, entA, hF⟩ ?_)
 rintro m34 _ _ ⟨g35, k36, rest37, c31, F32, rfl, rfl, hd39, hE, hF⟩
 refine Kb hE a_a (fun hbd44 => ?_)
 rcases rest37 with _ | ⟨x38, rest37⟩
 · have hk40 := dn hd39
   rw [l_toMethodS_L1] at hF
   iterate 7 refine au ?_
   refine CdF ?_
   iterate 9 refine au ?_
   cases hF
   exact Er (⟨(some ⟨k4, 0, none⟩), (a_a.length : Int).toNat, 1⟩, F32)
 obtain ⟨hk40, hx41, hd42⟩ := drop_cons hd39
 rw [l_toMethodS_L1] at hF
 iterate 7 refine au ?_
 refine CdT ?_
 iterate 7 refine au ?_
 refine Ai hx41 (fun k45 j46 => ?_)
 refine AlA1 (ul74_0_74 x38) la74_0_74 (fun p47 => ?_)
 refine bnd hF fun r48 hx49 hF => Cx1 (l_toMethod_ok _ _ _ hx49) (fun p50 => ?_)
 refine bnd hF fun u54 hx55 hF => ?_
 have hi53 := chk_some hx55
 refine C_idxO sl29.h ty86.h.sz (.tmp rfl rfl) (.tmp rfl rfl) (.t (.t (.t (.t .h)))) hi53 (fun k51 hk52 => ?_)
 refine bnd hF fun z56 hx57 hF => ?_
 replace hx57 := Option.some.inj hx57
 refine C_x1 (.cons (.t (.t (.t (.t .h)))) (.cons .h .nil)) (X_storeO (Ro := ow86) (a := r48) (i := (k36 : Int)) ty86.h.sz rfl (.tmp rfl rfl) (.tmp rfl rfl) hk52 hi53 mk86 (fun _ _ _ _ h => by obtain ⟨_, _, rfl, rfl, _⟩ := h; rfl)) (fun F58 => ?_)
 rw [hx57]
 iterate 6 refine au ?_
 rw [wk k36]
 exact ⟨_, Nat.lt_succ_self _, _, k36 + 1, rest37, _, F58, rfl, eqA, hd42, entA, hF⟩
def l_toAccess (a_a : Access) : Option (Access) :=
 (l_toIntS a_a.Values).bind fun r4 =>
 some ({ Method := a_a.Method, Values := r4 } : Access)
theorem l_toAccess_ok (a_a : Access) (v0_1 : Sv) (R : Access) (hF : l_toAccess a_a = some R) :
   Fw.Spec Tryz.prog 96 [(.agg [(.int .i64 a_a.Method), v0_1.v].toArray)] [crd (RdS 3 rdInt) v0_1.v a_a.Values] (fun p : Sv × List Nat => (.agg [(.int .i64 R.Method), p.1.v].toArray)) (fun p => [cown (OwnS 3 (roE rdInt)) p.2 p.1.v R.Values]) := by
 refine Se 12 Tryz.func96 [.cell 2 88] ?_
 intro H0 F0
 unfold l_toAccess at hF
 refine au ?_
 refine AbR (fun k1 => ?_)
 refine AnW (fun k2 => ?_)
 iterate 2 refine au ?_
 refine AnW (fun k3 => ?_)
 iterate 5 refine au ?_
 refine As (.agg [(.int .i64 a_a.Method), (.slice none 0 0)].toArray) ?_
 iterate 4 refine au ?_
 refine bnd hF fun r4 hx5 hF => Cx1 (l_toIntS_ok _ _ _ hx5) (fun p6 => ?_)
 refine au ?_
 refine As (.agg [(.int .i64 a_a.Method), p6.1.v].toArray) ?_
 iterate 3 refine au ?_
 refine As (.agg [(.int .i64 a_a.Method), p6.1.v].toArray) ?_
 iterate 2 refine au ?_
 cases hF
 exact Er (p6.1, p6.2)
def l_toFact (a_a : Fact) : Option (Fact) :=
 (l_toIntS a_a.Values).bind fun r4 =>
 some ({ Rel := a_a.Rel, Values := r4 } : Fact)
theorem l_toFact_ok (a_a : Fact) (v0_1 : Sv) (R : Fact) (hF : l_toFact a_a = some R) :
   Fw.Spec Tryz.prog 82 [(.agg [(.int .i64 a_a.Rel), v0_1.v].toArray)] [crd (RdS 3 rdInt) v0_1.v a_a.Values] (fun p : Sv × List Nat => (.agg [(.int .i64 R.Rel), p.1.v].toArray)) (fun p => [cown (OwnS 3 (roE rdInt)) p.2 p.1.v R.Values]) := by
 refine Se 12 Tryz.func82 [.cell 2 129] ?_
 intro H0 F0
 unfold l_toFact at hF
 refine au ?_
 refine AbR (fun k1 => ?_)
 refine AnW (fun k2 => ?_)
 iterate 2 refine au ?_
 refine AnW (fun k3 => ?_)
 iterate 5 refine au ?_
 refine As (.agg [(.int .i64 a_a.Rel), (.slice none 0 0)].toArray) ?_
 iterate 4 refine au ?_
 refine bnd hF fun r4 hx5 hF => Cx1 (l_toIntS_ok _ _ _ hx5) (fun p6 => ?_)
 refine au ?_
 refine As (.agg [(.int .i64 a_a.Rel), p6.1.v].toArray) ?_
 iterate 3 refine au ?_
 refine As (.agg [(.int .i64 a_a.Rel), p6.1.v].toArray) ?_
 iterate 2 refine au ?_
 cases hF
 exact Er (p6.1, p6.2)
def l_toFactS_L1 : List Fact → Nat → (List Fact) → Option ((List Fact))
 | [], k36, c31 => some c31
 | x38 :: rest37, k36, c31 => (l_toFact x38).bind fun r48 =>
   (chk (decide (0 ≤ (k36 : Int)) && decide ((k36 : Int) < (c31.length : Int)))).bind fun u54 =>
   (some (c31.set ((k36 : Int)).toNat r48)).bind fun z56 =>
   l_toFactS_L1 rest37 (k36 + 1) z56
def l_toFactS (a_a : List Fact) : Option ((List Fact)) :=
 (mkz (a_a.length : Int) (({ Rel := 0, Values := [] } : Fact) : Fact)).bind fun z1 =>
 l_toFactS_L1 a_a 0 z1
theorem l_toFactS_ok (a_a : List Fact) (v0_0 : Sv) (R : (List Fact)) (hF : l_toFactS a_a = some R) :
   Fw.Spec Tryz.prog 27 [v0_0.v] [crd (RdS 123 rd123) v0_0.v a_a] (fun p : Sv × List Nat => p.1.v) (fun p => [cown (OwnS 129 ow129) p.2 p.1.v R]) := by
 refine Se 23 Tryz.func27 [.tmp 2] ?_
 intro H0 F0
 unfold l_toFactS at hF
 iterate 6 refine au ?_
 refine bnd hF fun z1 hx2 hF => ?_
 have hm3 := mkz_some hx2
 refine C_new rfl (N_makeSlice (g := true) (c := (a_a.length : Int)) sl52.h ty129.h rfl rfl (by decide) (.tmp rfl rfl) hm3.2.1 hm3.2.2) (fun k4 => ?_)
 refine Cv1 (.cons .h .nil) (own_make (Ro := ow129) (E := 129) (a := (({ Rel := 0, Values := [] } : Fact) : Fact)) hx2 (fun _ => ⟨⟨none, 0, 0⟩, [], rfl, rfl, .inl ⟨rfl, rfl, rfl⟩⟩)) ?_
 iterate 6 refine au ?_
 refine CW_block (CW_loop (m := a_a.length) (fun m34 f' cs' => ∃ (g : Fr) (k36 : Nat) (rest37 : List Fact) (c31 : List Fact) (F32 : List Nat), m34 = rest37.length ∧ f' = updL g [(0, v0_0.v), (3, (.slice (some ⟨k4, 0, none⟩) (a_a.length : Int).toNat 1)), (4, (.int .i64 (k36 : Int)))] ∧ List.drop k36 a_a = rest37 ∧ Ent cs' [crd (RdS 123 rd123) v0_0.v a_a, cown (OwnS 129 ow129) F32 (.slice (some ⟨k4, 0, none⟩) (a_a.length : Int).toNat 1) c31] ∧ l_toFactS_L1 rest37 k36 c31 = some R) ⟨_, 0, _, _, [k4], rfl, eqA, rfl, entA, hF⟩ ?_)
 rintro m34 _ _ ⟨g35, k36, rest37, c31, F32, rfl, rfl, hd39, hE, hF⟩
 refine Kb hE a_a (fun hbd44 => ?_)
 rcases rest37 with _ | ⟨x38, rest37⟩
 · have hk40 := dn hd39
   rw [l_toFactS_L1] at hF
   iterate 7 refine au ?_
   refine CdF ?_
   iterate 9 refine au ?_
   cases hF
   exact Er (⟨(some ⟨k4, 0, none⟩), (a_a.length : Int).toNat, 1⟩, F32)
 obtain ⟨hk40, hx41, hd42⟩ := drop_cons hd39
 rw [l_toFactS_L1] at hF
 iterate 7 refine au ?_
 refine CdT ?_
 iterate 7 refine au ?_
 refine Ai hx41 (fun k45 j46 => ?_)
 refine AlA1 (ul123_0_123 x38) la123_0_123 (fun p47 => ?_)
 refine bnd hF fun r48 hx49 hF => Cx1 (l_toFact_ok _ _ _ hx49) (fun p50 => ?_)
 refine bnd hF fun u54 hx55 hF => ?_
 have hi53 := chk_some hx55
 refine C_idxO sl52.h ty129.h.sz (.tmp rfl rfl) (.tmp rfl rfl) (.t (.t (.t (.t .h)))) hi53 (fun k51 hk52 => ?_)
 refine bnd hF fun z56 hx57 hF => ?_
 replace hx57 := Option.some.inj hx57
 refine C_x1 (.cons (.t (.t (.t (.t .h)))) (.cons .h .nil)) (X_storeO (Ro := ow129) (a := r48) (i := (k36 : Int)) ty129.h.sz rfl (.tmp rfl rfl) (.tmp rfl rfl) hk52 hi53 mk129 (fun _ _ _ _ h => by obtain ⟨_, _, rfl, rfl, _⟩ := h; rfl)) (fun F58 => ?_)
 rw [hx57]
 iterate 6 refine au ?_
 rw [wk k36]
 exact ⟨_, Nat.lt_succ_self _, _, k36 + 1, rest37, _, F58, rfl, eqA, hd42, entA, hF⟩
def l_toTold (a_a : Told) : Option (Told) :=
 (l_toAccess a_a.Access).bind fun r4 =>
 (l_toFactS a_a.Facts).bind fun r7 =>
 some ({ Access := r4, Facts := r7 } : Told)
theorem l_toTold_ok (a_a : Told) (v0_1 : Sv) (v0_2 : Sv) (R : Told) (hF : l_toTold a_a = some R) :
   Fw.Spec Tryz.prog 39 [(.agg [(.int .i64 a_a.Access.Method), v0_1.v, v0_2.v].toArray)] [crd (RdS 3 rdInt) v0_1.v a_a.Access.Values, crd (RdS 123 rd123) v0_2.v a_a.Facts] (fun p : Sv × List Nat × Sv × List Nat => (.agg [(.int .i64 R.Access.Method), p.1.v, p.2.2.1.v].toArray)) (fun p => [cown (OwnS 3 (roE rdInt)) p.2.1 p.1.v R.Access.Values, cown (OwnS 129 ow129) p.2.2.2 p.2.2.1.v R.Facts]) := by
 refine Se 13 Tryz.func39 [.cell 2 90] ?_
 intro H0 F0
 unfold l_toTold at hF
 refine au ?_
 refine AbR (fun k1 => ?_)
 refine AnW (fun k2 => ?_)
 iterate 2 refine au ?_
 refine AnW (fun k3 => ?_)
 iterate 3 refine au ?_
 refine C_at (.t (.t .h)) (fun hp => V_loadA (s := 2) (l := [(.int .i64 a_a.Access.Method), v0_1.v]) ag77.h ty77.h.sz (.tmp rfl rfl) hp.2 rfl (by decide) (Nat.le_of_ble_eq_true rfl) rfl) ?_
 refine bnd hF fun r4 hx5 hF => Cx1 (l_toAccess_ok _ _ _ hx5) (fun p6 => ?_)
 refine au ?_
 refine As (.agg [(.int .i64 r4.Method), p6.1.v, (.slice none 0 0)].toArray) ?_
 iterate 4 refine au ?_
 refine bnd hF fun r7 hx8 hF => Cx1 (l_toFactS_ok _ _ _ hx8) (fun p9 => ?_)
 refine au ?_
 refine As (.agg [(.int .i64 r4.Method), p6.1.v, p9.1.v].toArray) ?_
 iterate 3 refine au ?_
 refine As (.agg [(.int .i64 r4.Method), p6.1.v, p9.1.v].toArray) ?_
 iterate 2 refine au ?_
 cases hF
 exact Er (p6.1, p6.2, p9.1, p9.2)
def l_toToldS_L1 : List Told → Nat → (List Told) → Option ((List Told))
 | [], k36, c31 => some c31
 | x38 :: rest37, k36, c31 => (l_toTold x38).bind fun r48 =>
   (chk (decide (0 ≤ (k36 : Int)) && decide ((k36 : Int) < (c31.length : Int)))).bind fun u54 =>
   (some (c31.set ((k36 : Int)).toNat r48)).bind fun z56 =>
   l_toToldS_L1 rest37 (k36 + 1) z56
def l_toToldS (a_a : List Told) : Option ((List Told)) :=
 (mkz (a_a.length : Int) (({ Access := ({ Method := 0, Values := [] } : Access), Facts := [] } : Told) : Told)).bind fun z1 =>
 l_toToldS_L1 a_a 0 z1
theorem l_toToldS_ok (a_a : List Told) (v0_0 : Sv) (R : (List Told)) (hF : l_toToldS a_a = some R) :
   Fw.Spec Tryz.prog 11 [v0_0.v] [crd (RdS 79 rd79) v0_0.v a_a] (fun p : Sv × List Nat => p.1.v) (fun p => [cown (OwnS 90 ow90) p.2 p.1.v R]) := by
 refine Se 23 Tryz.func11 [.tmp 2] ?_
 intro H0 F0
 unfold l_toToldS at hF
 iterate 6 refine au ?_
 refine bnd hF fun z1 hx2 hF => ?_
 have hm3 := mkz_some hx2
 refine C_new rfl (N_makeSlice (g := true) (c := (a_a.length : Int)) sl31.h ty90.h rfl rfl (by decide) (.tmp rfl rfl) hm3.2.1 hm3.2.2) (fun k4 => ?_)
 refine Cv1 (.cons .h .nil) (own_make (Ro := ow90) (E := 90) (a := (({ Access := ({ Method := 0, Values := [] } : Access), Facts := [] } : Told) : Told)) hx2 (fun _ => ⟨⟨none, 0, 0⟩, ⟨none, 0, 0⟩, [], [], rfl, rfl, .inl ⟨rfl, rfl, rfl⟩, .inl ⟨rfl, rfl, rfl⟩⟩)) ?_
 iterate 6 refine au ?_
 refine CW_block (CW_loop (m := a_a.length) (fun m34 f' cs' => ∃ (g : Fr) (k36 : Nat) (rest37 : List Told) (c31 : List Told) (F32 : List Nat), m34 = rest37.length ∧ f' = updL g [(0, v0_0.v), (3, (.slice (some ⟨k4, 0, none⟩) (a_a.length : Int).toNat 1)), (4, (.int .i64 (k36 : Int)))] ∧ List.drop k36 a_a = rest37 ∧ Ent cs' [crd (RdS 79 rd79) v0_0.v a_a, cown (OwnS 90 ow90) F32 (.slice (some ⟨k4, 0, none⟩) (a_a.length : Int).toNat 1) c31] ∧ l_toToldS_L1 rest37 k36 c31 = some R) ⟨_, 0, _, _, [k4], rfl, eqA, rfl, entA, hF⟩ ?_)
 rintro m34 _ _ ⟨g35, k36, rest37, c31, F32, rfl, rfl, hd39, hE, hF⟩
 refine Kb hE a_a (fun hbd44 => ?_)
 rcases rest37 with _ | ⟨x38, rest37⟩
 · have hk40 := dn hd39
   rw [l_toToldS_L1] at hF
   iterate 7 refine au ?_
   refine CdF ?_
   iterate 9 refine au ?_
   cases hF
   exact Er (⟨(some ⟨k4, 0, none⟩), (a_a.length : Int).toNat, 1⟩, F32)
 obtain ⟨hk40, hx41, hd42⟩ := drop_cons hd39
 rw [l_toToldS_L1] at hF
 iterate 7 refine au ?_
 refine CdT ?_
 iterate 7 refine au ?_
 refine Ai hx41 (fun k45 j46 => ?_)
 refine AlA2 (ul79_0_79 x38) la79_0_79 (fun p47 => ?_)
 refine bnd hF fun r48 hx49 hF => Cx2 (l_toTold_ok _ _ _ _ hx49) (fun p50 => ?_)
 refine bnd hF fun u54 hx55 hF => ?_
 have hi53 := chk_some hx55
 refine C_idxO sl31.h ty90.h.sz (.tmp rfl rfl) (.tmp rfl rfl) (.t (.t (.t (.t (.t (.t .h)))))) hi53 (fun k51 hk52 => ?_)
 refine bnd hF fun z56 hx57 hF => ?_
 replace hx57 := Option.some.inj hx57
 refine C_x1 (.cons (.t (.t (.t (.t (.t (.t .h)))))) (.cons .h (.cons .h .nil))) (X_storeO (Ro := ow90) (a := r48) (i := (k36 : Int)) ty90.h.sz rfl (.tmp rfl rfl) (.tmp rfl rfl) hk52 hi53 mk90 (fun _ _ _ _ h => by obtain ⟨_, _, _, _, rfl, rfl, _⟩ := h; rfl)) (fun F58 => ?_)
 rw [hx57]
 iterate 6 refine au ?_
 rw [wk k36]
 exact ⟨_, Nat.lt_succ_self _, _, k36 + 1, rest37, _, F58, rfl, eqA, hd42, entA, hF⟩
def s_l1In (a_x : Int) (a_low : Int) (a_high : Int) : Option (Bool) :=
 some ((decide ((a_low : Int) ≤ a_x)) && (decide ((a_x : Int) ≤ a_high)))
theorem s_l1In_ok (a_x : Int) (a_low : Int) (a_high : Int) (R : Bool) (hF : s_l1In a_x a_low a_high = some R) :
   Fw.Spec Tryz.prog 111 [(.int .i64 a_x), (.int .i64 a_low), (.int .i64 a_high)] [] (fun _ : Unit => (.bool R)) (fun _ => []) := by
 refine Se 15 Tryz.func111 [.tmp 6] ?_
 intro H0 F0
 unfold s_l1In at hF
 iterate 4 refine au ?_
 refine C_cut (fun f' cs' => ∃ (g : Fr), f' = updL g [(6, (.bool ((decide ((a_low : Int) ≤ a_x)) && (decide ((a_x : Int) ≤ a_high)))))] ∧ Ent cs' []) ?_ ?_
 · iterate 4 refine au ?_
   rcases Bool.eq_false_or_eq_true (decide ((a_low : Int) ≤ a_x)) with hg1 | hg1
   · rw [hg1]
     try rw [hg1] at hF; dsimp only [cond_true, cond_false] at hF
     iterate 9 refine au ?_
     exact ⟨_, eqA, entA⟩
   rw [hg1]
   try rw [hg1] at hF; dsimp only [cond_true, cond_false] at hF
   iterate 6 refine au ?_
   exact ⟨_, eqA, entA⟩
 rintro _ _ ⟨g2, rfl, hE⟩
 refine K_ent hE ?_
 refine au ?_
 cases hF
 exact Er ()
def s_IsSchema_L1 (a_s : List Int) : List Int → Nat → Option (Bool)
 | [], k4 => (s_l1In (a_s.length : Int) 1 3).bind fun r13 =>
   some r13
 | x6 :: rest5, k4 => (s_l1In x6 1 3).bind fun r18 =>
   if (!r18) then (
     some false)
   else (
     s_IsSchema_L1 a_s rest5 (k4 + 1))
def s_IsSchema (a_s : List Int) : Option (Bool) :=
 s_IsSchema_L1 a_s a_s 0
theorem s_IsSchema_ok (a_s : List Int) (v0_0 : Sv) (R : Bool) (hF : s_IsSchema a_s = some R) :
   Fw.Spec Tryz.prog 106 [v0_0.v] [crd (RdS 3 rdInt) v0_0.v a_s] (fun _ : Unit => (.bool R)) (fun _ => []) := by
 refine Se 19 Tryz.func106 [.tmp 2] ?_
 intro H0 F0
 unfold s_IsSchema at hF
 iterate 7 refine au ?_
 refine CW_block (CW_loop (m := a_s.length) (fun m2 f' cs' => ∃ (g : Fr) (k4 : Nat) (rest5 : List Int), m2 = rest5.length ∧ f' = updL g [(0, v0_0.v), (3, (.int .i64 (k4 : Int)))] ∧ List.drop k4 a_s = rest5 ∧ Ent cs' [crd (RdS 3 rdInt) v0_0.v a_s] ∧ s_IsSchema_L1 a_s rest5 k4 = some R) ⟨_, 0, _, rfl, eqA, rfl, entA, hF⟩ ?_)
 rintro m2 _ _ ⟨g3, k4, rest5, rfl, rfl, hd7, hE, hF⟩
 refine Kb hE a_s (fun hbd12 => ?_)
 rcases rest5 with _ | ⟨x6, rest5⟩
 · have hk8 := dn hd7
   rw [s_IsSchema_L1] at hF
   iterate 7 refine au ?_
   refine CdF ?_
   iterate 7 refine au ?_
   refine bnd hF fun r13 hx14 hF => Cx0 (s_l1In_ok _ _ _ _ hx14) (fun _ => ?_)
   iterate 3 refine au ?_
   cases hF
   exact Er ()
 obtain ⟨hk8, hx9, hd10⟩ := drop_cons hd7
 rw [s_IsSchema_L1] at hF
 iterate 7 refine au ?_
 refine CdT ?_
 iterate 5 refine au ?_
 refine Ai hx9 (fun k16 j17 => ?_)
 refine Al ls3_0 ?_
 refine bnd hF fun r18 hx19 hF => Cx0 (s_l1In_ok _ _ _ _ hx19) (fun _ => ?_)
 iterate 2 refine au ?_
 refine Ci hF (fun hb22 hF => ?_) (fun hb22 hF => ?_)
 · iterate 4 refine au ?_
   cases hF
   exact Er ()
 iterate 6 refine au ?_
 rw [wk k4]
 exact ⟨_, Nat.lt_succ_self _, _, k4 + 1, rest5, rfl, eqA, hd10, entA, hF⟩
def s_IsMethod_L1 (a_s : List Int) (a_m : Method) : List Int → Nat → Option (Bool)
 | [], k27 => some true
 | x29 :: rest28, k27 => ((ix a_s a_m.Rel).bind fun x40 =>
     (s_l1In x29 0 (IntKind.i64.wrap (x40 - 1))).bind fun r46 =>
     bif (!r46) then (some true)
     else (bif (decide ((0 : Int) < (k27 : Int))) then ((ix a_m.Inputs (IntKind.i64.wrap ((k27 : Int) - 1))).bind fun x53 =>
         some (decide ((x29 : Int) ≤ x53)))
       else (some false))).bind fun o36 =>
   match o36 with
   | c59 => if c59 then (
       some false)
     else (
       s_IsMethod_L1 a_s a_m rest28 (k27 + 1))
def s_IsMethod (a_s : List Int) (a_m : Method) : Option (Bool) :=
 ((s_IsSchema a_s).bind fun r4 =>
   bif (!r4) then (some true)
   else ((s_l1In a_m.Rel 0 (IntKind.i64.wrap ((a_s.length : Int) - 1))).bind fun r8 =>
     bif (!r8) then (some true)
     else ((s_l1In a_m.Limit 0 9).bind fun r12 =>
       bif (!r12) then (some true)
       else ((s_l1In a_m.Cost 0 99).bind fun r16 =>
         bif (!r16) then (some true)
         else ((s_l1In a_m.Quota 1 99).bind fun r20 =>
           some (!r20)))))).bind fun o2 =>
 match o2 with
 | c23 => if c23 then (
     some false)
   else (
     s_IsMethod_L1 a_s a_m a_m.Inputs 0)
theorem s_IsMethod_ok (a_s : List Int) (v0_0 : Sv) (a_m : Method) (v1_1 : Sv) (R : Bool) (hF : s_IsMethod a_s a_m = some R) :
   Fw.Spec Tryz.prog 133 [v0_0.v, (.agg [(.int .i64 a_m.Rel), v1_1.v, (.int .i64 a_m.Limit), (.int .i64 a_m.Cost), (.int .i64 a_m.Quota)].toArray)] [crd (RdS 3 rdInt) v0_0.v a_s, crd (RdS 3 rdInt) v1_1.v a_m.Inputs] (fun _ : Unit => (.bool R)) (fun _ => []) := by
 refine Se 74 Tryz.func133 [.tmp 4] ?_
 intro H0 F0
 unfold s_IsMethod at hF
 refine au ?_
 refine AbR (fun k1 => ?_)
 iterate 3 refine au ?_
 obtain ⟨o2, hio2, hO3⟩ := bind_some hF
 refine au ?_
 refine C_cut (fun f' cs' => ∃ (c23 : Bool) (g : Fr), c23 = o2 ∧ f' = updL g [(0, v0_0.v), (3, (pz k1)), (35, (.bool c23))] ∧ Ent cs' [crd (RdS 3 rdInt) v0_0.v a_s, cboR k1 86 (.agg [(.int .i64 a_m.Rel), v1_1.v, (.int .i64 a_m.Limit), (.int .i64 a_m.Cost), (.int .i64 a_m.Quota)].toArray), crd (RdS 3 rdInt) v1_1.v a_m.Inputs]) ?_ ?_
 · replace hF := hio2
   refine au ?_
   refine bnd hF fun r4 hx5 hF => Cx0 (s_IsSchema_ok _ _ _ hx5) (fun _ => ?_)
   iterate 2 refine au ?_
   rcases Bool.eq_false_or_eq_true (!r4) with hg7 | hg7
   · rw [hg7]
     try rw [hg7] at hF; dsimp only [cond_true, cond_false] at hF
     iterate 27 refine au ?_
     cases hF
     exact ⟨_, _, rfl, eqA, entA⟩
   rw [hg7]
   try rw [hg7] at hF; dsimp only [cond_true, cond_false] at hF
   iterate 11 refine au ?_
   refine bnd hF fun r8 hx9 hF => Cx0 (s_l1In_ok _ _ _ _ hx9) (fun _ => ?_)
   iterate 4 refine au ?_
   rcases Bool.eq_false_or_eq_true (!r8) with hg11 | hg11
   · rw [hg11]
     try rw [hg11] at hF; dsimp only [cond_true, cond_false] at hF
     iterate 18 refine au ?_
     cases hF
     exact ⟨_, _, rfl, eqA, entA⟩
   rw [hg11]
   try rw [hg11] at hF; dsimp only [cond_true, cond_false] at hF
   iterate 5 refine au ?_
   refine bnd hF fun r12 hx13 hF => Cx0 (s_l1In_ok _ _ _ _ hx13) (fun _ => ?_)
   iterate 4 refine au ?_
   rcases Bool.eq_false_or_eq_true (!r12) with hg15 | hg15
   · rw [hg15]
     try rw [hg15] at hF; dsimp only [cond_true, cond_false] at hF
     iterate 12 refine au ?_
     cases hF
     exact ⟨_, _, rfl, eqA, entA⟩
   rw [hg15]
   try rw [hg15] at hF; dsimp only [cond_true, cond_false] at hF
   iterate 5 refine au ?_
   refine bnd hF fun r16 hx17 hF => Cx0 (s_l1In_ok _ _ _ _ hx17) (fun _ => ?_)
   iterate 4 refine au ?_
   rcases Bool.eq_false_or_eq_true (!r16) with hg19 | hg19
   · rw [hg19]
     try rw [hg19] at hF; dsimp only [cond_true, cond_false] at hF
     iterate 6 refine au ?_
     cases hF
     exact ⟨_, _, rfl, eqA, entA⟩
   rw [hg19]
   try rw [hg19] at hF; dsimp only [cond_true, cond_false] at hF
   iterate 5 refine au ?_
   refine bnd hF fun r20 hx21 hF => Cx0 (s_l1In_ok _ _ _ _ hx21) (fun _ => ?_)
   iterate 4 refine au ?_
   cases hF
   exact ⟨_, _, rfl, eqA, entA⟩
 rintro _ _ ⟨c23, g64, rfl, rfl, hE⟩
 replace hF := hO3
 try dsimp only at hF
 refine K_ent hE ?_
 refine Ci hF (fun hb63 hF => ?_) (fun hb63 hF => ?_)
 · iterate 4 refine au ?_
   cases hF
   exact Er ()
 iterate 5 refine au ?_
 refine CW_block (CW_loop (m := a_m.Inputs.length) (fun m25 f' cs' => ∃ (g : Fr) (k27 : Nat) (rest28 : List Int), m25 = rest28.length ∧ f' = updL g [(0, v0_0.v), (3, (pz k1)), (5, (.int .i64 (k27 : Int)))] ∧ List.drop k27 a_m.Inputs = rest28 ∧ Ent cs' [crd (RdS 3 rdInt) v0_0.v a_s, cboR k1 86 (.agg [(.int .i64 a_m.Rel), v1_1.v, (.int .i64 a_m.Limit), (.int .i64 a_m.Cost), (.int .i64 a_m.Quota)].toArray), crd (RdS 3 rdInt) v1_1.v a_m.Inputs] ∧ s_IsMethod_L1 a_s a_m rest28 k27 = some R) ⟨_, 0, _, rfl, eqA, rfl, entA, hF⟩ ?_)
 rintro m25 _ _ ⟨g26, k27, rest28, rfl, rfl, hd30, hE, hF⟩
 refine Kb hE a_m.Inputs (fun hbd35 => ?_)
 rcases rest28 with _ | ⟨x29, rest28⟩
 · have hk31 := dn hd30
   rw [s_IsMethod_L1] at hF
   iterate 8 refine au ?_
   refine CdF ?_
   iterate 8 refine au ?_
   cases hF
   exact Er ()
 obtain ⟨hk31, hx32, hd33⟩ := drop_cons hd30
 rw [s_IsMethod_L1] at hF
 iterate 8 refine au ?_
 refine CdT ?_
 iterate 2 refine au ?_
 obtain ⟨o36, hio36, hO37⟩ := bind_some hF
 refine K_draw [0, 1, 2, 3, 4, 5, 6, 7, 8, 9, 10, 11, 12, 13, 14, 15, 16, 17, 18, 19, 20, 21, 22, 23, 24, 25, 26, 27, 28, 29, 30] [0, 1, 0, 7, 15, 0, 0, 64, 224, 480, 992, 2047, 4095, 8191, 16383, 32767, 65535, 131071, 262143, 131071, 1048575, 2097151, 131071, 4325375, 131071, 16908287, 63045631, 130154495, 268435455, 536870911, 1073741823] [11] mixed (by decide +kernel) ?_
 refine D_cut (fun f' cs' => ∃ (c59 : Bool) (g : Fr), c59 = o36 ∧ f' = updL g [(0, v0_0.v), (3, (pz k1)), (5, (.int .i64 (k27 : Int))), (73, (.bool c59))] ∧ Ent cs' [crd (RdS 3 rdInt) v0_0.v a_s, cboR k1 86 (.agg [(.int .i64 a_m.Rel), v1_1.v, (.int .i64 a_m.Limit), (.int .i64 a_m.Cost), (.int .i64 a_m.Quota)].toArray), crd (RdS 3 rdInt) v1_1.v a_m.Inputs]) ?_ ?_
 · replace hF := hio36
   iterate 3 refine du ?_
   refine Di hx32 (fun k38 j39 => ?_)
   refine Dl ls3_0 ?_
   iterate 3 refine du ?_
   refine bnd hF fun x40 hx41 hF => ?_
   obtain ⟨hp42, hx43⟩ := ix_some hx41
   refine Di hx43 (fun k44 j45 => ?_)
   refine Dl ls3_0 ?_
   refine du ?_
   refine bnd hF fun r46 hx47 hF => Dx0 (s_l1In_ok _ _ _ _ hx47) (fun _ => ?_)
   iterate 2 refine du ?_
   rcases Bool.eq_false_or_eq_true (!r46) with hg49 | hg49
   · rw [hg49]
     try rw [hg49] at hF; dsimp only [cond_true, cond_false] at hF
     iterate 18 refine du ?_
     cases hF
     exact ⟨_, _, rfl, eqA, entA⟩
   rw [hg49]
   try rw [hg49] at hF; dsimp only [cond_true, cond_false] at hF
   iterate 3 refine du ?_
   rcases Bool.eq_false_or_eq_true (decide ((0 : Int) < (k27 : Int))) with hg50 | hg50
   · rw [hg50]
     try rw [hg50] at hF; dsimp only [cond_true, cond_false] at hF
     iterate 3 refine du ?_
     refine Di hx32 (fun k51 j52 => ?_)
     refine Dl ls3_0 ?_
     iterate 4 refine du ?_
     refine bnd hF fun x53 hx54 hF => ?_
     obtain ⟨hp55, hx56⟩ := ix_some hx54
     refine Di hx56 (fun k57 j58 => ?_)
     refine Dl ls3_0 ?_
     iterate 4 refine du ?_
     cases hF
     exact ⟨_, _, rfl, eqA, entA⟩
   rw [hg50]
   try rw [hg50] at hF; dsimp only [cond_true, cond_false] at hF
   iterate 15 refine du ?_
   cases hF
   exact ⟨_, _, rfl, eqA, entA⟩
 rintro _ _ ⟨c59, g62, rfl, rfl, hE⟩
 replace hF := hO37
 try dsimp only at hF
 refine K_ent hE ?_
 refine Ci hF (fun hb61 hF => ?_) (fun hb61 hF => ?_)
 · iterate 4 refine au ?_
   cases hF
   exact Er ()
 iterate 6 refine au ?_
 rw [wk k27]
 exact ⟨_, Nat.lt_succ_self _, _, k27 + 1, rest28, rfl, eqA, hd33, entA, hF⟩
def s_AreMethods_L1 (a_s : List Int) (a_l : List Method) : List Method → Nat → Option (Bool)
 | [], k4 => ((s_IsSchema a_s).bind fun r15 =>
     bif r15 then (some (decide (((a_l.length : Int) : Int) ≤ 5)))
     else (some false)).bind fun o13 =>
   match o13 with
   | c19 => some c19
 | x6 :: rest5, k4 => (s_IsMethod a_s x6).bind fun r24 =>
   if (!r24) then (
     some false)
   else (
     s_AreMethods_L1 a_s a_l rest5 (k4 + 1))
def s_AreMethods (a_s : List Int) (a_l : List Method) : Option (Bool) :=
 s_AreMethods_L1 a_s a_l a_l 0
theorem s_AreMethods_ok (a_s : List Int) (v0_0 : Sv) (a_l : List Method) (v1_0 : Sv) (R : Bool) (hF : s_AreMethods a_s a_l = some R) :
   Fw.Spec Tryz.prog 79 [v0_0.v, v1_0.v] [crd (RdS 3 rdInt) v0_0.v a_s, crd (RdS 86 rd86) v1_0.v a_l] (fun _ : Unit => (.bool R)) (fun _ => []) := by
 refine Se 26 Tryz.func79 [.tmp 4] ?_
 intro H0 F0
 unfold s_AreMethods at hF
 iterate 7 refine au ?_
 refine CW_block (CW_loop (m := a_l.length) (fun m2 f' cs' => ∃ (g : Fr) (k4 : Nat) (rest5 : List Method), m2 = rest5.length ∧ f' = updL g [(0, v0_0.v), (1, v1_0.v), (5, (.int .i64 (k4 : Int)))] ∧ List.drop k4 a_l = rest5 ∧ Ent cs' [crd (RdS 3 rdInt) v0_0.v a_s, crd (RdS 86 rd86) v1_0.v a_l] ∧ s_AreMethods_L1 a_s a_l rest5 k4 = some R) ⟨_, 0, _, rfl, eqA, rfl, entA, hF⟩ ?_)
 rintro m2 _ _ ⟨g3, k4, rest5, rfl, rfl, hd7, hE, hF⟩
 refine Kb hE a_l (fun hbd12 => ?_)
 rcases rest5 with _ | ⟨x6, rest5⟩
 · have hk8 := dn hd7
   rw [s_AreMethods_L1] at hF
   iterate 7 refine au ?_
   refine CdF ?_
   iterate 4 refine au ?_
   obtain ⟨o13, hio13, hO14⟩ := bind_some hF
   refine au ?_
   refine C_cut (fun f' cs' => ∃ (c19 : Bool) (g : Fr), c19 = o13 ∧ f' = updL g [(4, (.bool c19))] ∧ Ent cs' []) ?_ ?_
   · replace hF := hio13
     refine au ?_
     refine bnd hF fun r15 hx16 hF => Cx0 (s_IsSchema_ok _ _ _ hx16) (fun _ => ?_)
     refine au ?_
     rcases Bool.eq_false_or_eq_true r15 with hg18 | hg18
     · rw [hg18]
       try rw [hg18] at hF; dsimp only [cond_true, cond_false] at hF
       iterate 9 refine au ?_
       cases hF
       exact ⟨_, _, rfl, eqA, entA⟩
     rw [hg18]
     try rw [hg18] at hF; dsimp only [cond_true, cond_false] at hF
     iterate 6 refine au ?_
     cases hF
     exact ⟨_, _, rfl, eqA, entA⟩
   rintro _ _ ⟨c19, g20, rfl, rfl, hE⟩
   replace hF := hO14
   try dsimp only at hF
   refine K_ent hE ?_
   refine au ?_
   cases hF
   exact Er ()
 obtain ⟨hk8, hx9, hd10⟩ := drop_cons hd7
 rw [s_AreMethods_L1] at hF
 iterate 7 refine au ?_
 refine CdT ?_
 iterate 6 refine au ?_
 refine Ai hx9 (fun k21 j22 => ?_)
 refine AlA1 (ul86_0_86 x6) la86_0_86 (fun p23 => ?_)
 refine bnd hF fun r24 hx25 hF => Cx0 (s_IsMethod_ok _ _ _ _ _ hx25) (fun _ => ?_)
 iterate 2 refine au ?_
 refine Ci hF (fun hb28 hF => ?_) (fun hb28 hF => ?_)
 · iterate 4 refine au ?_
   cases hF
   exact Er ()
 iterate 6 refine au ?_
 rw [wk k4]
 exact ⟨_, Nat.lt_succ_self _, _, k4 + 1, rest5, rfl, eqA, hd10, entA, hF⟩
def s_l15Set_L1 (a_mask : Int) (a_n : Int) : Nat → (List Int) → Int → Option ((List Int))
 | 0, _, _ => none
 | m6 + 1, c2, c5 => if (decide ((c5 : Int) < a_n)) then (
     ((shrI .i64 a_mask c5).bind fun x16 =>
       if (((andI .i64 x16 1) : Int) == 1) then (
         (app c2 ([c5] : List Int)).bind fun z19 =>
         some z19)
       else (
         some c2)).bind fun o14 =>
     match o14 with
     | c23 => s_l15Set_L1 a_mask a_n m6 c23 (IntKind.i64.wrap (c5 + 1)))
   else (
     some c2)
def s_l15Set (a_mask : Int) (a_n : Int) : Option ((List Int)) :=
 s_l15Set_L1 a_mask a_n ((a_n - 0).toNat + 2) ([] : List Int) 0
theorem s_l15Set_ok (a_mask : Int) (a_n : Int) (R : (List Int)) (hF : s_l15Set a_mask a_n = some R) :
   Fw.Spec Tryz.prog 88 [(.int .i64 a_mask), (.int .i64 a_n)] [] (fun p : Sv × List Nat => p.1.v) (fun p => [cown (OwnS 3 (roE rdInt)) p.2 p.1.v R]) := by
 refine Se 23 Tryz.func88 [.tmp 4] ?_
 intro H0 F0
 unfold s_l15Set at hF
 iterate 4 refine au ?_
 refine C_new rfl (N_buildSliceT (g := true) sl22.h ty3.h .nil (vs := []) rfl rfl rfl (by simp)) (fun k1 => ?_)
 refine Cv1 (.cons .h .nil) (own_lit (Ro := (roE rdInt)) (E := 3) (F := []) (xs := ([] : List Int)) MkL_nil rfl rfl) ?_
 iterate 6 refine au ?_
 refine CW_block (CW_loop (m := ((a_n - 0).toNat + 2)) (fun m6 f' cs' => ∃ (g : Fr) (c2 : List Int) (c5 : Int) (v3 : Sv) (F4 : List Nat), f' = updL g [(0, (.int .i64 a_mask)), (1, (.int .i64 a_n)), (5, v3.v), (6, (.int .i64 c5))] ∧ Ent cs' [cown (OwnS 3 (roE rdInt)) F4 v3.v c2] ∧ s_l15Set_L1 a_mask a_n m6 c2 c5 = some R) ⟨_, _, _, ⟨(some ⟨k1, 0, none⟩), 0, 1⟩, (k1 :: []), eqA, entA, hF⟩ ?_)
 rintro m6 _ _ ⟨g7, c2, c5, v3, F4, rfl, hE, hF⟩
 refine K_ent hE ?_
 rcases m6 with _ | m6
 · rw [s_l15Set_L1] at hF
   exact absurd hF (by simp)
 rw [s_l15Set_L1] at hF
 iterate 6 refine au ?_
 refine Ci hF (fun hb27 hF => ?_) (fun hb27 hF => ?_)
 · refine au ?_
   obtain ⟨o14, hio14, hO15⟩ := bind_some hF
   refine K_cut (fun f' cs' => ∃ (c23 : List Int) (v24 : Sv) (F25 : List Nat) (g : Fr), c23 = o14 ∧ f' = updL g [(0, (.int .i64 a_mask)), (1, (.int .i64 a_n)), (5, v24.v), (6, (.int .i64 c5))] ∧ Ent cs' [cown (OwnS 3 (roE rdInt)) F25 v24.v c23]) ?_ ?_
   · replace hF := hio14
     refine CW_block (K_region (Cm (.int .i64 a_mask) rfl rfl ?_))
     refine au ?_
     refine bnd hF fun x16 hx17 hF => C_val (V_shr (i := a_mask) (j := c5) (.tmp rfl rfl) (.tmp rfl rfl) hx17) ?_
     refine C_val (V_and (i := x16) (j := 1) (.tmp rfl rfl) (.int _ _)) ?_
     iterate 2 refine au ?_
     refine Ci hF (fun hb22 hF => ?_) (fun hb22 hF => ?_)
     · iterate 3 refine au ?_
       refine C_new rfl (N_buildSliceT (g := true) sl22.h ty3.h (.cons (.tmp rfl rfl) .nil) (vs := [(.int .i64 c5)]) rfl rfl rfl (by intro v hv; simp at hv; rcases hv with rfl <;> rfl)) (fun k18 => ?_)
       refine Cv1 (.cons .h .nil) (own_lit (Ro := (roE rdInt)) (E := 3) (F := ([] ++ [])) (xs := ([c5] : List Int)) (MkL_cons (Mk_pure (fun _ => rfl)) MkL_nil apps) rfl rfl) ?_
       refine bnd hF fun z19 hx20 hF => C_x1 (.cons (.t .h) (.cons .h .nil)) (X_appendO (Ro := (roE rdInt)) sl22.h ni22 ty3.h rfl rfl rfl (.tmp rfl rfl) (.tmp rfl rfl) hx20 src_own) (fun p21 => ?_)
       iterate 2 refine au ?_
       cases hF
       exact ⟨_, p21.1, p21.2, _, rfl, eqA, entA⟩
     refine au ?_
     cases hF
     exact ⟨_, v3, F4, _, rfl, eqA, entA⟩
   rintro _ _ ⟨c23, v24, F25, g26, rfl, rfl, hE⟩
   replace hF := hO15
   try dsimp only at hF
   refine K_ent hE ?_
   iterate 5 refine au ?_
   exact ⟨m6, Nat.lt_succ_self _, _, _, _, v24, F25, eqA, entA, hF⟩
 iterate 9 refine au ?_
 cases hF
 exact Er (v3, F4)
def s_l4Less_L1 (a_a : List Int) (a_b : List Int) : Nat → Int → Option (Bool)
 | 0, _ => none
 | m2 + 1, c1 => if ((decide ((c1 : Int) < (a_a.length : Int))) && (decide ((c1 : Int) < (a_b.length : Int)))) then (
     (ix a_a c1).bind fun x12 =>
     (ix a_b c1).bind fun x18 =>
     if ((x12 : Int) != x18) then (
       (ix a_a c1).bind fun x24 =>
       (ix a_b c1).bind fun x30 =>
       some (decide ((x24 : Int) < x30)))
     else (
       s_l4Less_L1 a_a a_b m2 (IntKind.i64.wrap (c1 + 1))))
   else (
     some (decide (((a_a.length : Int) : Int) < (a_b.length : Int))))
def s_l4Less (a_a : List Int) (a_b : List Int) : Option (Bool) :=
 s_l4Less_L1 a_a a_b (((a_a.length : Int) - 0).toNat + 2) 0
theorem s_l4Less_ok (a_a : List Int) (v0_0 : Sv) (a_b : List Int) (v1_0 : Sv) (R : Bool) (hF : s_l4Less a_a a_b = some R) :
   Fw.Spec Tryz.prog 146 [v0_0.v, v1_0.v] [crd (RdS 3 rdInt) v0_0.v a_a, crd (RdS 3 rdInt) v1_0.v a_b] (fun _ : Unit => (.bool R)) (fun _ => []) := by
 refine Se 41 Tryz.func146 [.tmp 4] ?_
 intro H0 F0
 unfold s_l4Less at hF
 iterate 7 refine au ?_
 refine CW_block (CW_loop (m := (((a_a.length : Int) - 0).toNat + 2)) (fun m2 f' cs' => ∃ (g : Fr) (c1 : Int), f' = updL g [(0, v0_0.v), (1, v1_0.v), (5, (.int .i64 c1))] ∧ Ent cs' [crd (RdS 3 rdInt) v0_0.v a_a, crd (RdS 3 rdInt) v1_0.v a_b] ∧ s_l4Less_L1 a_a a_b m2 c1 = some R) ⟨_, _, eqA, entA, hF⟩ ?_)
 rintro m2 _ _ ⟨g3, c1, rfl, hE, hF⟩
 refine K_ent hE ?_
 rcases m2 with _ | m2
 · rw [s_l4Less_L1] at hF
   exact absurd hF (by simp)
 rw [s_l4Less_L1] at hF
 iterate 2 refine au ?_
 refine C_cut (fun f' cs' => ∃ (g : Fr), f' = updL g [(0, v0_0.v), (1, v1_0.v), (5, (.int .i64 c1)), (15, (.bool ((decide ((c1 : Int) < (a_a.length : Int))) && (decide ((c1 : Int) < (a_b.length : Int))))))] ∧ Ent cs' [crd (RdS 3 rdInt) v0_0.v a_a, crd (RdS 3 rdInt) v1_0.v a_b]) ?_ ?_
 · iterate 5 refine au ?_
   rcases Bool.eq_false_or_eq_true (decide ((c1 : Int) < (a_a.length : Int))) with hg10 | hg10
   · rw [hg10]
     try rw [hg10] at hF; dsimp only [cond_true, cond_false] at hF
     iterate 10 refine au ?_
     exact ⟨_, eqA, entA⟩
   rw [hg10]
   try rw [hg10] at hF; dsimp only [cond_true, cond_false] at hF
   iterate 6 refine au ?_
   exact ⟨_, eqA, entA⟩
 rintro _ _ ⟨g11, rfl, hE⟩
 refine K_ent hE ?_
 refine Ci hF (fun hb37 hF => ?_) (fun hb37 hF => ?_)
 · iterate 2 refine au ?_
   refine K_draw [0, 1, 2, 3, 4, 5, 6, 7, 8] [0, 0, 3, 7, 0, 0, 48, 112, 255] [] mixed (by decide +kernel) ?_
   iterate 2 refine du ?_
   refine bnd hF fun x12 hx13 hF => ?_
   obtain ⟨hp14, hx15⟩ := ix_some hx13
   refine Di hx15 (fun k16 j17 => ?_)
   refine Dl ls3_0 ?_
   iterate 2 refine du ?_
   refine bnd hF fun x18 hx19 hF => ?_
   obtain ⟨hp20, hx21⟩ := ix_some hx19
   refine Di hx21 (fun k22 j23 => ?_)
   refine Dl ls3_0 ?_
   iterate 2 refine du ?_
   refine Ci hF (fun hb36 hF => ?_) (fun hb36 hF => ?_)
   · refine K_draw [0, 1, 2, 3, 4, 5, 6, 7, 8, 9] [0, 0, 3, 7, 0, 0, 48, 112, 255, 511] [] mixed (by decide +kernel) ?_
     iterate 2 refine du ?_
     refine bnd hF fun x24 hx25 hF => ?_
     obtain ⟨hp26, hx27⟩ := ix_some hx25
     refine Di hx27 (fun k28 j29 => ?_)
     refine Dl ls3_0 ?_
     iterate 2 refine du ?_
     refine bnd hF fun x30 hx31 hF => ?_
     obtain ⟨hp32, hx33⟩ := ix_some hx31
     refine Di hx33 (fun k34 j35 => ?_)
     refine Dl ls3_0 ?_
     iterate 3 refine du ?_
     refine au ?_
     cases hF
     exact Er ()
   iterate 6 refine au ?_
   exact ⟨m2, Nat.lt_succ_self _, _, _, eqA, entA, hF⟩
 iterate 13 refine au ?_
 cases hF
 exact Er ()
def s_l15Less (a_a : List Int) (a_b : List Int) : Option (Bool) :=
 if (((a_a.length : Int) : Int) != (a_b.length : Int)) then (
   some (decide (((a_a.length : Int) : Int) < (a_b.length : Int))))
 else (
   (s_l4Less a_a a_b).bind fun r1 =>
   some r1)
theorem s_l15Less_ok (a_a : List Int) (v0_0 : Sv) (a_b : List Int) (v1_0 : Sv) (R : Bool) (hF : s_l15Less a_a a_b = some R) :
   Fw.Spec Tryz.prog 89 [v0_0.v, v1_0.v] [crd (RdS 3 rdInt) v0_0.v a_a, crd (RdS 3 rdInt) v1_0.v a_b] (fun _ : Unit => (.bool R)) (fun _ => []) := by
 refine Se 18 Tryz.func89 [.tmp 4] ?_
 intro H0 F0
 unfold s_l15Less at hF
 iterate 11 refine au ?_
 refine Ci hF (fun hb4 hF => ?_) (fun hb4 hF => ?_)
 · iterate 9 refine au ?_
   cases hF
   exact Er ()
 iterate 4 refine au ?_
 refine bnd hF fun r1 hx2 hF => Cx0 (s_l4Less_ok _ _ _ _ _ hx2) (fun _ => ?_)
 iterate 3 refine au ?_
 cases hF
 exact Er ()
def s_l2Has_L1 (a_x : Int) : List Int → Nat → Option (Bool)
 | [], k4 => some false
 | x6 :: rest5, k4 => if ((x6 : Int) == a_x) then (
     some true)
   else (
     s_l2Has_L1 a_x rest5 (k4 + 1))
def s_l2Has (a_l : List Int) (a_x : Int) : Option (Bool) :=
 s_l2Has_L1 a_x a_l 0
theorem s_l2Has_ok (a_l : List Int) (v0_0 : Sv) (a_x : Int) (R : Bool) (hF : s_l2Has a_l a_x = some R) :
   Fw.Spec Tryz.prog 148 [v0_0.v, (.int .i64 a_x)] [crd (RdS 3 rdInt) v0_0.v a_l] (fun _ : Unit => (.bool R)) (fun _ => []) := by
 refine Se 18 Tryz.func148 [.tmp 4] ?_
 intro H0 F0
 unfold s_l2Has at hF
 iterate 7 refine au ?_
 refine CW_block (CW_loop (m := a_l.length) (fun m2 f' cs' => ∃ (g : Fr) (k4 : Nat) (rest5 : List Int), m2 = rest5.length ∧ f' = updL g [(0, v0_0.v), (1, (.int .i64 a_x)), (5, (.int .i64 (k4 : Int)))] ∧ List.drop k4 a_l = rest5 ∧ Ent cs' [crd (RdS 3 rdInt) v0_0.v a_l] ∧ s_l2Has_L1 a_x rest5 k4 = some R) ⟨_, 0, _, rfl, eqA, rfl, entA, hF⟩ ?_)
 rintro m2 _ _ ⟨g3, k4, rest5, rfl, rfl, hd7, hE, hF⟩
 refine Kb hE a_l (fun hbd12 => ?_)
 rcases rest5 with _ | ⟨x6, rest5⟩
 · have hk8 := dn hd7
   rw [s_l2Has_L1] at hF
   iterate 7 refine au ?_
   refine CdF ?_
   iterate 8 refine au ?_
   cases hF
   exact Er ()
 obtain ⟨hk8, hx9, hd10⟩ := drop_cons hd7
 rw [s_l2Has_L1] at hF
 iterate 7 refine au ?_
 refine CdT ?_
 iterate 5 refine au ?_
 refine Ai hx9 (fun k13 j14 => ?_)
 refine Al ls3_0 ?_
 iterate 3 refine au ?_
 refine Ci hF (fun hb16 hF => ?_) (fun hb16 hF => ?_)
 · iterate 4 refine au ?_
   cases hF
   exact Er ()
 iterate 6 refine au ?_
 rw [wk k4]
 exact ⟨_, Nat.lt_succ_self _, _, k4 + 1, rest5, rfl, eqA, hd10, entA, hF⟩
def s_l8Access (a_m : Int) (a_values : List Int) : Option (Access) :=
 (app ([] : List Int) a_values).bind fun z3 =>
 some ({ Method := a_m, Values := z3 } : Access)
theorem s_l8Access_ok (a_m : Int) (a_values : List Int) (v1_0 : Sv) (R : Access) (hF : s_l8Access a_m a_values = some R) :
   Fw.Spec Tryz.prog 203 [(.int .i64 a_m), v1_0.v] [crd (RdS 3 rdInt) v1_0.v a_values] (fun p : Sv × List Nat => (.agg [(.int .i64 R.Method), p.1.v].toArray)) (fun p => [cown (OwnS 3 (roE rdInt)) p.2 p.1.v R.Values]) := by
 refine Se 10 Tryz.func203 [.cell 4 88] ?_
 intro H0 F0
 unfold s_l8Access at hF
 refine au ?_
 refine AnW (fun k1 => ?_)
 iterate 3 refine au ?_
 refine C_new rfl (N_buildSliceT (g := true) sl22.h ty3.h .nil (vs := []) rfl rfl rfl (by simp)) (fun k2 => ?_)
 refine Cv1 (.cons .h .nil) (own_lit (Ro := (roE rdInt)) (E := 3) (F := []) (xs := ([] : List Int)) MkL_nil rfl rfl) ?_
 refine au ?_
 refine bnd hF fun z3 hx4 hF => C_x1 (.cons .h (.rd (.t .h) rfl .nil)) (X_appendO (Ro := (roE rdInt)) sl22.h ni22 ty3.h rfl rfl rfl (.tmp rfl rfl) (.tmp rfl rfl) hx4 src_rd) (fun p5 => ?_)
 refine C_val (V_build ty88.h rfl (vs := [(.int .i64 a_m), p5.1.v]) (.cons (.tmp rfl rfl) (.cons (.tmp rfl rfl) .nil)) (cells := [(.int .i64 a_m), p5.1.v]) rfl) ?_
 refine As (.agg [(.int .i64 a_m), p5.1.v].toArray) ?_
 iterate 2 refine au ?_
 cases hF
 exact Er (p5.1, p5.2)
def s_l2One (a_rel : Int) (a_values : List Int) : Option (Fact) :=
 (app ([] : List Int) a_values).bind fun z3 =>
 some ({ Rel := a_rel, Values := z3 } : Fact)
theorem s_l2One_ok (a_rel : Int) (a_values : List Int) (v1_0 : Sv) (R : Fact) (hF : s_l2One a_rel a_values = some R) :
   Fw.Spec Tryz.prog 150 [(.int .i64 a_rel), v1_0.v] [crd (RdS 3 rdInt) v1_0.v a_values] (fun p : Sv × List Nat => (.agg [(.int .i64 R.Rel), p.1.v].toArray)) (fun p => [cown (OwnS 3 (roE rdInt)) p.2 p.1.v R.Values]) := by
 refine Se 10 Tryz.func150 [.cell 4 129] ?_
 intro H0 F0
 unfold s_l2One at hF
 refine au ?_
 refine AnW (fun k1 => ?_)
 iterate 3 refine au ?_
 refine C_new rfl (N_buildSliceT (g := true) sl22.h ty3.h .nil (vs := []) rfl rfl rfl (by simp)) (fun k2 => ?_)
 refine Cv1 (.cons .h .nil) (own_lit (Ro := (roE rdInt)) (E := 3) (F := []) (xs := ([] : List Int)) MkL_nil rfl rfl) ?_
 refine au ?_
 refine bnd hF fun z3 hx4 hF => C_x1 (.cons .h (.rd (.t .h) rfl .nil)) (X_appendO (Ro := (roE rdInt)) sl22.h ni22 ty3.h rfl rfl rfl (.tmp rfl rfl) (.tmp rfl rfl) hx4 src_rd) (fun p5 => ?_)
 refine C_val (V_build ty129.h rfl (vs := [(.int .i64 a_rel), p5.1.v]) (.cons (.tmp rfl rfl) (.cons (.tmp rfl rfl) .nil)) (cells := [(.int .i64 a_rel), p5.1.v]) rfl) ?_
 refine As (.agg [(.int .i64 a_rel), p5.1.v].toArray) ?_
 iterate 2 refine au ?_
 cases hF
 exact Er (p5.1, p5.2)
def s_l2Copy_L1 : List Fact → Nat → (List Fact) → Option ((List Fact))
 | [], k8, c2 => some c2
 | x10 :: rest9, k8, c2 => (s_l2One x10.Rel x10.Values).bind fun r22 =>
   (app c2 ([r22] : List Fact)).bind fun z26 =>
   s_l2Copy_L1 rest9 (k8 + 1) z26
def s_l2Copy (a_l : List Fact) : Option ((List Fact)) :=
 s_l2Copy_L1 a_l 0 ([] : List Fact)
theorem s_l2Copy_ok (a_l : List Fact) (v0_0 : Sv) (R : (List Fact)) (hF : s_l2Copy a_l = some R) :
   Fw.Spec Tryz.prog 204 [v0_0.v] [crd (RdS 129 rd129) v0_0.v a_l] (fun p : Sv × List Nat => p.1.v) (fun p => [cown (OwnS 129 ow129) p.2 p.1.v R]) := by
 refine Se 27 Tryz.func204 [.tmp 2] ?_
 intro H0 F0
 unfold s_l2Copy at hF
 iterate 4 refine au ?_
 refine C_new rfl (N_buildSliceT (g := true) sl52.h ty129.h .nil (vs := []) rfl rfl rfl (by simp)) (fun k1 => ?_)
 refine Cv1 (.cons .h .nil) (own_lit (Ro := ow129) (E := 129) (F := []) (xs := ([] : List Fact)) MkL_nil rfl rfl) ?_
 iterate 6 refine au ?_
 refine CW_block (CW_loop (m := a_l.length) (fun m6 f' cs' => ∃ (g : Fr) (k8 : Nat) (rest9 : List Fact) (c2 : List Fact) (v3 : Sv) (F4 : List Nat), m6 = rest9.length ∧ f' = updL g [(0, v0_0.v), (3, v3.v), (4, (.int .i64 (k8 : Int)))] ∧ List.drop k8 a_l = rest9 ∧ Ent cs' [crd (RdS 129 rd129) v0_0.v a_l, cown (OwnS 129 ow129) F4 v3.v c2] ∧ s_l2Copy_L1 rest9 k8 c2 = some R) ⟨_, 0, _, _, ⟨(some ⟨k1, 0, none⟩), 0, 1⟩, (k1 :: []), rfl, eqA, rfl, entA, hF⟩ ?_)
 rintro m6 _ _ ⟨g7, k8, rest9, c2, v3, F4, rfl, rfl, hd11, hE, hF⟩
 refine Kb hE a_l (fun hbd16 => ?_)
 rcases rest9 with _ | ⟨x10, rest9⟩
 · have hk12 := dn hd11
   rw [s_l2Copy_L1] at hF
   iterate 7 refine au ?_
   refine CdF ?_
   iterate 9 refine au ?_
   cases hF
   exact Er (v3, F4)
 obtain ⟨hk12, hx13, hd14⟩ := drop_cons hd11
 rw [s_l2Copy_L1] at hF
 iterate 7 refine au ?_
 refine CdT ?_
 iterate 2 refine au ?_
 refine CW_draw [0, 1, 2, 3, 4, 5, 6, 7, 8, 9, 10, 11, 12, 13, 14] [0, 0, 0, 6, 14, 30, 0, 0, 192, 448, 960, 2046, 4094, 8191, 16383] [11, 13] mixed (by decide +kernel) ?_
 iterate 3 refine du ?_
 refine Di hx13 (fun k17 j18 => ?_)
 refine du ?_
 refine Dl ls129_0 ?_
 iterate 2 refine du ?_
 refine Di hx13 (fun k19 j20 => ?_)
 refine du ?_
 refine D_ldV (R' := (RdS 3 rdInt)) ag22.h rfl .no (.tmp rfl rfl) rfl .h lv129_1 (fun w21 => ?_)
 refine bnd hF fun r22 hx23 hF => Dx1 (s_l2One_ok _ _ _ _ hx23) (fun p24 => ?_)
 refine D_new rfl .no rfl (fun ha => N_buildSliceT (g := true) (len := 1) (parts := [(0, .tmp 23)]) sl52.h ty129.h (.cons (EN ha (.tmp rfl rfl) rfl) .nil) (vs := [(.agg [(.int .i64 r22.Rel), p24.1.v].toArray)]) rfl rfl rfl (by intro v hv; simp at hv; rcases hv with rfl <;> rfl)) (fun k25 => ?_)
 refine Dv1 (.cons .h (.cons .h .nil)) (own_lit (Ro := ow129) (E := 129) (F := (p24.2 ++ [])) (xs := ([r22] : List Fact)) (MkL_cons mk129 MkL_nil apps) rfl rfl) ?_
 refine bnd hF fun z26 hx27 hF => D_act1 rfl rfl .no (.cons (.t (.t (.t (.t (.t .h))))) (.cons .h .nil)) (.dep rfl .nil) (fun ha => X_appendO (Ro := ow129) sl52.h ni52 ty129.h rfl rfl rfl (EN ha (.tmp rfl rfl) rfl) (EN ha (.tmp rfl rfl) rfl) hx27 src_own) (fun p28 => ?_)
 iterate 2 refine du ?_
 iterate 5 refine au ?_
 rw [wk k8]
 exact ⟨_, Nat.lt_succ_self _, _, k8 + 1, rest9, _, p28.1, p28.2, rfl, eqA, hd14, entA, hF⟩
def s_l29Told (a_t : Told) : Option (Told) :=
 (s_l8Access a_t.Access.Method a_t.Access.Values).bind fun r3 =>
 (s_l2Copy a_t.Facts).bind fun r6 =>
 some ({ Access := r3, Facts := r6 } : Told)
theorem s_l29Told_ok (a_t : Told) (v0_1 : Sv) (v0_2 : Sv) (R : Told) (hF : s_l29Told a_t = some R) :
   Fw.Spec Tryz.prog 149 [(.agg [(.int .i64 a_t.Access.Method), v0_1.v, v0_2.v].toArray)] [crd (RdS 3 rdInt) v0_1.v a_t.Access.Values, crd (RdS 129 rd129) v0_2.v a_t.Facts] (fun p : Sv × List Nat × Sv × List Nat => (.agg [(.int .i64 R.Access.Method), p.1.v, p.2.2.1.v].toArray)) (fun p => [cown (OwnS 3 (roE rdInt)) p.2.1 p.1.v R.Access.Values, cown (OwnS 129 ow129) p.2.2.2 p.2.2.1.v R.Facts]) := by
 refine Se 14 Tryz.func149 [.cell 2 90] ?_
 intro H0 F0
 unfold s_l29Told at hF
 refine au ?_
 refine AbR (fun k1 => ?_)
 refine AnW (fun k2 => ?_)
 refine au ?_
 refine K_draw [0, 1, 2, 3, 4, 5, 7, 8, 6, 9, 10, 11] [0, 1, 3, 0, 8, 24, 63, 0, 128, 511, 1023, 2047] [6, 9, 11] mixed (by decide +kernel) ?_
 iterate 8 refine du ?_
 refine bnd hF fun r3 hx4 hF => Dx1 (s_l8Access_ok _ _ _ _ hx4) (fun p5 => ?_)
 refine bnd hF fun r6 hx7 hF => Dx1 (s_l2Copy_ok _ _ _ hx7) (fun p8 => ?_)
 refine D_val rfl .no (fun ha => V_build ty90.h rfl (vs := [(.agg [(.int .i64 r3.Method), p5.1.v].toArray), p8.1.v]) (.cons (EN ha (.tmp rfl rfl) rfl) (.cons (EN ha (.tmp rfl rfl) rfl) .nil)) (cells := [(.int .i64 r3.Method), p5.1.v, p8.1.v]) rfl) ?_
 refine D_act1 rfl rfl .no (.cons (.t (.t .h)) .nil) .nil (fun ha => X_storeB (e' := (.agg [(.int .i64 r3.Method), p5.1.v, p8.1.v].toArray)) (v := (.agg [(.int .i64 r3.Method), p5.1.v, p8.1.v].toArray)) ty90.h.sz (EN ha (.tmp rfl rfl) rfl) (EN ha (.tmp rfl rfl) rfl) rfl rfl rfl rfl rfl) (fun _ => ?_)
 refine du ?_
 refine au ?_
 cases hF
 exact Er (p5.1, p5.2, p8.1, p8.2)
def s_Without_L1 (a_drop : List Int) : List Told → Nat → (List Told) → Option ((List Told))
 | [], k8, c2 => some c2
 | x10 :: rest9, k8, c2 => ((s_l2Has a_drop (k8 : Int)).bind fun r19 =>
     if (!r19) then (
       (s_l29Told x10).bind fun r25 =>
       (app c2 ([r25] : List Told)).bind fun z30 =>
       some z30)
     else (
       some c2)).bind fun o17 =>
   match o17 with
   | c34 => s_Without_L1 a_drop rest9 (k8 + 1) c34
def s_Without (a_list : List Told) (a_drop : List Int) : Option ((List Told)) :=
 s_Without_L1 a_drop a_list 0 ([] : List Told)
theorem s_Without_ok (a_list : List Told) (v0_0 : Sv) (a_drop : List Int) (v1_0 : Sv) (R : (List Told)) (hF : s_Without a_list a_drop = some R) :
   Fw.Spec Tryz.prog 91 [v0_0.v, v1_0.v] [crd (RdS 90 rd90) v0_0.v a_list, crd (RdS 3 rdInt) v1_0.v a_drop] (fun p : Sv × List Nat => p.1.v) (fun p => [cown (OwnS 90 ow90) p.2 p.1.v R]) := by
 refine Se 29 Tryz.func91 [.tmp 4] ?_
 intro H0 F0
 unfold s_Without at hF
 iterate 4 refine au ?_
 refine C_new rfl (N_buildSliceT (g := true) sl31.h ty90.h .nil (vs := []) rfl rfl rfl (by simp)) (fun k1 => ?_)
 refine Cv1 (.cons .h .nil) (own_lit (Ro := ow90) (E := 90) (F := []) (xs := ([] : List Told)) MkL_nil rfl rfl) ?_
 iterate 6 refine au ?_
 refine CW_block (CW_loop (m := a_list.length) (fun m6 f' cs' => ∃ (g : Fr) (k8 : Nat) (rest9 : List Told) (c2 : List Told) (v3 : Sv) (F4 : List Nat), m6 = rest9.length ∧ f' = updL g [(0, v0_0.v), (1, v1_0.v), (5, v3.v), (6, (.int .i64 (k8 : Int)))] ∧ List.drop k8 a_list = rest9 ∧ Ent cs' [crd (RdS 90 rd90) v0_0.v a_list, crd (RdS 3 rdInt) v1_0.v a_drop, cown (OwnS 90 ow90) F4 v3.v c2] ∧ s_Without_L1 a_drop rest9 k8 c2 = some R) ⟨_, 0, _, _, ⟨(some ⟨k1, 0, none⟩), 0, 1⟩, (k1 :: []), rfl, eqA, rfl, entA, hF⟩ ?_)
 rintro m6 _ _ ⟨g7, k8, rest9, c2, v3, F4, rfl, rfl, hd11, hE, hF⟩
 refine Kb hE a_list (fun hbd16 => ?_)
 rcases rest9 with _ | ⟨x10, rest9⟩
 · have hk12 := dn hd11
   rw [s_Without_L1] at hF
   iterate 7 refine au ?_
   refine CdF ?_
   iterate 9 refine au ?_
   cases hF
   exact Er (v3, F4)
 obtain ⟨hk12, hx13, hd14⟩ := drop_cons hd11
 rw [s_Without_L1] at hF
 iterate 7 refine au ?_
 refine CdT ?_
 refine au ?_
 obtain ⟨o17, hio17, hO18⟩ := bind_some hF
 refine K_cut (fun f' cs' => ∃ (c34 : List Told) (v35 : Sv) (F36 : List Nat) (g : Fr), c34 = o17 ∧ f' = updL g [(0, v0_0.v), (1, v1_0.v), (5, v35.v), (6, (.int .i64 (k8 : Int)))] ∧ Ent cs' [crd (RdS 90 rd90) v0_0.v a_list, crd (RdS 3 rdInt) v1_0.v a_drop, cown (OwnS 90 ow90) F36 v35.v c34]) ?_ ?_
 · replace hF := hio17
   refine CW_block (K_region (Cm v1_0.v rfl rfl ?_))
   refine au ?_
   refine bnd hF fun r19 hx20 hF => Cx0 (s_l2Has_ok _ _ _ _ hx20) (fun _ => ?_)
   iterate 2 refine au ?_
   refine Ci hF (fun hb33 hF => ?_) (fun hb33 hF => ?_)
   · iterate 3 refine au ?_
     refine Ai hx13 (fun k22 j23 => ?_)
     refine AlA2 (ul90_0_90 x10) la90_0_90 (fun p24 => ?_)
     refine bnd hF fun r25 hx26 hF => Cx2 (s_l29Told_ok _ _ _ _ hx26) (fun p27 => ?_)
     refine AnW (fun k28 => ?_)
     refine As (.agg [(.int .i64 r25.Access.Method), p27.1.v, p27.2.2.1.v].toArray) ?_
     iterate 4 refine au ?_
     refine C_new rfl (N_buildSliceT (g := true) sl31.h ty90.h (.cons (.tmp rfl rfl) .nil) (vs := [(.agg [(.int .i64 r25.Access.Method), p27.1.v, p27.2.2.1.v].toArray)]) rfl rfl rfl (by intro v hv; simp at hv; rcases hv with rfl <;> rfl)) (fun k29 => ?_)
     refine Cv1 (.cons .h (.cons (.t .h) (.cons (.t .h) .nil))) (own_lit (Ro := ow90) (E := 90) (F := ((p27.2.1 ++ p27.2.2.2) ++ [])) (xs := ([r25] : List Told)) (MkL_cons mk90 MkL_nil apps) rfl rfl) ?_
     refine bnd hF fun z30 hx31 hF => C_x1 (.cons (.t (.t (.t (.t (.t (.t (.t .h))))))) (.cons .h .nil)) (X_appendO (Ro := ow90) sl31.h ni31 ty90.h rfl rfl rfl (.tmp rfl rfl) (.tmp rfl rfl) hx31 src_own) (fun p32 => ?_)
     iterate 2 refine au ?_
     cases hF
     exact ⟨_, p32.1, p32.2, _, rfl, eqA, entA⟩
   refine au ?_
   cases hF
   exact ⟨_, v3, F4, _, rfl, eqA, entA⟩
 rintro _ _ ⟨c34, v35, F36, g38, rfl, rfl, hE⟩
 replace hF := hO18
 try dsimp only at hF
 refine K_ent hE ?_
 iterate 5 refine au ?_
 rw [wk k8]
 exact ⟨_, Nat.lt_succ_self _, _, k8 + 1, rest9, _, v35, F36, rfl, eqA, hd14, entA, hF⟩
def s_IsAccess_L1 : List Int → Nat → Option (Bool)
 | [], k23 => some true
 | x25 :: rest24, k23 => (s_l1In x25 0 9).bind fun r34 =>
   if (!r34) then (
     some false)
   else (
     s_IsAccess_L1 rest24 (k23 + 1))
def s_IsAccess (a_s : List Int) (a_l : List Method) (a_a : Access) : Option (Bool) :=
 ((s_AreMethods a_s a_l).bind fun r4 =>
   bif (!r4) then (some true)
   else ((s_l1In a_a.Method 0 (IntKind.i64.wrap ((a_l.length : Int) - 1))).bind fun r8 =>
     bif (!r8) then (some true)
     else ((ix a_l a_a.Method).bind fun x12 =>
       some (((a_a.Values.length : Int) : Int) != (x12.Inputs.length : Int))))).bind fun o2 =>
 match o2 with
 | c19 => if c19 then (
     some false)
   else (
     s_IsAccess_L1 a_a.Values 0)
theorem s_IsAccess_ok (a_s : List Int) (v0_0 : Sv) (a_l : List Method) (v1_0 : Sv) (a_a : Access) (v2_1 : Sv) (R : Bool) (hF : s_IsAccess a_s a_l a_a = some R) :
   Fw.Spec Tryz.prog 110 [v0_0.v, v1_0.v, (.agg [(.int .i64 a_a.Method), v2_1.v].toArray)] [crd (RdS 3 rdInt) v0_0.v a_s, crd (RdS 86 rd86) v1_0.v a_l, crd (RdS 3 rdInt) v2_1.v a_a.Values] (fun _ : Unit => (.bool R)) (fun _ => []) := by
 refine Se 48 Tryz.func110 [.tmp 6] ?_
 intro H0 F0
 unfold s_IsAccess at hF
 refine au ?_
 refine AbR (fun k1 => ?_)
 iterate 3 refine au ?_
 obtain ⟨o2, hio2, hO3⟩ := bind_some hF
 refine K_draw [0, 1, 2, 3, 4, 5, 6, 7, 8, 9, 10, 11, 12, 13, 14, 15, 16, 17, 18, 19, 20, 21, 22, 23, 24, 25] [0, 0, 3, 7, 15, 31, 63, 31, 159, 415, 1023, 2047, 4095, 8191, 16383, 32767, 65535, 16383, 16383, 278527, 933887, 1982463, 4079615, 8273919, 16777215, 33554431] [2, 10] mixed (by decide +kernel) ?_
 refine D_cut (fun f' cs' => ∃ (c19 : Bool) (g : Fr), c19 = o2 ∧ f' = updL g [(5, (pz k1)), (33, (.bool c19))] ∧ Ent cs' [cboR k1 88 (.agg [(.int .i64 a_a.Method), v2_1.v].toArray), crd (RdS 3 rdInt) v2_1.v a_a.Values]) ?_ ?_
 · replace hF := hio2
   iterate 2 refine du ?_
   refine bnd hF fun r4 hx5 hF => Dx0 (s_AreMethods_ok _ _ _ _ _ hx5) (fun _ => ?_)
   iterate 2 refine du ?_
   rcases Bool.eq_false_or_eq_true (!r4) with hg7 | hg7
   · rw [hg7]
     try rw [hg7] at hF; dsimp only [cond_true, cond_false] at hF
     iterate 22 refine du ?_
     cases hF
     exact ⟨_, _, rfl, eqA, entA⟩
   rw [hg7]
   try rw [hg7] at hF; dsimp only [cond_true, cond_false] at hF
   iterate 5 refine du ?_
   refine bnd hF fun r8 hx9 hF => Dx0 (s_l1In_ok _ _ _ _ hx9) (fun _ => ?_)
   iterate 3 refine du ?_
   rcases Bool.eq_false_or_eq_true (!r8) with hg11 | hg11
   · rw [hg11]
     try rw [hg11] at hF; dsimp only [cond_true, cond_false] at hF
     iterate 13 refine du ?_
     cases hF
     exact ⟨_, _, rfl, eqA, entA⟩
   rw [hg11]
   try rw [hg11] at hF; dsimp only [cond_true, cond_false] at hF
   iterate 6 refine du ?_
   refine bnd hF fun x12 hx13 hF => ?_
   obtain ⟨hp14, hx15⟩ := ix_some hx13
   refine Di hx15 (fun k16 j17 => ?_)
   refine du ?_
   refine D_ldV (R' := (RdS 3 rdInt)) ag22.h rfl (.on 21 rfl rfl rfl) (.tmp rfl rfl) rfl .h lv86_1 (fun w18 => ?_)
   iterate 4 refine du ?_
   cases hF
   exact ⟨_, _, rfl, eqA, entA⟩
 rintro _ _ ⟨c19, g40, rfl, rfl, hE⟩
 replace hF := hO3
 try dsimp only at hF
 refine K_ent hE ?_
 refine Ci hF (fun hb39 hF => ?_) (fun hb39 hF => ?_)
 · iterate 4 refine au ?_
   cases hF
   exact Er ()
 iterate 5 refine au ?_
 refine CW_block (CW_loop (m := a_a.Values.length) (fun m21 f' cs' => ∃ (g : Fr) (k23 : Nat) (rest24 : List Int), m21 = rest24.length ∧ f' = updL g [(5, (pz k1)), (7, (.int .i64 (k23 : Int)))] ∧ List.drop k23 a_a.Values = rest24 ∧ Ent cs' [cboR k1 88 (.agg [(.int .i64 a_a.Method), v2_1.v].toArray), crd (RdS 3 rdInt) v2_1.v a_a.Values] ∧ s_IsAccess_L1 rest24 k23 = some R) ⟨_, 0, _, rfl, eqA, rfl, entA, hF⟩ ?_)
 rintro m21 _ _ ⟨g22, k23, rest24, rfl, rfl, hd26, hE, hF⟩
 refine Kb hE a_a.Values (fun hbd31 => ?_)
 rcases rest24 with _ | ⟨x25, rest24⟩
 · have hk27 := dn hd26
   rw [s_IsAccess_L1] at hF
   iterate 8 refine au ?_
   refine CdF ?_
   iterate 8 refine au ?_
   cases hF
   exact Er ()
 obtain ⟨hk27, hx28, hd29⟩ := drop_cons hd26
 rw [s_IsAccess_L1] at hF
 iterate 8 refine au ?_
 refine CdT ?_
 iterate 6 refine au ?_
 refine Ai hx28 (fun k32 j33 => ?_)
 refine Al ls3_0 ?_
 refine bnd hF fun r34 hx35 hF => Cx0 (s_l1In_ok _ _ _ _ hx35) (fun _ => ?_)
 iterate 2 refine au ?_
 refine Ci hF (fun hb38 hF => ?_) (fun hb38 hF => ?_)
 · iterate 4 refine au ?_
   cases hF
   exact Er ()
 iterate 6 refine au ?_
 rw [wk k23]
 exact ⟨_, Nat.lt_succ_self _, _, k23 + 1, rest24, rfl, eqA, hd29, entA, hF⟩
def s_IsFact_L1 : List Int → Nat → Option (Bool)
 | [], k22 => some true
 | x24 :: rest23, k22 => (s_l1In x24 0 9).bind fun r33 =>
   if (!r33) then (
     some false)
   else (
     s_IsFact_L1 rest23 (k22 + 1))
def s_IsFact (a_s : List Int) (a_f : Fact) : Option (Bool) :=
 ((s_IsSchema a_s).bind fun r4 =>
   bif (!r4) then (some true)
   else ((s_l1In a_f.Rel 0 (IntKind.i64.wrap ((a_s.length : Int) - 1))).bind fun r8 =>
     bif (!r8) then (some true)
     else ((ix a_s a_f.Rel).bind fun x12 =>
       some (((a_f.Values.length : Int) : Int) != x12)))).bind fun o2 =>
 match o2 with
 | c18 => if c18 then (
     some false)
   else (
     s_IsFact_L1 a_f.Values 0)
theorem s_IsFact_ok (a_s : List Int) (v0_0 : Sv) (a_f : Fact) (v1_1 : Sv) (R : Bool) (hF : s_IsFact a_s a_f = some R) :
   Fw.Spec Tryz.prog 134 [v0_0.v, (.agg [(.int .i64 a_f.Rel), v1_1.v].toArray)] [crd (RdS 3 rdInt) v0_0.v a_s, crd (RdS 3 rdInt) v1_1.v a_f.Values] (fun _ : Unit => (.bool R)) (fun _ => []) := by
 refine Se 43 Tryz.func134 [.tmp 4] ?_
 intro H0 F0
 unfold s_IsFact at hF
 refine au ?_
 refine AbR (fun k1 => ?_)
 iterate 3 refine au ?_
 obtain ⟨o2, hio2, hO3⟩ := bind_some hF
 refine K_draw [0, 1, 2, 3, 4, 5, 6, 7, 8, 9, 10, 11, 12, 13, 14, 15, 16, 17, 18, 19, 20, 21, 22] [0, 1, 3, 7, 15, 31, 15, 79, 207, 511, 1023, 2047, 4095, 8191, 16383, 32767, 8191, 8191, 139263, 466943, 991231, 2097151, 4194303] [1, 9] mixed (by decide +kernel) ?_
 refine D_cut (fun f' cs' => ∃ (c18 : Bool) (g : Fr), c18 = o2 ∧ f' = updL g [(3, (pz k1)), (28, (.bool c18))] ∧ Ent cs' [cboR k1 129 (.agg [(.int .i64 a_f.Rel), v1_1.v].toArray), crd (RdS 3 rdInt) v1_1.v a_f.Values]) ?_ ?_
 · replace hF := hio2
   refine du ?_
   refine bnd hF fun r4 hx5 hF => Dx0 (s_IsSchema_ok _ _ _ hx5) (fun _ => ?_)
   iterate 2 refine du ?_
   rcases Bool.eq_false_or_eq_true (!r4) with hg7 | hg7
   · rw [hg7]
     try rw [hg7] at hF; dsimp only [cond_true, cond_false] at hF
     iterate 20 refine du ?_
     cases hF
     exact ⟨_, _, rfl, eqA, entA⟩
   rw [hg7]
   try rw [hg7] at hF; dsimp only [cond_true, cond_false] at hF
   iterate 5 refine du ?_
   refine bnd hF fun r8 hx9 hF => Dx0 (s_l1In_ok _ _ _ _ hx9) (fun _ => ?_)
   iterate 3 refine du ?_
   rcases Bool.eq_false_or_eq_true (!r8) with hg11 | hg11
   · rw [hg11]
     try rw [hg11] at hF; dsimp only [cond_true, cond_false] at hF
     iterate 11 refine du ?_
     cases hF
     exact ⟨_, _, rfl, eqA, entA⟩
   rw [hg11]
   try rw [hg11] at hF; dsimp only [cond_true, cond_false] at hF
   iterate 6 refine du ?_
   refine bnd hF fun x12 hx13 hF => ?_
   obtain ⟨hp14, hx15⟩ := ix_some hx13
   refine Di hx15 (fun k16 j17 => ?_)
   refine Dl ls3_0 ?_
   iterate 3 refine du ?_
   cases hF
   exact ⟨_, _, rfl, eqA, entA⟩
 rintro _ _ ⟨c18, g39, rfl, rfl, hE⟩
 replace hF := hO3
 try dsimp only at hF
 refine K_ent hE ?_
 refine Ci hF (fun hb38 hF => ?_) (fun hb38 hF => ?_)
 · iterate 4 refine au ?_
   cases hF
   exact Er ()
 iterate 5 refine au ?_
 refine CW_block (CW_loop (m := a_f.Values.length) (fun m20 f' cs' => ∃ (g : Fr) (k22 : Nat) (rest23 : List Int), m20 = rest23.length ∧ f' = updL g [(3, (pz k1)), (5, (.int .i64 (k22 : Int)))] ∧ List.drop k22 a_f.Values = rest23 ∧ Ent cs' [cboR k1 129 (.agg [(.int .i64 a_f.Rel), v1_1.v].toArray), crd (RdS 3 rdInt) v1_1.v a_f.Values] ∧ s_IsFact_L1 rest23 k22 = some R) ⟨_, 0, _, rfl, eqA, rfl, entA, hF⟩ ?_)
 rintro m20 _ _ ⟨g21, k22, rest23, rfl, rfl, hd25, hE, hF⟩
 refine Kb hE a_f.Values (fun hbd30 => ?_)
 rcases rest23 with _ | ⟨x24, rest23⟩
 · have hk26 := dn hd25
   rw [s_IsFact_L1] at hF
   iterate 8 refine au ?_
   refine CdF ?_
   iterate 8 refine au ?_
   cases hF
   exact Er ()
 obtain ⟨hk26, hx27, hd28⟩ := drop_cons hd25
 rw [s_IsFact_L1] at hF
 iterate 8 refine au ?_
 refine CdT ?_
 iterate 6 refine au ?_
 refine Ai hx27 (fun k31 j32 => ?_)
 refine Al ls3_0 ?_
 refine bnd hF fun r33 hx34 hF => Cx0 (s_l1In_ok _ _ _ _ hx34) (fun _ => ?_)
 iterate 2 refine au ?_
 refine Ci hF (fun hb37 hF => ?_) (fun hb37 hF => ?_)
 · iterate 4 refine au ?_
   cases hF
   exact Er ()
 iterate 6 refine au ?_
 rw [wk k22]
 exact ⟨_, Nat.lt_succ_self _, _, k22 + 1, rest23, rfl, eqA, hd28, entA, hF⟩
def s_CompareFacts_L1 (a_a : Fact) (a_b : Fact) : Nat → Int → Option (Int)
 | 0, _ => none
 | m5 + 1, c4 => if ((decide ((c4 : Int) < (a_a.Values.length : Int))) && (decide ((c4 : Int) < (a_b.Values.length : Int)))) then (
     (ix a_a.Values c4).bind fun x15 =>
     (ix a_b.Values c4).bind fun x21 =>
     if (decide ((x15 : Int) < x21)) then (
       some (-1))
     else (
       (ix a_a.Values c4).bind fun x27 =>
       (ix a_b.Values c4).bind fun x33 =>
       if (decide ((x33 : Int) < x27)) then (
         some 1)
       else (
         s_CompareFacts_L1 a_a a_b m5 (IntKind.i64.wrap (c4 + 1)))))
   else (
     if (decide (((a_a.Values.length : Int) : Int) < (a_b.Values.length : Int))) then (
       some (-1))
     else (
       if (decide (((a_b.Values.length : Int) : Int) < (a_a.Values.length : Int))) then (
         some 1)
       else (
         some 0)))
def s_CompareFacts (a_a : Fact) (a_b : Fact) : Option (Int) :=
 if ((a_a.Rel : Int) != a_b.Rel) then (
   if (decide ((a_a.Rel : Int) < a_b.Rel)) then (
     some (-1))
   else (
     some 1))
 else (
   s_CompareFacts_L1 a_a a_b (((a_a.Values.length : Int) - 0).toNat + 2) 0)
theorem s_CompareFacts_ok (a_a : Fact) (v0_1 : Sv) (a_b : Fact) (v1_1 : Sv) (R : Int) (hF : s_CompareFacts a_a a_b = some R) :
   Fw.Spec Tryz.prog 135 [(.agg [(.int .i64 a_a.Rel), v0_1.v].toArray), (.agg [(.int .i64 a_b.Rel), v1_1.v].toArray)] [crd (RdS 3 rdInt) v0_1.v a_a.Values, crd (RdS 3 rdInt) v1_1.v a_b.Values] (fun _ : Unit => (.int .i64 R)) (fun _ => []) := by
 refine Se 66 Tryz.func135 [.tmp 4] ?_
 intro H0 F0
 unfold s_CompareFacts at hF
 refine au ?_
 refine AbR (fun k1 => ?_)
 refine AbR (fun k2 => ?_)
 iterate 10 refine au ?_
 refine Ci hF (fun hb44 hF => ?_) (fun hb44 hF => ?_)
 · iterate 8 refine au ?_
   refine Ci hF (fun hb3 hF => ?_) (fun hb3 hF => ?_)
   · iterate 4 refine au ?_
     cases hF
     exact Er ()
   iterate 5 refine au ?_
   cases hF
   exact Er ()
 iterate 5 refine au ?_
 refine CW_block (CW_loop (m := (((a_a.Values.length : Int) - 0).toNat + 2)) (fun m5 f' cs' => ∃ (g : Fr) (c4 : Int), f' = updL g [(2, (pz k1)), (3, (pz k2)), (5, (.int .i64 c4))] ∧ Ent cs' [cboR k1 129 (.agg [(.int .i64 a_a.Rel), v0_1.v].toArray), crd (RdS 3 rdInt) v0_1.v a_a.Values, cboR k2 129 (.agg [(.int .i64 a_b.Rel), v1_1.v].toArray), crd (RdS 3 rdInt) v1_1.v a_b.Values] ∧ s_CompareFacts_L1 a_a a_b m5 c4 = some R) ⟨_, _, eqA, entA, hF⟩ ?_)
 rintro m5 _ _ ⟨g6, c4, rfl, hE, hF⟩
 refine K_ent hE ?_
 rcases m5 with _ | m5
 · rw [s_CompareFacts_L1] at hF
   exact absurd hF (by simp)
 rw [s_CompareFacts_L1] at hF
 iterate 2 refine au ?_
 refine C_cut (fun f' cs' => ∃ (g : Fr), f' = updL g [(2, (pz k1)), (3, (pz k2)), (5, (.int .i64 c4)), (27, (.bool ((decide ((c4 : Int) < (a_a.Values.length : Int))) && (decide ((c4 : Int) < (a_b.Values.length : Int))))))] ∧ Ent cs' [cboR k1 129 (.agg [(.int .i64 a_a.Rel), v0_1.v].toArray), crd (RdS 3 rdInt) v0_1.v a_a.Values, cboR k2 129 (.agg [(.int .i64 a_b.Rel), v1_1.v].toArray), crd (RdS 3 rdInt) v1_1.v a_b.Values]) ?_ ?_
 · iterate 6 refine au ?_
   rcases Bool.eq_false_or_eq_true (decide ((c4 : Int) < (a_a.Values.length : Int))) with hg13 | hg13
   · rw [hg13]
     try rw [hg13] at hF; dsimp only [cond_true, cond_false] at hF
     iterate 12 refine au ?_
     exact ⟨_, eqA, entA⟩
   rw [hg13]
   try rw [hg13] at hF; dsimp only [cond_true, cond_false] at hF
   iterate 7 refine au ?_
   exact ⟨_, eqA, entA⟩
 rintro _ _ ⟨g14, rfl, hE⟩
 refine K_ent hE ?_
 refine Ci hF (fun hb43 hF => ?_) (fun hb43 hF => ?_)
 · iterate 3 refine au ?_
   refine K_draw [0, 1, 2, 3, 4, 5, 6, 7, 8, 9, 10] [0, 1, 0, 7, 15, 0, 32, 0, 224, 480, 1023] [] mixed (by decide +kernel) ?_
   iterate 3 refine du ?_
   refine bnd hF fun x15 hx16 hF => ?_
   obtain ⟨hp17, hx18⟩ := ix_some hx16
   refine Di hx18 (fun k19 j20 => ?_)
   refine Dl ls3_0 ?_
   iterate 3 refine du ?_
   refine bnd hF fun x21 hx22 hF => ?_
   obtain ⟨hp23, hx24⟩ := ix_some hx22
   refine Di hx24 (fun k25 j26 => ?_)
   refine Dl ls3_0 ?_
   iterate 2 refine du ?_
   refine Ci hF (fun hb40 hF => ?_) (fun hb40 hF => ?_)
   · iterate 4 refine au ?_
     cases hF
     exact Er ()
   refine au ?_
   refine K_draw [0, 1, 2, 3, 4, 5, 6, 7, 8, 9, 10] [0, 1, 0, 7, 15, 0, 32, 0, 224, 480, 1023] [] mixed (by decide +kernel) ?_
   iterate 3 refine du ?_
   refine bnd hF fun x27 hx28 hF => ?_
   obtain ⟨hp29, hx30⟩ := ix_some hx28
   refine Di hx30 (fun k31 j32 => ?_)
   refine Dl ls3_0 ?_
   iterate 3 refine du ?_
   refine bnd hF fun x33 hx34 hF => ?_
   obtain ⟨hp35, hx36⟩ := ix_some hx34
   refine Di hx36 (fun k37 j38 => ?_)
   refine Dl ls3_0 ?_
   iterate 2 refine du ?_
   refine Ci hF (fun hb39 hF => ?_) (fun hb39 hF => ?_)
   · iterate 4 refine au ?_
     cases hF
     exact Er ()
   iterate 6 refine au ?_
   exact ⟨m5, Nat.lt_succ_self _, _, _, eqA, entA, hF⟩
 iterate 14 refine au ?_
 refine Ci hF (fun hb42 hF => ?_) (fun hb42 hF => ?_)
 · iterate 4 refine au ?_
   cases hF
   exact Er ()
 iterate 11 refine au ?_
 refine Ci hF (fun hb41 hF => ?_) (fun hb41 hF => ?_)
 · iterate 4 refine au ?_
   cases hF
   exact Er ()
 iterate 5 refine au ?_
 cases hF
 exact Er ()
def s_AreFacts_L1 (a_s : List Int) (a_l : List Fact) : List Fact → Nat → Option (Bool)
 | [], k4 => ((s_IsSchema a_s).bind fun r15 =>
     bif r15 then (some (decide (((a_l.length : Int) : Int) ≤ 24)))
     else (some false)).bind fun o13 =>
   match o13 with
   | c19 => some c19
 | x6 :: rest5, k4 => ((s_IsFact a_s x6).bind fun r26 =>
     bif (!r26) then (some true)
     else (bif (decide ((0 : Int) < (k4 : Int))) then ((ix a_l (IntKind.i64.wrap ((k4 : Int) - 1))).bind fun x31 =>
         (s_CompareFacts x31 x6).bind fun r41 =>
         some (decide ((0 : Int) ≤ r41)))
       else (some false))).bind fun o21 =>
   match o21 with
   | c44 => if c44 then (
       some false)
     else (
       s_AreFacts_L1 a_s a_l rest5 (k4 + 1))
def s_AreFacts (a_s : List Int) (a_l : List Fact) : Option (Bool) :=
 s_AreFacts_L1 a_s a_l a_l 0
theorem s_AreFacts_ok (a_s : List Int) (v0_0 : Sv) (a_l : List Fact) (v1_0 : Sv) (R : Bool) (hF : s_AreFacts a_s a_l = some R) :
   Fw.Spec Tryz.prog 80 [v0_0.v, v1_0.v] [crd (RdS 3 rdInt) v0_0.v a_s, crd (RdS 129 rd129) v1_0.v a_l] (fun _ : Unit => (.bool R)) (fun _ => []) := by
 refine Se 43 Tryz.func80 [.tmp 4] ?_
 intro H0 F0
 unfold s_AreFacts at hF
 iterate 7 refine au ?_
 refine CW_block (CW_loop (m := a_l.length) (fun m2 f' cs' => ∃ (g : Fr) (k4 : Nat) (rest5 : List Fact), m2 = rest5.length ∧ f' = updL g [(0, v0_0.v), (1, v1_0.v), (5, (.int .i64 (k4 : Int)))] ∧ List.drop k4 a_l = rest5 ∧ Ent cs' [crd (RdS 3 rdInt) v0_0.v a_s, crd (RdS 129 rd129) v1_0.v a_l] ∧ s_AreFacts_L1 a_s a_l rest5 k4 = some R) ⟨_, 0, _, rfl, eqA, rfl, entA, hF⟩ ?_)
 rintro m2 _ _ ⟨g3, k4, rest5, rfl, rfl, hd7, hE, hF⟩
 refine Kb hE a_l (fun hbd12 => ?_)
 rcases rest5 with _ | ⟨x6, rest5⟩
 · have hk8 := dn hd7
   rw [s_AreFacts_L1] at hF
   iterate 7 refine au ?_
   refine CdF ?_
   iterate 4 refine au ?_
   obtain ⟨o13, hio13, hO14⟩ := bind_some hF
   refine au ?_
   refine C_cut (fun f' cs' => ∃ (c19 : Bool) (g : Fr), c19 = o13 ∧ f' = updL g [(4, (.bool c19))] ∧ Ent cs' []) ?_ ?_
   · replace hF := hio13
     refine au ?_
     refine bnd hF fun r15 hx16 hF => Cx0 (s_IsSchema_ok _ _ _ hx16) (fun _ => ?_)
     refine au ?_
     rcases Bool.eq_false_or_eq_true r15 with hg18 | hg18
     · rw [hg18]
       try rw [hg18] at hF; dsimp only [cond_true, cond_false] at hF
       iterate 9 refine au ?_
       cases hF
       exact ⟨_, _, rfl, eqA, entA⟩
     rw [hg18]
     try rw [hg18] at hF; dsimp only [cond_true, cond_false] at hF
     iterate 6 refine au ?_
     cases hF
     exact ⟨_, _, rfl, eqA, entA⟩
   rintro _ _ ⟨c19, g20, rfl, rfl, hE⟩
   replace hF := hO14
   try dsimp only at hF
   refine K_ent hE ?_
   refine au ?_
   cases hF
   exact Er ()
 obtain ⟨hk8, hx9, hd10⟩ := drop_cons hd7
 rw [s_AreFacts_L1] at hF
 iterate 7 refine au ?_
 refine CdT ?_
 iterate 2 refine au ?_
 obtain ⟨o21, hio21, hO22⟩ := bind_some hF
 refine K_draw [0, 1, 2, 3, 4, 5, 6, 7, 8, 9, 10, 11, 12, 13, 14, 15, 16, 17, 18, 19, 20, 21, 22, 23] [0, 0, 0, 6, 14, 31, 63, 127, 255, 511, 1023, 2047, 2047, 6143, 16383, 32767, 2047, 2047, 198655, 460799, 1048575, 2097151, 4194303, 8388607] [5, 20] mixed (by decide +kernel) ?_
 refine D_cut (fun f' cs' => ∃ (c44 : Bool) (g : Fr), c44 = o21 ∧ f' = updL g [(0, v0_0.v), (1, v1_0.v), (5, (.int .i64 (k4 : Int))), (35, (.bool c44))] ∧ Ent cs' [crd (RdS 3 rdInt) v0_0.v a_s, crd (RdS 129 rd129) v1_0.v a_l]) ?_ ?_
 · replace hF := hio21
   iterate 3 refine du ?_
   refine Di hx9 (fun k23 j24 => ?_)
   refine DlA1 (ul129_0_129 x6) la129_0_129 (fun p25 => ?_)
   refine bnd hF fun r26 hx27 hF => Dx0 (s_IsFact_ok _ _ _ _ _ hx27) (fun _ => ?_)
   iterate 2 refine du ?_
   rcases Bool.eq_false_or_eq_true (!r26) with hg29 | hg29
   · rw [hg29]
     try rw [hg29] at hF; dsimp only [cond_true, cond_false] at hF
     iterate 17 refine du ?_
     cases hF
     exact ⟨_, _, rfl, eqA, entA⟩
   rw [hg29]
   try rw [hg29] at hF; dsimp only [cond_true, cond_false] at hF
   iterate 3 refine du ?_
   rcases Bool.eq_false_or_eq_true (decide ((0 : Int) < (k4 : Int))) with hg30 | hg30
   · rw [hg30]
     try rw [hg30] at hF; dsimp only [cond_true, cond_false] at hF
     iterate 3 refine du ?_
     refine bnd hF fun x31 hx32 hF => ?_
     obtain ⟨hp33, hx34⟩ := ix_some hx32
     refine Di hx34 (fun k35 j36 => ?_)
     refine DlA1 (ul129_0_129 x31) la129_0_129 (fun p37 => ?_)
     iterate 2 refine du ?_
     refine Di hx9 (fun k38 j39 => ?_)
     refine DlA1 (ul129_0_129 x6) la129_0_129 (fun p40 => ?_)
     refine bnd hF fun r41 hx42 hF => Dx0 (s_CompareFacts_ok _ _ _ _ _ hx42) (fun _ => ?_)
     iterate 4 refine du ?_
     cases hF
     exact ⟨_, _, rfl, eqA, entA⟩
   rw [hg30]
   try rw [hg30] at hF; dsimp only [cond_true, cond_false] at hF
   iterate 14 refine du ?_
   cases hF
   exact ⟨_, _, rfl, eqA, entA⟩
 rintro _ _ ⟨c44, g47, rfl, rfl, hE⟩
 replace hF := hO22
 try dsimp only at hF
 refine K_ent hE ?_
 refine Ci hF (fun hb46 hF => ?_) (fun hb46 hF => ?_)
 · iterate 4 refine au ?_
   cases hF
   exact Er ()
 iterate 6 refine au ?_
 rw [wk k4]
 exact ⟨_, Nat.lt_succ_self _, _, k4 + 1, rest5, rfl, eqA, hd10, entA, hF⟩
def s_IsTold (a_s : List Int) (a_l : List Method) (a_t : Told) : Option (Bool) :=
 ((s_IsAccess a_s a_l a_t.Access).bind fun r4 =>
   bif r4 then ((s_AreFacts a_s a_t.Facts).bind fun r8 =>
     some r8)
   else (some false)).bind fun o2 =>
 match o2 with
 | c11 => some c11
theorem s_IsTold_ok (a_s : List Int) (v0_0 : Sv) (a_l : List Method) (v1_0 : Sv) (a_t : Told) (v2_1 : Sv) (v2_2 : Sv) (R : Bool) (hF : s_IsTold a_s a_l a_t = some R) :
   Fw.Spec Tryz.prog 240 [v0_0.v, v1_0.v, (.agg [(.int .i64 a_t.Access.Method), v2_1.v, v2_2.v].toArray)] [crd (RdS 3 rdInt) v0_0.v a_s, crd (RdS 86 rd86) v1_0.v a_l, crd (RdS 3 rdInt) v2_1.v a_t.Access.Values, crd (RdS 129 rd129) v2_2.v a_t.Facts] (fun _ : Unit => (.bool R)) (fun _ => []) := by
 refine Se 18 Tryz.func240 [.tmp 6] ?_
 intro H0 F0
 unfold s_IsTold at hF
 refine au ?_
 refine AbR (fun k1 => ?_)
 iterate 2 refine au ?_
 obtain ⟨o2, hio2, hO3⟩ := bind_some hF
 refine au ?_
 refine C_cut (fun f' cs' => ∃ (c11 : Bool) (g : Fr), c11 = o2 ∧ f' = updL g [(6, (.bool c11))] ∧ Ent cs' []) ?_ ?_
 · replace hF := hio2
   iterate 3 refine au ?_
   refine C_at .h (fun hp => V_loadA (s := 2) (l := [(.int .i64 a_t.Access.Method), v2_1.v]) ag88.h ty88.h.sz (.tmp rfl rfl) hp.2 rfl (by decide) (Nat.le_of_ble_eq_true rfl) rfl) ?_
   refine bnd hF fun r4 hx5 hF => Cx0 (s_IsAccess_ok _ _ _ _ _ _ _ hx5) (fun _ => ?_)
   refine au ?_
   rcases Bool.eq_false_or_eq_true r4 with hg7 | hg7
   · rw [hg7]
     try rw [hg7] at hF; dsimp only [cond_true, cond_false] at hF
     iterate 7 refine au ?_
     refine bnd hF fun r8 hx9 hF => Cx0 (s_AreFacts_ok _ _ _ _ _ hx9) (fun _ => ?_)
     iterate 3 refine au ?_
     cases hF
     exact ⟨_, _, rfl, eqA, entA⟩
   rw [hg7]
   try rw [hg7] at hF; dsimp only [cond_true, cond_false] at hF
   iterate 7 refine au ?_
   cases hF
   exact ⟨_, _, rfl, eqA, entA⟩
 rintro _ _ ⟨c11, g12, rfl, rfl, hE⟩
 replace hF := hO3
 try dsimp only at hF
 refine K_ent hE ?_
 refine au ?_
 cases hF
 exact Er ()
def s_l5Fits_L1 (a_values : List Int) (a_f : Fact) : List Int → Nat → Option (Bool)
 | [], k6 => some true
 | x8 :: rest7, k6 => (ix a_f.Values x8).bind fun x17 =>
   (ix a_values (k6 : Int)).bind fun x23 =>
   if ((x17 : Int) != x23) then (
     some false)
   else (
     s_l5Fits_L1 a_values a_f rest7 (k6 + 1))
def s_l5Fits (a_m : Method) (a_values : List Int) (a_f : Fact) : Option (Bool) :=
 if ((a_f.Rel : Int) != a_m.Rel) then (
   some false)
 else (
   s_l5Fits_L1 a_values a_f a_m.Inputs 0)
theorem s_l5Fits_ok (a_m : Method) (v0_1 : Sv) (a_values : List Int) (v1_0 : Sv) (a_f : Fact) (v2_1 : Sv) (R : Bool) (hF : s_l5Fits a_m a_values a_f = some R) :
   Fw.Spec Tryz.prog 171 [(.agg [(.int .i64 a_m.Rel), v0_1.v, (.int .i64 a_m.Limit), (.int .i64 a_m.Cost), (.int .i64 a_m.Quota)].toArray), v1_0.v, (.agg [(.int .i64 a_f.Rel), v2_1.v].toArray)] [crd (RdS 3 rdInt) v0_1.v a_m.Inputs, crd (RdS 3 rdInt) v1_0.v a_values, crd (RdS 3 rdInt) v2_1.v a_f.Values] (fun _ : Unit => (.bool R)) (fun _ => []) := by
 refine Se 34 Tryz.func171 [.tmp 6] ?_
 intro H0 F0
 unfold s_l5Fits at hF
 refine au ?_
 refine AbR (fun k1 => ?_)
 refine AbR (fun k2 => ?_)
 iterate 10 refine au ?_
 refine Ci hF (fun hb31 hF => ?_) (fun hb31 hF => ?_)
 · iterate 4 refine au ?_
   cases hF
   exact Er ()
 iterate 5 refine au ?_
 refine CW_block (CW_loop (m := a_m.Inputs.length) (fun m4 f' cs' => ∃ (g : Fr) (k6 : Nat) (rest7 : List Int), m4 = rest7.length ∧ f' = updL g [(1, v1_0.v), (3, (pz k1)), (5, (pz k2)), (7, (.int .i64 (k6 : Int)))] ∧ List.drop k6 a_m.Inputs = rest7 ∧ Ent cs' [crd (RdS 3 rdInt) v1_0.v a_values, cboR k1 86 (.agg [(.int .i64 a_m.Rel), v0_1.v, (.int .i64 a_m.Limit), (.int .i64 a_m.Cost), (.int .i64 a_m.Quota)].toArray), crd (RdS 3 rdInt) v0_1.v a_m.Inputs, cboR k2 129 (.agg [(.int .i64 a_f.Rel), v2_1.v].toArray), crd (RdS 3 rdInt) v2_1.v a_f.Values] ∧ s_l5Fits_L1 a_values a_f rest7 k6 = some R) ⟨_, 0, _, rfl, eqA, rfl, entA, hF⟩ ?_)
 rintro m4 _ _ ⟨g5, k6, rest7, rfl, rfl, hd9, hE, hF⟩
 refine Kb hE a_m.Inputs (fun hbd14 => ?_)
 rcases rest7 with _ | ⟨x8, rest7⟩
 · have hk10 := dn hd9
   rw [s_l5Fits_L1] at hF
   iterate 8 refine au ?_
   refine CdF ?_
   iterate 8 refine au ?_
   cases hF
   exact Er ()
 obtain ⟨hk10, hx11, hd12⟩ := drop_cons hd9
 rw [s_l5Fits_L1] at hF
 iterate 8 refine au ?_
 refine CdT ?_
 iterate 2 refine au ?_
 refine K_draw [0, 1, 2, 3, 4, 5, 6, 7, 8, 9, 10, 11, 12, 13] [0, 1, 0, 4, 0, 28, 60, 127, 255, 0, 0, 1536, 3584, 8191] [] mixed (by decide +kernel) ?_
 iterate 5 refine du ?_
 refine Di hx11 (fun k15 j16 => ?_)
 refine Dl ls3_0 ?_
 refine bnd hF fun x17 hx18 hF => ?_
 obtain ⟨hp19, hx20⟩ := ix_some hx18
 refine Di hx20 (fun k21 j22 => ?_)
 refine Dl ls3_0 ?_
 iterate 2 refine du ?_
 refine bnd hF fun x23 hx24 hF => ?_
 obtain ⟨hp25, hx26⟩ := ix_some hx24
 refine Di hx26 (fun k27 j28 => ?_)
 refine Dl ls3_0 ?_
 iterate 2 refine du ?_
 refine Ci hF (fun hb30 hF => ?_) (fun hb30 hF => ?_)
 · iterate 4 refine au ?_
   cases hF
   exact Er ()
 iterate 6 refine au ?_
 rw [wk k6]
 exact ⟨_, Nat.lt_succ_self _, _, k6 + 1, rest7, rfl, eqA, hd12, entA, hF⟩
def s_FitsSelf_L1 (a_t : Told) (x5 : Method) : List Fact → Nat → Option (Bool)
 | [], k16 => some (((x5.Limit : Int) == 0) || (decide (((a_t.Facts.length : Int) : Int) ≤ x5.Limit)))
 | x18 :: rest17, k16 => (s_l5Fits x5 a_t.Access.Values x18).bind fun r30 =>
   if (!r30) then (
     some false)
   else (
     s_FitsSelf_L1 a_t x5 rest17 (k16 + 1))
def s_FitsSelf (a_s : List Int) (a_l : List Method) (a_t : Told) : Option (Bool) :=
 (s_IsTold a_s a_l a_t).bind fun r2 =>
 if (!r2) then (
   some false)
 else (
   (ix a_l a_t.Access.Method).bind fun x5 =>
   s_FitsSelf_L1 a_t x5 a_t.Facts 0)
theorem s_FitsSelf_ok (a_s : List Int) (v0_0 : Sv) (a_l : List Method) (v1_0 : Sv) (a_t : Told) (v2_1 : Sv) (v2_2 : Sv) (R : Bool) (hF : s_FitsSelf a_s a_l a_t = some R) :
   Fw.Spec Tryz.prog 201 [v0_0.v, v1_0.v, (.agg [(.int .i64 a_t.Access.Method), v2_1.v, v2_2.v].toArray)] [crd (RdS 3 rdInt) v0_0.v a_s, crd (RdS 86 rd86) v1_0.v a_l, crd (RdS 3 rdInt) v2_1.v a_t.Access.Values, crd (RdS 129 rd129) v2_2.v a_t.Facts] (fun _ : Unit => (.bool R)) (fun _ => []) := by
 refine Se 49 Tryz.func201 [.tmp 6] ?_
 intro H0 F0
 unfold s_FitsSelf at hF
 refine au ?_
 refine AbR (fun k1 => ?_)
 iterate 7 refine au ?_
 refine bnd hF fun r2 hx3 hF => Cx0 (s_IsTold_ok _ _ _ _ _ _ _ _ hx3) (fun _ => ?_)
 iterate 2 refine au ?_
 refine Ci hF (fun hb35 hF => ?_) (fun hb35 hF => ?_)
 · iterate 4 refine au ?_
   cases hF
   exact Er ()
 iterate 6 refine au ?_
 refine bnd hF fun x5 hx6 hF => ?_
 obtain ⟨hp7, hx8⟩ := ix_some hx6
 refine Ai hx8 (fun k9 j10 => ?_)
 refine AlA1 (ul86_0_86 x5) la86_0_86 (fun p11 => ?_)
 refine AnW (fun k12 => ?_)
 refine As (.agg [(.int .i64 x5.Rel), p11.v, (.int .i64 x5.Limit), (.int .i64 x5.Cost), (.int .i64 x5.Quota)].toArray) ?_
 iterate 5 refine au ?_
 refine CW_block (CW_loop (m := a_t.Facts.length) (fun m14 f' cs' => ∃ (g : Fr) (k16 : Nat) (rest17 : List Fact), m14 = rest17.length ∧ f' = updL g [(5, (pz k1)), (7, (pz k12)), (8, (.int .i64 (k16 : Int)))] ∧ List.drop k16 a_t.Facts = rest17 ∧ Ent cs' [cboR k1 90 (.agg [(.int .i64 a_t.Access.Method), v2_1.v, v2_2.v].toArray), crd (RdS 3 rdInt) v2_1.v a_t.Access.Values, crd (RdS 129 rd129) v2_2.v a_t.Facts, cbox k12 86 (.agg [(.int .i64 x5.Rel), p11.v, (.int .i64 x5.Limit), (.int .i64 x5.Cost), (.int .i64 x5.Quota)].toArray), crd (RdS 3 rdInt) p11.v x5.Inputs] ∧ s_FitsSelf_L1 a_t x5 rest17 k16 = some R) ⟨_, 0, _, rfl, eqA, rfl, entA, hF⟩ ?_)
 rintro m14 _ _ ⟨g15, k16, rest17, rfl, rfl, hd19, hE, hF⟩
 refine Kb hE a_t.Facts (fun hbd24 => ?_)
 rcases rest17 with _ | ⟨x18, rest17⟩
 · have hk20 := dn hd19
   rw [s_FitsSelf_L1] at hF
   iterate 8 refine au ?_
   refine CdF ?_
   iterate 5 refine au ?_
   refine C_cut (fun f' cs' => ∃ (g : Fr), f' = updL g [(6, (.bool (((x5.Limit : Int) == 0) || (decide (((a_t.Facts.length : Int) : Int) ≤ x5.Limit)))))] ∧ Ent cs' []) ?_ ?_
   · iterate 4 refine au ?_
     rcases Bool.eq_false_or_eq_true ((x5.Limit : Int) == 0) with hg25 | hg25
     · rw [hg25]
       try rw [hg25] at hF; dsimp only [cond_true, cond_false] at hF
       iterate 9 refine au ?_
       exact ⟨_, eqA, entA⟩
     rw [hg25]
     try rw [hg25] at hF; dsimp only [cond_true, cond_false] at hF
     iterate 15 refine au ?_
     exact ⟨_, eqA, entA⟩
   rintro _ _ ⟨g26, rfl, hE⟩
   refine K_ent hE ?_
   refine au ?_
   cases hF
   exact Er ()
 obtain ⟨hk20, hx21, hd22⟩ := drop_cons hd19
 rw [s_FitsSelf_L1] at hF
 iterate 8 refine au ?_
 refine CdT ?_
 iterate 2 refine au ?_
 refine K_draw [0, 1, 2, 3, 4, 5, 6, 7, 8, 9, 10] [0, 0, 2, 6, 0, 16, 0, 112, 240, 511, 1023] [9] mixed (by decide +kernel) ?_
 refine D_atO rfl .no (.t (.t (.t .h))) (fun ha hp => V_loadBox ag86.h ty86.h.sz rfl (EN ha (.tmp rfl rfl) rfl) hp.2 rfl) ?_
 iterate 6 refine du ?_
 refine Di hx21 (fun k27 j28 => ?_)
 refine DlA1 (ul129_0_129 x18) la129_0_129 (fun p29 => ?_)
 refine bnd hF fun r30 hx31 hF => Dx0 (s_l5Fits_ok _ _ _ _ _ _ _ hx31) (fun _ => ?_)
 iterate 2 refine du ?_
 refine Ci hF (fun hb34 hF => ?_) (fun hb34 hF => ?_)
 · iterate 4 refine au ?_
   cases hF
   exact Er ()
 iterate 6 refine au ?_
 rw [wk k16]
 exact ⟨_, Nat.lt_succ_self _, _, k16 + 1, rest17, rfl, eqA, hd22, entA, hF⟩
def s_HasFact_L1 (a_f : Fact) : List Fact → Nat → Option (Bool)
 | [], k5 => some false
 | x7 :: rest6, k5 => (s_CompareFacts x7 a_f).bind fun r17 =>
   if ((r17 : Int) == 0) then (
     some true)
   else (
     s_HasFact_L1 a_f rest6 (k5 + 1))
def s_HasFact (a_l : List Fact) (a_f : Fact) : Option (Bool) :=
 s_HasFact_L1 a_f a_l 0
theorem s_HasFact_ok (a_l : List Fact) (v0_0 : Sv) (a_f : Fact) (v1_1 : Sv) (R : Bool) (hF : s_HasFact a_l a_f = some R) :
   Fw.Spec Tryz.prog 95 [v0_0.v, (.agg [(.int .i64 a_f.Rel), v1_1.v].toArray)] [crd (RdS 129 rd129) v0_0.v a_l, crd (RdS 3 rdInt) v1_1.v a_f.Values] (fun _ : Unit => (.bool R)) (fun _ => []) := by
 refine Se 19 Tryz.func95 [.tmp 4] ?_
 intro H0 F0
 unfold s_HasFact at hF
 refine au ?_
 refine AbR (fun k1 => ?_)
 iterate 6 refine au ?_
 refine CW_block (CW_loop (m := a_l.length) (fun m3 f' cs' => ∃ (g : Fr) (k5 : Nat) (rest6 : List Fact), m3 = rest6.length ∧ f' = updL g [(0, v0_0.v), (3, (pz k1)), (5, (.int .i64 (k5 : Int)))] ∧ List.drop k5 a_l = rest6 ∧ Ent cs' [crd (RdS 129 rd129) v0_0.v a_l, cboR k1 129 (.agg [(.int .i64 a_f.Rel), v1_1.v].toArray), crd (RdS 3 rdInt) v1_1.v a_f.Values] ∧ s_HasFact_L1 a_f rest6 k5 = some R) ⟨_, 0, _, rfl, eqA, rfl, entA, hF⟩ ?_)
 rintro m3 _ _ ⟨g4, k5, rest6, rfl, rfl, hd8, hE, hF⟩
 refine Kb hE a_l (fun hbd13 => ?_)
 rcases rest6 with _ | ⟨x7, rest6⟩
 · have hk9 := dn hd8
   rw [s_HasFact_L1] at hF
   iterate 7 refine au ?_
   refine CdF ?_
   iterate 8 refine au ?_
   cases hF
   exact Er ()
 obtain ⟨hk9, hx10, hd11⟩ := drop_cons hd8
 rw [s_HasFact_L1] at hF
 iterate 7 refine au ?_
 refine CdT ?_
 iterate 2 refine au ?_
 refine K_draw [0, 1, 2, 3, 4, 5, 6] [0, 0, 3, 7, 0, 31, 63] [5] mixed (by decide +kernel) ?_
 iterate 2 refine du ?_
 refine Di hx10 (fun k14 j15 => ?_)
 refine DlA1 (ul129_0_129 x7) la129_0_129 (fun p16 => ?_)
 refine du ?_
 refine bnd hF fun r17 hx18 hF => Dx0 (s_CompareFacts_ok _ _ _ _ _ hx18) (fun _ => ?_)
 iterate 2 refine du ?_
 refine Ci hF (fun hb21 hF => ?_) (fun hb21 hF => ?_)
 · iterate 4 refine au ?_
   cases hF
   exact Er ()
 iterate 6 refine au ?_
 rw [wk k5]
 exact ⟨_, Nat.lt_succ_self _, _, k5 + 1, rest6, rfl, eqA, hd11, entA, hF⟩
def s_l28Lacks_L1 (a_b : Told) (x3 : Method) : List Fact → Nat → Option (Bool)
 | [], k14 => some false
 | x16 :: rest15, k14 => ((s_l5Fits x3 a_b.Access.Values x16).bind fun r28 =>
     bif r28 then ((s_HasFact a_b.Facts x16).bind fun r35 =>
       bif (!r35) then (bif ((x3.Limit : Int) == 0) then (some true)
         else (some (decide (((a_b.Facts.length : Int) : Int) < x3.Limit))))
       else (some false))
     else (some false)).bind fun o23 =>
   match o23 with
   | c40 => if c40 then (
       some true)
     else (
       s_l28Lacks_L1 a_b x3 rest15 (k14 + 1))
def s_l28Lacks (a_l : List Method) (a_a : Told) (a_b : Told) : Option (Bool) :=
 (ix a_l a_b.Access.Method).bind fun x3 =>
 s_l28Lacks_L1 a_b x3 a_a.Facts 0
theorem s_l28Lacks_ok (a_l : List Method) (v0_0 : Sv) (a_a : Told) (v1_1 : Sv) (v1_2 : Sv) (a_b : Told) (v2_1 : Sv) (v2_2 : Sv) (R : Bool) (hF : s_l28Lacks a_l a_a a_b = some R) :
   Fw.Spec Tryz.prog 241 [v0_0.v, (.agg [(.int .i64 a_a.Access.Method), v1_1.v, v1_2.v].toArray), (.agg [(.int .i64 a_b.Access.Method), v2_1.v, v2_2.v].toArray)] [crd (RdS 86 rd86) v0_0.v a_l, crd (RdS 3 rdInt) v1_1.v a_a.Access.Values, crd (RdS 129 rd129) v1_2.v a_a.Facts, crd (RdS 3 rdInt) v2_1.v a_b.Access.Values, crd (RdS 129 rd129) v2_2.v a_b.Facts] (fun _ : Unit => (.bool R)) (fun _ => []) := by
 refine Se 56 Tryz.func241 [.tmp 6] ?_
 intro H0 F0
 unfold s_l28Lacks at hF
 refine au ?_
 refine AbR (fun k1 => ?_)
 refine AbR (fun k2 => ?_)
 iterate 7 refine au ?_
 refine bnd hF fun x3 hx4 hF => ?_
 obtain ⟨hp5, hx6⟩ := ix_some hx4
 refine Ai hx6 (fun k7 j8 => ?_)
 refine AlA1 (ul86_0_86 x3) la86_0_86 (fun p9 => ?_)
 refine AnW (fun k10 => ?_)
 refine As (.agg [(.int .i64 x3.Rel), p9.v, (.int .i64 x3.Limit), (.int .i64 x3.Cost), (.int .i64 x3.Quota)].toArray) ?_
 iterate 5 refine au ?_
 refine CW_block (CW_loop (m := a_a.Facts.length) (fun m12 f' cs' => ∃ (g : Fr) (k14 : Nat) (rest15 : List Fact), m12 = rest15.length ∧ f' = updL g [(4, (pz k1)), (5, (pz k2)), (7, (pz k10)), (8, (.int .i64 (k14 : Int)))] ∧ List.drop k14 a_a.Facts = rest15 ∧ Ent cs' [cboR k1 90 (.agg [(.int .i64 a_a.Access.Method), v1_1.v, v1_2.v].toArray), crd (RdS 3 rdInt) v1_1.v a_a.Access.Values, crd (RdS 129 rd129) v1_2.v a_a.Facts, cboR k2 90 (.agg [(.int .i64 a_b.Access.Method), v2_1.v, v2_2.v].toArray), crd (RdS 3 rdInt) v2_1.v a_b.Access.Values, crd (RdS 129 rd129) v2_2.v a_b.Facts, cbox k10 86 (.agg [(.int .i64 x3.Rel), p9.v, (.int .i64 x3.Limit), (.int .i64 x3.Cost), (.int .i64 x3.Quota)].toArray), crd (RdS 3 rdInt) p9.v x3.Inputs] ∧ s_l28Lacks_L1 a_b x3 rest15 k14 = some R) ⟨_, 0, _, rfl, eqA, rfl, entA, hF⟩ ?_)
 rintro m12 _ _ ⟨g13, k14, rest15, rfl, rfl, hd17, hE, hF⟩
 refine Kb hE a_a.Facts (fun hbd22 => ?_)
 rcases rest15 with _ | ⟨x16, rest15⟩
 · have hk18 := dn hd17
   rw [s_l28Lacks_L1] at hF
   iterate 8 refine au ?_
   refine CdF ?_
   iterate 8 refine au ?_
   cases hF
   exact Er ()
 obtain ⟨hk18, hx19, hd20⟩ := drop_cons hd17
 rw [s_l28Lacks_L1] at hF
 iterate 8 refine au ?_
 refine CdT ?_
 iterate 2 refine au ?_
 obtain ⟨o23, hio23, hO24⟩ := bind_some hF
 refine K_draw [0, 1, 2, 3, 4, 5, 6, 7, 8, 9, 10, 11, 12, 13, 14, 15, 16, 17, 18, 19, 20, 21, 22, 23, 24, 25, 26, 27, 28, 29, 30, 31, 32, 33] [0, 0, 2, 6, 0, 16, 0, 112, 240, 511, 1023, 2047, 4095, 2047, 10239, 2047, 59391, 124927, 262143, 524287, 1048575, 2097151, 4194303, 8388607, 16777215, 33554431, 67108863, 134217727, 268435455, 67108863, 603979775, 2147483647, 4294967295, 8589934591] [9, 18] mixed (by decide +kernel) ?_
 refine D_cut (fun f' cs' => ∃ (c40 : Bool) (g : Fr), c40 = o23 ∧ f' = updL g [(4, (pz k1)), (5, (pz k2)), (7, (pz k10)), (8, (.int .i64 (k14 : Int))), (55, (.bool c40))] ∧ Ent cs' [cboR k1 90 (.agg [(.int .i64 a_a.Access.Method), v1_1.v, v1_2.v].toArray), crd (RdS 3 rdInt) v1_1.v a_a.Access.Values, crd (RdS 129 rd129) v1_2.v a_a.Facts, cboR k2 90 (.agg [(.int .i64 a_b.Access.Method), v2_1.v, v2_2.v].toArray), crd (RdS 3 rdInt) v2_1.v a_b.Access.Values, crd (RdS 129 rd129) v2_2.v a_b.Facts, cbox k10 86 (.agg [(.int .i64 x3.Rel), p9.v, (.int .i64 x3.Limit), (.int .i64 x3.Cost), (.int .i64 x3.Quota)].toArray), crd (RdS 3 rdInt) p9.v x3.Inputs]) ?_ ?_
 · replace hF := hio23
   refine D_atO rfl .no (.t (.t (.t (.t (.t (.t .h)))))) (fun ha hp => V_loadBox ag86.h ty86.h.sz rfl (EN ha (.tmp rfl rfl) rfl) hp.2 rfl) ?_
   iterate 6 refine du ?_
   refine Di hx19 (fun k25 j26 => ?_)
   refine DlA1 (ul129_0_129 x16) la129_0_129 (fun p27 => ?_)
   refine bnd hF fun r28 hx29 hF => Dx0 (s_l5Fits_ok _ _ _ _ _ _ _ hx29) (fun _ => ?_)
   refine du ?_
   rcases Bool.eq_false_or_eq_true r28 with hg31 | hg31
   · rw [hg31]
     try rw [hg31] at hF; dsimp only [cond_true, cond_false] at hF
     iterate 5 refine du ?_
     refine Di hx19 (fun k32 j33 => ?_)
     refine DlA1 (ul129_0_129 x16) la129_0_129 (fun p34 => ?_)
     refine bnd hF fun r35 hx36 hF => Dx0 (s_HasFact_ok _ _ _ _ _ hx36) (fun _ => ?_)
     iterate 3 refine du ?_
     rcases Bool.eq_false_or_eq_true (!r35) with hg38 | hg38
     · rw [hg38]
       try rw [hg38] at hF; dsimp only [cond_true, cond_false] at hF
       refine du ?_
       refine D_atO rfl (.on 43 rfl rfl rfl) (.t (.t (.t (.t (.t (.t (.t (.t (.t (.t .h)))))))))) (fun ha hp => V_load (v := (.int .i64 x3.Limit)) ag3.h (EN ha (.tmp rfl rfl) rfl) hp.2 rfl rfl) ?_
       iterate 2 refine du ?_
       rcases Bool.eq_false_or_eq_true ((x3.Limit : Int) == 0) with hg39 | hg39
       · rw [hg39]
         try rw [hg39] at hF; dsimp only [cond_true, cond_false] at hF
         iterate 9 refine du ?_
         cases hF
         exact ⟨_, _, rfl, eqA, entA⟩
       rw [hg39]
       try rw [hg39] at hF; dsimp only [cond_true, cond_false] at hF
       iterate 4 refine du ?_
       refine D_atO rfl (.on 47 rfl rfl rfl) (.t (.t (.t (.t (.t (.t (.t (.t (.t (.t .h)))))))))) (fun ha hp => V_load (v := (.int .i64 x3.Limit)) ag3.h (EN ha (.tmp rfl rfl) rfl) hp.2 rfl rfl) ?_
       iterate 4 refine du ?_
       cases hF
       exact ⟨_, _, rfl, eqA, entA⟩
     rw [hg38]
     try rw [hg38] at hF; dsimp only [cond_true, cond_false] at hF
     iterate 13 refine du ?_
     cases hF
     exact ⟨_, _, rfl, eqA, entA⟩
   rw [hg31]
   try rw [hg31] at hF; dsimp only [cond_true, cond_false] at hF
   iterate 24 refine du ?_
   cases hF
   exact ⟨_, _, rfl, eqA, entA⟩
 rintro _ _ ⟨c40, g43, rfl, rfl, hE⟩
 replace hF := hO24
 try dsimp only at hF
 refine K_ent hE ?_
 refine Ci hF (fun hb42 hF => ?_) (fun hb42 hF => ?_)
 · iterate 4 refine au ?_
   cases hF
   exact Er ()
 iterate 6 refine au ?_
 rw [wk k14]
 exact ⟨_, Nat.lt_succ_self _, _, k14 + 1, rest15, rfl, eqA, hd20, entA, hF⟩
def s_Disagree (a_s : List Int) (a_l : List Method) (a_a : Told) (a_b : Told) : Option (Bool) :=
 ((s_FitsSelf a_s a_l a_a).bind fun r5 =>
   bif r5 then ((s_FitsSelf a_s a_l a_b).bind fun r9 =>
     bif r9 then ((s_l28Lacks a_l a_a a_b).bind fun r13 =>
       bif r13 then (some true)
       else ((s_l28Lacks a_l a_b a_a).bind fun r17 =>
         some r17))
     else (some false))
   else (some false)).bind fun o3 =>
 match o3 with
 | c20 => some c20
theorem s_Disagree_ok (a_s : List Int) (v0_0 : Sv) (a_l : List Method) (v1_0 : Sv) (a_a : Told) (v2_1 : Sv) (v2_2 : Sv) (a_b : Told) (v3_1 : Sv) (v3_2 : Sv) (R : Bool) (hF : s_Disagree a_s a_l a_a a_b = some R) :
   Fw.Spec Tryz.prog 202 [v0_0.v, v1_0.v, (.agg [(.int .i64 a_a.Access.Method), v2_1.v, v2_2.v].toArray), (.agg [(.int .i64 a_b.Access.Method), v3_1.v, v3_2.v].toArray)] [crd (RdS 3 rdInt) v0_0.v a_s, crd (RdS 86 rd86) v1_0.v a_l, crd (RdS 3 rdInt) v2_1.v a_a.Access.Values, crd (RdS 129 rd129) v2_2.v a_a.Facts, crd (RdS 3 rdInt) v3_1.v a_b.Access.Values, crd (RdS 129 rd129) v3_2.v a_b.Facts] (fun _ : Unit => (.bool R)) (fun _ => []) := by
 refine Se 31 Tryz.func202 [.tmp 8] ?_
 intro H0 F0
 unfold s_Disagree at hF
 refine au ?_
 refine AbR (fun k1 => ?_)
 refine AbR (fun k2 => ?_)
 iterate 2 refine au ?_
 obtain ⟨o3, hio3, hO4⟩ := bind_some hF
 refine au ?_
 refine C_cut (fun f' cs' => ∃ (c20 : Bool) (g : Fr), c20 = o3 ∧ f' = updL g [(8, (.bool c20))] ∧ Ent cs' []) ?_ ?_
 · replace hF := hio3
   iterate 3 refine au ?_
   refine bnd hF fun r5 hx6 hF => Cx0 (s_FitsSelf_ok _ _ _ _ _ _ _ _ hx6) (fun _ => ?_)
   refine au ?_
   rcases Bool.eq_false_or_eq_true r5 with hg8 | hg8
   · rw [hg8]
     try rw [hg8] at hF; dsimp only [cond_true, cond_false] at hF
     iterate 7 refine au ?_
     refine bnd hF fun r9 hx10 hF => Cx0 (s_FitsSelf_ok _ _ _ _ _ _ _ _ hx10) (fun _ => ?_)
     iterate 2 refine au ?_
     rcases Bool.eq_false_or_eq_true r9 with hg12 | hg12
     · rw [hg12]
       try rw [hg12] at hF; dsimp only [cond_true, cond_false] at hF
       iterate 7 refine au ?_
       refine bnd hF fun r13 hx14 hF => Cx0 (s_l28Lacks_ok _ _ _ _ _ _ _ _ _ hx14) (fun _ => ?_)
       iterate 2 refine au ?_
       rcases Bool.eq_false_or_eq_true r13 with hg16 | hg16
       · rw [hg16]
         try rw [hg16] at hF; dsimp only [cond_true, cond_false] at hF
         iterate 9 refine au ?_
         cases hF
         exact ⟨_, _, rfl, eqA, entA⟩
       rw [hg16]
       try rw [hg16] at hF; dsimp only [cond_true, cond_false] at hF
       iterate 7 refine au ?_
       refine bnd hF fun r17 hx18 hF => Cx0 (s_l28Lacks_ok _ _ _ _ _ _ _ _ _ hx18) (fun _ => ?_)
       iterate 5 refine au ?_
       cases hF
       exact ⟨_, _, rfl, eqA, entA⟩
     rw [hg12]
     try rw [hg12] at hF; dsimp only [cond_true, cond_false] at hF
     iterate 13 refine au ?_
     cases hF
     exact ⟨_, _, rfl, eqA, entA⟩
   rw [hg8]
   try rw [hg8] at hF; dsimp only [cond_true, cond_false] at hF
   iterate 19 refine au ?_
   cases hF
   exact ⟨_, _, rfl, eqA, entA⟩
 rintro _ _ ⟨c20, g21, rfl, rfl, hE⟩
 replace hF := hO4
 try dsimp only at hF
 refine K_ent hE ?_
 refine au ?_
 cases hF
 exact Er ()
def s_FirstConflict_L2 (a_s : List Int) (a_l : List Method) (a_list : List Told) (k4 : Nat) (x6 : Told) : Nat → Int → Option (Sum (Int × Int × Bool) (Unit))
 | 0, _ => none
 | m22 + 1, c21 => if (decide ((c21 : Int) < (k4 : Int))) then (
     (ix a_list c21).bind fun x30 =>
     (s_Disagree a_s a_l x30 x6).bind fun r40 =>
     if r40 then (
       some (.inl (c21, (k4 : Int), true)))
     else (
       s_FirstConflict_L2 a_s a_l a_list k4 x6 m22 (IntKind.i64.wrap (c21 + 1))))
   else (
     some (.inr ()))
def s_FirstConflict_L1 (a_s : List Int) (a_l : List Method) (a_list : List Told) : List Told → Nat → Option (Int × Int × Bool)
 | [], k4 => some ((-1), (-1), false)
 | x6 :: rest5, k4 => (((s_FitsSelf a_s a_l x6).bind fun r18 =>
     if (!r18) then (
       some (.inl ((k4 : Int), (k4 : Int), true)))
     else (
       s_FirstConflict_L2 a_s a_l a_list k4 x6 (((k4 : Int) - 0).toNat + 2) 0)) : Option (Sum (Int × Int × Bool) (Unit))).bind fun o13 =>
   match o13 with
   | .inl r => some r
   | .inr _ => s_FirstConflict_L1 a_s a_l a_list rest5 (k4 + 1)
def s_FirstConflict (a_s : List Int) (a_l : List Method) (a_list : List Told) : Option (Int × Int × Bool) :=
 s_FirstConflict_L1 a_s a_l a_list a_list 0
theorem s_FirstConflict_ok (a_s : List Int) (v0_0 : Sv) (a_l : List Method) (v1_0 : Sv) (a_list : List Told) (v2_0 : Sv) (R : Int × Int × Bool) (hF : s_FirstConflict a_s a_l a_list = some R) :
   Fw.Spec Tryz.prog 147 [v0_0.v, v1_0.v, v2_0.v] [crd (RdS 3 rdInt) v0_0.v a_s, crd (RdS 86 rd86) v1_0.v a_l, crd (RdS 90 rd90) v2_0.v a_list] (fun _ : Unit => (.tuple [(.int .i64 R.1), (.int .i64 R.2.1), (.bool R.2.2)].toArray)) (fun _ => []) := by
 refine Se 45 Tryz.func147 [.tmp 6, .tmp 7, .tmp 8] ?_
 intro H0 F0
 unfold s_FirstConflict at hF
 iterate 9 refine au ?_
 refine CW_block (CW_loop (m := a_list.length) (fun m2 f' cs' => ∃ (g : Fr) (k4 : Nat) (rest5 : List Told), m2 = rest5.length ∧ f' = updL g [(0, v0_0.v), (1, v1_0.v), (2, v2_0.v), (9, (.int .i64 (k4 : Int)))] ∧ List.drop k4 a_list = rest5 ∧ Ent cs' [crd (RdS 3 rdInt) v0_0.v a_s, crd (RdS 86 rd86) v1_0.v a_l, crd (RdS 90 rd90) v2_0.v a_list] ∧ s_FirstConflict_L1 a_s a_l a_list rest5 k4 = some R) ⟨_, 0, _, rfl, eqA, rfl, entA, hF⟩ ?_)
 rintro m2 _ _ ⟨g3, k4, rest5, rfl, rfl, hd7, hE, hF⟩
 refine Kb hE a_list (fun hbd12 => ?_)
 rcases rest5 with _ | ⟨x6, rest5⟩
 · have hk8 := dn hd7
   rw [s_FirstConflict_L1] at hF
   iterate 7 refine au ?_
   refine CdF ?_
   iterate 10 refine au ?_
   cases hF
   exact Er ()
 obtain ⟨hk8, hx9, hd10⟩ := drop_cons hd7
 rw [s_FirstConflict_L1] at hF
 iterate 7 refine au ?_
 refine CdT ?_
 refine au ?_
 obtain ⟨o13, hio13, hO14⟩ := bind_some hF
 refine K_cut (fun f' cs' => ∃ (g : Fr), o13 = .inr () ∧ f' = updL g [(0, v0_0.v), (1, v1_0.v), (2, v2_0.v), (9, (.int .i64 (k4 : Int)))] ∧ Ent cs' [crd (RdS 3 rdInt) v0_0.v a_s, crd (RdS 86 rd86) v1_0.v a_l, crd (RdS 90 rd90) v2_0.v a_list]) ?_ ?_
 · replace hF := hio13
   refine CW_block (K_in (K_region (Cm v0_0.v rfl rfl ?_)))
   iterate 3 refine au ?_
   refine Ai hx9 (fun k15 j16 => ?_)
   refine AlA2 (ul90_0_90 x6) la90_0_90 (fun p17 => ?_)
   refine bnd hF fun r18 hx19 hF => Cx0 (s_FitsSelf_ok _ _ _ _ _ _ _ _ hx19) (fun _ => ?_)
   iterate 2 refine au ?_
   refine Ci hF (fun hb45 hF => ?_) (fun hb45 hF => ?_)
   · iterate 8 refine au ?_
     cases hF
     replace hF := hO14
     try dsimp only at hF
     cases hF
     exact Er ()
   iterate 4 refine au ?_
   refine CW_block (CW_loop (m := (((k4 : Int) - 0).toNat + 2)) (fun m22 f' cs' => ∃ (g : Fr) (c21 : Int), f' = updL g [(0, v0_0.v), (1, v1_0.v), (2, v2_0.v), (9, (.int .i64 (k4 : Int))), (10, (.int .i64 c21))] ∧ Ent cs' [crd (RdS 3 rdInt) v0_0.v a_s, crd (RdS 86 rd86) v1_0.v a_l, crd (RdS 90 rd90) v2_0.v a_list] ∧ s_FirstConflict_L2 a_s a_l a_list k4 x6 m22 c21 = some o13) ⟨_, _, eqA, entA, hF⟩ ?_)
   rintro m22 _ _ ⟨g23, c21, rfl, hE, hF⟩
   refine K_ent hE ?_
   rcases m22 with _ | m22
   · rw [s_FirstConflict_L2] at hF
     exact absurd hF (by simp)
   rw [s_FirstConflict_L2] at hF
   iterate 6 refine au ?_
   refine Ci hF (fun hb44 hF => ?_) (fun hb44 hF => ?_)
   · iterate 2 refine au ?_
     refine K_draw [0, 1, 2, 3, 4, 5, 6, 7, 8, 9, 10] [0, 0, 0, 0, 12, 28, 0, 0, 192, 448, 1023] [10] mixed (by decide +kernel) ?_
     iterate 4 refine du ?_
     refine bnd hF fun x30 hx31 hF => ?_
     obtain ⟨hp32, hx33⟩ := ix_some hx31
     refine Di hx33 (fun k34 j35 => ?_)
     refine DlA2 (ul90_0_90 x30) la90_0_90 (fun p36 => ?_)
     iterate 2 refine du ?_
     refine Di hx9 (fun k37 j38 => ?_)
     refine DlA2 (ul90_0_90 x6) la90_0_90 (fun p39 => ?_)
     refine bnd hF fun r40 hx41 hF => Dx0 (s_Disagree_ok _ _ _ _ _ _ _ _ _ _ _ hx41) (fun _ => ?_)
     refine du ?_
     refine Ci hF (fun hb43 hF => ?_) (fun hb43 hF => ?_)
     · iterate 8 refine au ?_
       cases hF
       replace hF := hO14
       try dsimp only at hF
       cases hF
       exact Er ()
     iterate 6 refine au ?_
     exact ⟨m22, Nat.lt_succ_self _, _, _, eqA, entA, hF⟩
   iterate 4 refine au ?_
   cases hF
   exact ⟨_, rfl, eqA, entA⟩
 rintro _ _ ⟨g47, rfl, rfl, hE⟩
 replace hF := hO14
 try dsimp only at hF
 refine K_ent hE ?_
 iterate 5 refine au ?_
 rw [wk k4]
 exact ⟨_, Nat.lt_succ_self _, _, k4 + 1, rest5, rfl, eqA, hd10, entA, hF⟩
def s_IsConsistent (a_s : List Int) (a_l : List Method) (a_list : List Told) : Option (Bool) :=
 (s_FirstConflict a_s a_l a_list).bind fun r1 =>
 ((s_AreMethods a_s a_l).bind fun r6 =>
   bif r6 then (some (!r1.2.2))
   else (some false)).bind fun o4 =>
 match o4 with
 | c10 => some c10
theorem s_IsConsistent_ok (a_s : List Int) (v0_0 : Sv) (a_l : List Method) (v1_0 : Sv) (a_list : List Told) (v2_0 : Sv) (R : Bool) (hF : s_IsConsistent a_s a_l a_list = some R) :
   Fw.Spec Tryz.prog 90 [v0_0.v, v1_0.v, v2_0.v] [crd (RdS 3 rdInt) v0_0.v a_s, crd (RdS 86 rd86) v1_0.v a_l, crd (RdS 90 rd90) v2_0.v a_list] (fun _ : Unit => (.bool R)) (fun _ => []) := by
 refine Se 25 Tryz.func90 [.tmp 6] ?_
 intro H0 F0
 unfold s_IsConsistent at hF
 iterate 7 refine au ?_
 refine bnd hF fun r1 hx2 hF => Cx0 (s_FirstConflict_ok _ _ _ _ _ _ _ hx2) (fun _ => ?_)
 refine au ?_
 refine C_val (V_extract (l := [(.int .i64 r1.1), (.int .i64 r1.2.1), (.bool r1.2.2)]) (v := (.int .i64 r1.1)) (.tmp rfl rfl) rfl) ?_
 refine C_val (V_extract (l := [(.int .i64 r1.1), (.int .i64 r1.2.1), (.bool r1.2.2)]) (v := (.int .i64 r1.2.1)) (.tmp rfl rfl) rfl) ?_
 refine C_val (V_extract (l := [(.int .i64 r1.1), (.int .i64 r1.2.1), (.bool r1.2.2)]) (v := (.bool r1.2.2)) (.tmp rfl rfl) rfl) ?_
 iterate 4 refine au ?_
 obtain ⟨o4, hio4, hO5⟩ := bind_some hF
 refine au ?_
 refine C_cut (fun f' cs' => ∃ (c10 : Bool) (g : Fr), c10 = o4 ∧ f' = updL g [(6, (.bool c10))] ∧ Ent cs' []) ?_ ?_
 · replace hF := hio4
   iterate 2 refine au ?_
   refine bnd hF fun r6 hx7 hF => Cx0 (s_AreMethods_ok _ _ _ _ _ hx7) (fun _ => ?_)
   refine au ?_
   rcases Bool.eq_false_or_eq_true r6 with hg9 | hg9
   · rw [hg9]
     try rw [hg9] at hF; dsimp only [cond_true, cond_false] at hF
     iterate 7 refine au ?_
     cases hF
     exact ⟨_, _, rfl, eqA, entA⟩
   rw [hg9]
   try rw [hg9] at hF; dsimp only [cond_true, cond_false] at hF
   iterate 5 refine au ?_
   cases hF
   exact ⟨_, _, rfl, eqA, entA⟩
 rintro _ _ ⟨c10, g11, rfl, rfl, hE⟩
 replace hF := hO5
 try dsimp only at hF
 refine K_ent hE ?_
 refine au ?_
 cases hF
 exact Er ()
def s_SmallestRemoval_L1 (a_s : List Int) (a_l : List Method) (a_list : List Told) : Nat → (List Int) → Bool → Int → Option ((List Int) × Bool)
 | 0, _, _, _ => none
 | m14 + 1, c9, c12, c13 => (shlI .i64 1 (a_list.length : Int)).bind fun x22 =>
   if (decide ((c13 : Int) < x22)) then (
     ((s_l15Set c13 (a_list.length : Int)).bind fun r26 =>
       (bif c12 then ((s_l15Less r26 c9).bind fun r32 =>
           some (true, (!r32)))
         else (some (false, false))).bind fun o29 =>
       match o29 with
       | (c35, c36) => if c36 then (
           some (c9, c35))
         else (
           (s_Without a_list r26).bind fun r37 =>
           (s_IsConsistent a_s a_l r37).bind fun r40 =>
           if r40 then (
             some (r26, true))
           else (
             some (c9, c35)))).bind fun o24 =>
     match o24 with
     | (c46, c49) => s_SmallestRemoval_L1 a_s a_l a_list m14 c46 c49 (IntKind.i64.wrap (c13 + 1)))
   else (
     some (c9, c12))
def s_SmallestRemoval (fuel : Nat) (a_s : List Int) (a_l : List Method) (a_list : List Told) : Option ((List Int) × Bool) :=
 ((s_AreMethods a_s a_l).bind fun r4 =>
   bif (!r4) then (some true)
   else (some (decide ((8 : Int) < (a_list.length : Int))))).bind fun o2 =>
 match o2 with
 | c8 => if c8 then (
     some (([] : List Int), false))
   else (
     s_SmallestRemoval_L1 a_s a_l a_list fuel ([] : List Int) false 0)
theorem s_SmallestRemoval_ok (fuel : Nat) (a_s : List Int) (v0_0 : Sv) (a_l : List Method) (v1_0 : Sv) (a_list : List Told) (v2_0 : Sv) (R : (List Int) × Bool) (hF : s_SmallestRemoval fuel a_s a_l a_list = some R) :
   Fw.Spec Tryz.prog 32 [v0_0.v, v1_0.v, v2_0.v] [crd (RdS 3 rdInt) v0_0.v a_s, crd (RdS 86 rd86) v1_0.v a_l, crd (RdS 90 rd90) v2_0.v a_list] (fun p : Sv × List Nat => (.tuple [p.1.v, (.bool R.2)].toArray)) (fun p => [cown (OwnS 3 (roE rdInt)) p.2 p.1.v R.1]) := by
 refine Se 50 Tryz.func32 [.tmp 6, .tmp 7] ?_
 intro H0 F0
 unfold s_SmallestRemoval at hF
 iterate 5 refine au ?_
 refine C_new rfl (N_buildSliceT (g := true) sl22.h ty3.h .nil (vs := []) rfl rfl rfl (by simp)) (fun k1 => ?_)
 refine Cv1 (.cons .h .nil) (own_lit (Ro := (roE rdInt)) (E := 3) (F := []) (xs := ([] : List Int)) MkL_nil rfl rfl) ?_
 iterate 6 refine au ?_
 obtain ⟨o2, hio2, hO3⟩ := bind_some hF
 refine au ?_
 refine C_cut (fun f' cs' => ∃ (c8 : Bool) (g : Fr), c8 = o2 ∧ f' = updL g [(0, v0_0.v), (1, v1_0.v), (2, v2_0.v), (8, (.slice (some ⟨k1, 0, none⟩) 0 1)), (9, (.bool false)), (21, (.bool c8))] ∧ Ent cs' [crd (RdS 3 rdInt) v0_0.v a_s, crd (RdS 86 rd86) v1_0.v a_l, crd (RdS 90 rd90) v2_0.v a_list, cown (OwnS 3 (roE rdInt)) (k1 :: []) (.slice (some ⟨k1, 0, none⟩) 0 1) ([] : List Int)]) ?_ ?_
 · replace hF := hio2
   iterate 2 refine au ?_
   refine bnd hF fun r4 hx5 hF => Cx0 (s_AreMethods_ok _ _ _ _ _ hx5) (fun _ => ?_)
   iterate 2 refine au ?_
   rcases Bool.eq_false_or_eq_true (!r4) with hg7 | hg7
   · rw [hg7]
     try rw [hg7] at hF; dsimp only [cond_true, cond_false] at hF
     iterate 5 refine au ?_
     cases hF
     exact ⟨_, _, rfl, eqA, entA⟩
   rw [hg7]
   try rw [hg7] at hF; dsimp only [cond_true, cond_false] at hF
   iterate 8 refine au ?_
   cases hF
   exact ⟨_, _, rfl, eqA, entA⟩
 rintro _ _ ⟨c8, g53, rfl, rfl, hE⟩
 replace hF := hO3
 try dsimp only at hF
 refine K_ent hE ?_
 refine Ci hF (fun hb52 hF => ?_) (fun hb52 hF => ?_)
 · iterate 6 refine au ?_
   cases hF
   exact Er (⟨(some ⟨k1, 0, none⟩), 0, 1⟩, (k1 :: []))
 iterate 5 refine au ?_
 refine CW_block (CW_loop (m := fuel) (fun m14 f' cs' => ∃ (g : Fr) (c9 : List Int) (c12 : Bool) (c13 : Int) (v10 : Sv) (F11 : List Nat), f' = updL g [(0, v0_0.v), (1, v1_0.v), (2, v2_0.v), (8, v10.v), (9, (.bool c12)), (10, (.int .i64 c13))] ∧ Ent cs' [crd (RdS 3 rdInt) v0_0.v a_s, crd (RdS 86 rd86) v1_0.v a_l, crd (RdS 90 rd90) v2_0.v a_list, cown (OwnS 3 (roE rdInt)) F11 v10.v c9] ∧ s_SmallestRemoval_L1 a_s a_l a_list m14 c9 c12 c13 = some R) ⟨_, _, _, _, ⟨(some ⟨k1, 0, none⟩), 0, 1⟩, (k1 :: []), eqA, entA, hF⟩ ?_)
 rintro m14 _ _ ⟨g15, c9, c12, c13, v10, F11, rfl, hE, hF⟩
 refine K_ent hE ?_
 rcases m14 with _ | m14
 · rw [s_SmallestRemoval_L1] at hF
   exact absurd hF (by simp)
 rw [s_SmallestRemoval_L1] at hF
 iterate 5 refine au ?_
 refine bnd hF fun x22 hx23 hF => C_val (V_shl (i := 1) (j := (a_list.length : Int)) (.int _ _) (.tmp rfl rfl) hx23) ?_
 iterate 2 refine au ?_
 refine Ci hF (fun hb51 hF => ?_) (fun hb51 hF => ?_)
 · refine au ?_
   obtain ⟨o24, hio24, hO25⟩ := bind_some hF
   refine K_cut (fun f' cs' => ∃ (c46 : List Int) (c49 : Bool) (v47 : Sv) (F48 : List Nat) (g : Fr), o24 = (c46, c49) ∧ f' = updL g [(0, v0_0.v), (1, v1_0.v), (2, v2_0.v), (8, v47.v), (9, (.bool c49)), (10, (.int .i64 c13))] ∧ Ent cs' [crd (RdS 3 rdInt) v0_0.v a_s, crd (RdS 86 rd86) v1_0.v a_l, crd (RdS 90 rd90) v2_0.v a_list, cown (OwnS 3 (roE rdInt)) F48 v47.v c46]) ?_ ?_
   · replace hF := hio24
     refine CW_block (K_region (Cm (.int .i64 c13) rfl rfl ?_))
     iterate 2 refine au ?_
     refine bnd hF fun r26 hx27 hF => Cx1 (s_l15Set_ok _ _ _ hx27) (fun p28 => ?_)
     iterate 3 refine au ?_
     obtain ⟨o29, hio29, hO30⟩ := bind_some hF
     refine au ?_
     refine C_cut (fun f' cs' => ∃ (c35 : Bool) (c36 : Bool) (g : Fr), o29 = (c35, c36) ∧ f' = updL g [(0, v0_0.v), (1, v1_0.v), (2, v2_0.v), (8, v10.v), (9, (.bool c35)), (10, (.int .i64 c13)), (11, p28.1.v), (40, (.bool c36))] ∧ Ent cs' [crd (RdS 3 rdInt) v0_0.v a_s, crd (RdS 86 rd86) v1_0.v a_l, crd (RdS 90 rd90) v2_0.v a_list, cown (OwnS 3 (roE rdInt)) F11 v10.v c9, cown (OwnS 3 (roE rdInt)) p28.2 p28.1.v r26]) ?_ ?_
     · replace hF := hio29
       iterate 2 refine au ?_
       rcases Bool.eq_false_or_eq_true c12 with hg31 | hg31
       · rw [hg31]
         try rw [hg31] at hF; dsimp only [cond_true, cond_false] at hF
         iterate 5 refine au ?_
         refine bnd hF fun r32 hx33 hF => C_x2 (.cons (.t (.t (.t (.t .h)))) (.cons .h .nil)) (XC_borL (pre := []) (.cons frz_own (.cons frz_own .nil)) (fun _ => .nil) (X_callS cf89.h (.cons (.tmp rfl rfl) (.cons (.tmp rfl rfl) .nil)) (s_l15Less_ok r26 p28.1 c9 v10 _ hx33))) (fun _ => ?_)
         iterate 4 refine au ?_
         cases hF
         exact ⟨_, _, _, rfl, eqA, entA⟩
       rw [hg31]
       try rw [hg31] at hF; dsimp only [cond_true, cond_false] at hF
       iterate 6 refine au ?_
       cases hF
       exact ⟨_, _, _, rfl, eqA, entA⟩
     rintro _ _ ⟨c35, c36, g45, rfl, rfl, hE⟩
     replace hF := hO30
     try dsimp only at hF
     refine K_ent hE ?_
     refine Ci hF (fun hb44 hF => ?_) (fun hb44 hF => ?_)
     · iterate 3 refine au ?_
       cases hF
       exact ⟨_, _, v10, F11, _, rfl, eqA, entA⟩
     iterate 6 refine au ?_
     refine bnd hF fun r37 hx38 hF => C_x2 (.cons (.t (.t (.t (.t .h)))) (.rd (.t (.t .h)) rfl .nil)) (XC_bor frz_own (fun _ => (.cons .nil)) (XC_pre (.rd (.t .h) rfl (.rd .h rfl .nil)) (X_callS cf91.h (.cons (.tmp rfl rfl) (.cons (.tmp rfl rfl) .nil)) (s_Without_ok a_list v2_0 r26 p28.1 _ hx38)))) (fun p39 => ?_)
     refine bnd hF fun r40 hx41 hF => C_x1 (.cons (.t .h) (.rd (.t .h) rfl (.rd (.t (.t .h)) rfl .nil))) (XC_bor frz_own (fun _ => .nil) (XC_pre (.rd (.t .h) rfl (.rd (.t (.t .h)) rfl (.rd .h rfl .nil))) (X_callS cf90.h (.cons (.tmp rfl rfl) (.cons (.tmp rfl rfl) (.cons (.tmp rfl rfl) .nil))) (s_IsConsistent_ok a_s v0_0 a_l v1_0 r37 p39.1 _ hx41)))) (fun _ => ?_)
     refine au ?_
     refine Ci hF (fun hb43 hF => ?_) (fun hb43 hF => ?_)
     · iterate 7 refine au ?_
       cases hF
       exact ⟨_, _, p28.1, p28.2, _, rfl, eqA, entA⟩
     refine au ?_
     cases hF
     exact ⟨_, _, v10, F11, _, rfl, eqA, entA⟩
   rintro _ _ ⟨c46, c49, v47, F48, g50, rfl, rfl, hE⟩
   replace hF := hO25
   try dsimp only at hF
   refine K_ent hE ?_
   iterate 5 refine au ?_
   exact ⟨m14, Nat.lt_succ_self _, _, _, _, _, v47, F48, eqA, entA, hF⟩
 iterate 11 refine au ?_
 cases hF
 exact Er (v10, F11)
def s_AddFact_L1 (a_f : Fact) : List Fact → Nat → (List Fact) → Bool → Option ((List Fact))
 | [], k13, c6, c9 => if (!c9) then (
     (s_l2One a_f.Rel a_f.Values).bind fun r22 =>
     (app c6 ([r22] : List Fact)).bind fun z26 =>
     some z26)
   else (
     some c6)
 | x15 :: rest14, k13, c6, c9 => ((bif (!c9) then ((s_CompareFacts a_f x15).bind fun r38 =>
         some (decide ((r38 : Int) < 0)))
       else (some false)).bind fun o32 =>
     match o32 with
     | c41 => if c41 then (
         (s_l2One a_f.Rel a_f.Values).bind fun r42 =>
         (app c6 ([r42] : List Fact)).bind fun z46 =>
         (s_l2One x15.Rel x15.Values).bind fun r54 =>
         (app z46 ([r54] : List Fact)).bind fun z58 =>
         some (z58, true))
       else (
         (s_l2One x15.Rel x15.Values).bind fun r66 =>
         (app c6 ([r66] : List Fact)).bind fun z70 =>
         some (z70, c9))).bind fun o30 =>
   match o30 with
   | (c75, c78) => s_AddFact_L1 a_f rest14 (k13 + 1) c75 c78
def s_AddFact (a_l : List Fact) (a_f : Fact) : Option ((List Fact)) :=
 (s_HasFact a_l a_f).bind fun r3 =>
 s_AddFact_L1 a_f a_l 0 ([] : List Fact) r3
theorem s_AddFact_ok (a_l : List Fact) (v0_0 : Sv) (a_f : Fact) (v1_1 : Sv) (R : (List Fact)) (hF : s_AddFact a_l a_f = some R) :
   Fw.Spec Tryz.prog 93 [v0_0.v, (.agg [(.int .i64 a_f.Rel), v1_1.v].toArray)] [crd (RdS 129 rd129) v0_0.v a_l, crd (RdS 3 rdInt) v1_1.v a_f.Values] (fun p : Sv × List Nat => p.1.v) (fun p => [cown (OwnS 129 ow129) p.2 p.1.v R]) := by
 refine Se 62 Tryz.func93 [.tmp 4] ?_
 intro H0 F0
 unfold s_AddFact at hF
 refine au ?_
 refine AbR (fun k1 => ?_)
 iterate 3 refine au ?_
 refine C_new rfl (N_buildSliceT (g := true) sl52.h ty129.h .nil (vs := []) rfl rfl rfl (by simp)) (fun k2 => ?_)
 refine Cv1 (.cons .h .nil) (own_lit (Ro := ow129) (E := 129) (F := []) (xs := ([] : List Fact)) MkL_nil rfl rfl) ?_
 iterate 5 refine au ?_
 refine bnd hF fun r3 hx4 hF => Cx0 (s_HasFact_ok _ _ _ _ _ hx4) (fun _ => ?_)
 iterate 6 refine au ?_
 refine CW_block (CW_loop (m := a_l.length) (fun m11 f' cs' => ∃ (g : Fr) (k13 : Nat) (rest14 : List Fact) (c6 : List Fact) (c9 : Bool) (v7 : Sv) (F8 : List Nat), m11 = rest14.length ∧ f' = updL g [(0, v0_0.v), (3, (pz k1)), (5, v7.v), (6, (.bool c9)), (7, (.int .i64 (k13 : Int)))] ∧ List.drop k13 a_l = rest14 ∧ Ent cs' [crd (RdS 129 rd129) v0_0.v a_l, cboR k1 129 (.agg [(.int .i64 a_f.Rel), v1_1.v].toArray), crd (RdS 3 rdInt) v1_1.v a_f.Values, cown (OwnS 129 ow129) F8 v7.v c6] ∧ s_AddFact_L1 a_f rest14 k13 c6 c9 = some R) ⟨_, 0, _, _, _, ⟨(some ⟨k2, 0, none⟩), 0, 1⟩, (k2 :: []), rfl, eqA, rfl, entA, hF⟩ ?_)
 rintro m11 _ _ ⟨g12, k13, rest14, c6, c9, v7, F8, rfl, rfl, hd16, hE, hF⟩
 refine Kb hE a_l (fun hbd21 => ?_)
 rcases rest14 with _ | ⟨x15, rest14⟩
 · have hk17 := dn hd16
   rw [s_AddFact_L1] at hF
   iterate 7 refine au ?_
   refine CdF ?_
   iterate 9 refine au ?_
   refine Ci hF (fun hb29 hF => ?_) (fun hb29 hF => ?_)
   · iterate 6 refine au ?_
     refine bnd hF fun r22 hx23 hF => Cx1 (s_l2One_ok _ _ _ _ hx23) (fun p24 => ?_)
     refine C_new rfl (N_buildSliceT (g := true) sl52.h ty129.h (.cons (.tmp rfl rfl) .nil) (vs := [(.agg [(.int .i64 r22.Rel), p24.1.v].toArray)]) rfl rfl rfl (by intro v hv; simp at hv; rcases hv with rfl <;> rfl)) (fun k25 => ?_)
     refine Cv1 (.cons .h (.cons .h .nil)) (own_lit (Ro := ow129) (E := 129) (F := (p24.2 ++ [])) (xs := ([r22] : List Fact)) (MkL_cons mk129 MkL_nil apps) rfl rfl) ?_
     refine bnd hF fun z26 hx27 hF => C_x1 (.cons (.t (.t (.t (.t .h)))) (.cons .h .nil)) (X_appendO (Ro := ow129) sl52.h ni52 ty129.h rfl rfl rfl (.tmp rfl rfl) (.tmp rfl rfl) hx27 src_own) (fun p28 => ?_)
     iterate 7 refine au ?_
     cases hF
     exact Er (p28.1, p28.2)
   iterate 6 refine au ?_
   cases hF
   exact Er (v7, F8)
 obtain ⟨hk17, hx18, hd19⟩ := drop_cons hd16
 rw [s_AddFact_L1] at hF
 iterate 7 refine au ?_
 refine CdT ?_
 refine au ?_
 obtain ⟨o30, hio30, hO31⟩ := bind_some hF
 refine K_cut (fun f' cs' => ∃ (c75 : List Fact) (c78 : Bool) (v76 : Sv) (F77 : List Nat) (g : Fr), o30 = (c75, c78) ∧ f' = updL g [(0, v0_0.v), (3, (pz k1)), (5, v76.v), (6, (.bool c78)), (7, (.int .i64 (k13 : Int)))] ∧ Ent cs' [crd (RdS 129 rd129) v0_0.v a_l, cboR k1 129 (.agg [(.int .i64 a_f.Rel), v1_1.v].toArray), crd (RdS 3 rdInt) v1_1.v a_f.Values, cown (OwnS 129 ow129) F77 v76.v c75]) ?_ ?_
 · replace hF := hio30
   refine CW_block (K_in ?_)
   obtain ⟨o32, hio32, hO33⟩ := bind_some hF
   refine K_draw [0, 1, 2, 3, 4, 5, 6, 7, 8, 9, 10] [0, 1, 3, 7, 7, 7, 55, 119, 255, 511, 1023] [8] mixed (by decide +kernel) ?_
   refine D_cut (fun f' cs' => ∃ (c41 : Bool) (g : Fr), c41 = o32 ∧ f' = updL g [(0, v0_0.v), (3, (pz k1)), (5, v7.v), (6, (.bool c9)), (7, (.int .i64 (k13 : Int))), (28, (.bool c41))] ∧ Ent cs' [crd (RdS 129 rd129) v0_0.v a_l, cboR k1 129 (.agg [(.int .i64 a_f.Rel), v1_1.v].toArray), crd (RdS 3 rdInt) v1_1.v a_f.Values, cown (OwnS 129 ow129) F8 v7.v c6]) ?_ ?_
   · replace hF := hio32
     iterate 3 refine du ?_
     rcases Bool.eq_false_or_eq_true (!c9) with hg34 | hg34
     · rw [hg34]
       try rw [hg34] at hF; dsimp only [cond_true, cond_false] at hF
       iterate 3 refine du ?_
       refine Di hx18 (fun k35 j36 => ?_)
       refine DlA1 (ul129_0_129 x15) la129_0_129 (fun p37 => ?_)
       refine bnd hF fun r38 hx39 hF => Dx0 (s_CompareFacts_ok _ _ _ _ _ hx39) (fun _ => ?_)
       iterate 3 refine du ?_
       cases hF
       exact ⟨_, _, rfl, eqA, entA⟩
     rw [hg34]
     try rw [hg34] at hF; dsimp only [cond_true, cond_false] at hF
     iterate 9 refine du ?_
     cases hF
     exact ⟨_, _, rfl, eqA, entA⟩
   rintro _ _ ⟨c41, g74, rfl, rfl, hE⟩
   replace hF := hO33
   try dsimp only at hF
   refine K_ent hE ?_
   refine Ci hF (fun hb73 hF => ?_) (fun hb73 hF => ?_)
   · iterate 6 refine au ?_
     refine bnd hF fun r42 hx43 hF => Cx1 (s_l2One_ok _ _ _ _ hx43) (fun p44 => ?_)
     refine C_new rfl (N_buildSliceT (g := true) sl52.h ty129.h (.cons (.tmp rfl rfl) .nil) (vs := [(.agg [(.int .i64 r42.Rel), p44.1.v].toArray)]) rfl rfl rfl (by intro v hv; simp at hv; rcases hv with rfl <;> rfl)) (fun k45 => ?_)
     refine Cv1 (.cons .h (.cons .h .nil)) (own_lit (Ro := ow129) (E := 129) (F := (p44.2 ++ [])) (xs := ([r42] : List Fact)) (MkL_cons mk129 MkL_nil apps) rfl rfl) ?_
     refine bnd hF fun z46 hx47 hF => C_x1 (.cons (.t (.t (.t (.t .h)))) (.cons .h .nil)) (X_appendO (Ro := ow129) sl52.h ni52 ty129.h rfl rfl rfl (.tmp rfl rfl) (.tmp rfl rfl) hx47 src_own) (fun p48 => ?_)
     iterate 5 refine au ?_
     refine CW_draw [0, 1, 2, 3, 4, 5, 6, 7, 8, 9, 10, 11, 12, 13, 14] [0, 0, 0, 6, 14, 30, 0, 0, 192, 448, 960, 2046, 4094, 8191, 16383] [11, 13] mixed (by decide +kernel) ?_
     iterate 3 refine du ?_
     refine Di hx18 (fun k49 j50 => ?_)
     refine du ?_
     refine Dl ls129_0 ?_
     iterate 2 refine du ?_
     refine Di hx18 (fun k51 j52 => ?_)
     refine du ?_
     refine D_ldV (R' := (RdS 3 rdInt)) ag22.h rfl .no (.tmp rfl rfl) rfl .h lv129_1 (fun w53 => ?_)
     refine bnd hF fun r54 hx55 hF => Dx1 (s_l2One_ok _ _ _ _ hx55) (fun p56 => ?_)
     refine D_new rfl .no rfl (fun ha => N_buildSliceT (g := true) (len := 1) (parts := [(0, .tmp 48)]) sl52.h ty129.h (.cons (EN ha (.tmp rfl rfl) rfl) .nil) (vs := [(.agg [(.int .i64 r54.Rel), p56.1.v].toArray)]) rfl rfl rfl (by intro v hv; simp at hv; rcases hv with rfl <;> rfl)) (fun k57 => ?_)
     refine Dv1 (.cons .h (.cons .h .nil)) (own_lit (Ro := ow129) (E := 129) (F := (p56.2 ++ [])) (xs := ([r54] : List Fact)) (MkL_cons mk129 MkL_nil apps) rfl rfl) ?_
     refine bnd hF fun z58 hx59 hF => D_act1 rfl rfl .no (.cons (.t (.t (.t (.t .h)))) (.cons .h .nil)) (.dep rfl .nil) (fun ha => X_appendO (Ro := ow129) sl52.h ni52 ty129.h rfl rfl rfl (EN ha (.tmp rfl rfl) rfl) (EN ha (.tmp rfl rfl) rfl) hx59 src_own) (fun p60 => ?_)
     iterate 2 refine du ?_
     cases hF
     exact ⟨_, _, p60.1, p60.2, _, rfl, eqA, entA⟩
   refine au ?_
   refine CW_draw [0, 1, 2, 3, 4, 5, 6, 7, 8, 9, 10, 11, 12, 13, 14] [0, 0, 0, 6, 14, 30, 0, 0, 192, 448, 960, 2046, 4094, 8191, 16383] [11, 13] mixed (by decide +kernel) ?_
   iterate 3 refine du ?_
   refine Di hx18 (fun k61 j62 => ?_)
   refine du ?_
   refine Dl ls129_0 ?_
   iterate 2 refine du ?_
   refine Di hx18 (fun k63 j64 => ?_)
   refine du ?_
   refine D_ldV (R' := (RdS 3 rdInt)) ag22.h rfl .no (.tmp rfl rfl) rfl .h lv129_1 (fun w65 => ?_)
   refine bnd hF fun r66 hx67 hF => Dx1 (s_l2One_ok _ _ _ _ hx67) (fun p68 => ?_)
   refine D_new rfl .no rfl (fun ha => N_buildSliceT (g := true) (len := 1) (parts := [(0, .tmp 48)]) sl52.h ty129.h (.cons (EN ha (.tmp rfl rfl) rfl) .nil) (vs := [(.agg [(.int .i64 r66.Rel), p68.1.v].toArray)]) rfl rfl rfl (by intro v hv; simp at hv; rcases hv with rfl <;> rfl)) (fun k69 => ?_)
   refine Dv1 (.cons .h (.cons .h .nil)) (own_lit (Ro := ow129) (E := 129) (F := (p68.2 ++ [])) (xs := ([r66] : List Fact)) (MkL_cons mk129 MkL_nil apps) rfl rfl) ?_
   refine bnd hF fun z70 hx71 hF => D_act1 rfl rfl .no (.cons (.t (.t (.t (.t (.t (.t (.t .h))))))) (.cons .h .nil)) (.dep rfl .nil) (fun ha => X_appendO (Ro := ow129) sl52.h ni52 ty129.h rfl rfl rfl (EN ha (.tmp rfl rfl) rfl) (EN ha (.tmp rfl rfl) rfl) hx71 src_own) (fun p72 => ?_)
   iterate 2 refine du ?_
   cases hF
   exact ⟨_, _, p72.1, p72.2, _, rfl, eqA, entA⟩
 rintro _ _ ⟨c75, c78, v76, F77, g80, rfl, rfl, hE⟩
 replace hF := hO31
 try dsimp only at hF
 refine K_ent hE ?_
 iterate 5 refine au ?_
 rw [wk k13]
 exact ⟨_, Nat.lt_succ_self _, _, k13 + 1, rest14, _, _, v76, F77, rfl, eqA, hd19, entA, hF⟩
def s_UnionOf_L2 (x10 : Told) : Nat → (List Fact) → Int → Option ((List Fact))
 | 0, _, _ => none
 | m23 + 1, c19, c22 => if (decide ((c22 : Int) < (x10.Facts.length : Int))) then (
     (ix x10.Facts c22).bind fun x37 =>
     (s_AddFact c19 x37).bind fun r44 =>
     s_UnionOf_L2 x10 m23 r44 (IntKind.i64.wrap (c22 + 1)))
   else (
     some c19)
def s_UnionOf_L1 : List Told → Nat → (List Fact) → Option ((List Fact))
 | [], k8, c2 => some c2
 | x10 :: rest9, k8, c2 => (s_UnionOf_L2 x10 (((x10.Facts.length : Int) - 0).toNat + 2) c2 0).bind fun o17 =>
   match o17 with
   | c48 => s_UnionOf_L1 rest9 (k8 + 1) c48
def s_UnionOf (a_list : List Told) : Option ((List Fact)) :=
 s_UnionOf_L1 a_list 0 ([] : List Fact)
theorem s_UnionOf_ok (a_list : List Told) (v0_0 : Sv) (R : (List Fact)) (hF : s_UnionOf a_list = some R) :
   Fw.Spec Tryz.prog 34 [v0_0.v] [crd (RdS 90 rd90) v0_0.v a_list] (fun p : Sv × List Nat => p.1.v) (fun p => [cown (OwnS 129 ow129) p.2 p.1.v R]) := by
 refine Se 34 Tryz.func34 [.tmp 2] ?_
 intro H0 F0
 unfold s_UnionOf at hF
 iterate 4 refine au ?_
 refine C_new rfl (N_buildSliceT (g := true) sl52.h ty129.h .nil (vs := []) rfl rfl rfl (by simp)) (fun k1 => ?_)
 refine Cv1 (.cons .h .nil) (own_lit (Ro := ow129) (E := 129) (F := []) (xs := ([] : List Fact)) MkL_nil rfl rfl) ?_
 iterate 6 refine au ?_
 refine CW_block (CW_loop (m := a_list.length) (fun m6 f' cs' => ∃ (g : Fr) (k8 : Nat) (rest9 : List Told) (c2 : List Fact) (v3 : Sv) (F4 : List Nat), m6 = rest9.length ∧ f' = updL g [(0, v0_0.v), (3, v3.v), (4, (.int .i64 (k8 : Int)))] ∧ List.drop k8 a_list = rest9 ∧ Ent cs' [crd (RdS 90 rd90) v0_0.v a_list, cown (OwnS 129 ow129) F4 v3.v c2] ∧ s_UnionOf_L1 rest9 k8 c2 = some R) ⟨_, 0, _, _, ⟨(some ⟨k1, 0, none⟩), 0, 1⟩, (k1 :: []), rfl, eqA, rfl, entA, hF⟩ ?_)
 rintro m6 _ _ ⟨g7, k8, rest9, c2, v3, F4, rfl, rfl, hd11, hE, hF⟩
 refine Kb hE a_list (fun hbd16 => ?_)
 rcases rest9 with _ | ⟨x10, rest9⟩
 · have hk12 := dn hd11
   rw [s_UnionOf_L1] at hF
   iterate 7 refine au ?_
   refine CdF ?_
   iterate 9 refine au ?_
   cases hF
   exact Er (v3, F4)
 obtain ⟨hk12, hx13, hd14⟩ := drop_cons hd11
 rw [s_UnionOf_L1] at hF
 iterate 7 refine au ?_
 refine CdT ?_
 refine au ?_
 obtain ⟨o17, hio17, hO18⟩ := bind_some hF
 refine K_cut (fun f' cs' => ∃ (c48 : List Fact) (v49 : Sv) (F50 : List Nat) (g : Fr), c48 = o17 ∧ f' = updL g [(0, v0_0.v), (3, v49.v), (4, (.int .i64 (k8 : Int)))] ∧ Ent cs' [crd (RdS 90 rd90) v0_0.v a_list, cown (OwnS 129 ow129) F50 v49.v c48]) ?_ ?_
 · replace hF := hio17
   refine CW_block (K_region (C_val (V_assign (v := (.int .i64 0)) (.int _ _)) ?_))
   refine au ?_
   refine CW_block (CW_loop (m := (((x10.Facts.length : Int) - 0).toNat + 2)) (fun m23 f' cs' => ∃ (g : Fr) (c19 : List Fact) (c22 : Int) (v20 : Sv) (F21 : List Nat), f' = updL g [(0, v0_0.v), (3, v20.v), (4, (.int .i64 (k8 : Int))), (5, (.int .i64 c22))] ∧ Ent cs' [crd (RdS 90 rd90) v0_0.v a_list, cown (OwnS 129 ow129) F21 v20.v c19] ∧ s_UnionOf_L2 x10 m23 c19 c22 = some o17) ⟨_, _, _, v3, F4, eqA, entA, hF⟩ ?_)
   rintro m23 _ _ ⟨g24, c19, c22, v20, F21, rfl, hE, hF⟩
   refine K_ent hE ?_
   rcases m23 with _ | m23
   · rw [s_UnionOf_L2] at hF
     exact absurd hF (by simp)
   rw [s_UnionOf_L2] at hF
   iterate 5 refine au ?_
   refine Ai hx13 (fun k31 j32 => ?_)
   refine au ?_
   refine C_ldV (R' := (RdS 129 rd129)) ag52.h (.tmp rfl rfl) .h lv90_2 (fun w33 => ?_)
   iterate 3 refine au ?_
   refine Ci hF (fun hb47 hF => ?_) (fun hb47 hF => ?_)
   · iterate 6 refine au ?_
     refine Ai hx13 (fun k34 j35 => ?_)
     refine au ?_
     refine C_ldV (R' := (RdS 129 rd129)) ag52.h (.tmp rfl rfl) .h lv90_2 (fun w36 => ?_)
     refine au ?_
     refine bnd hF fun x37 hx38 hF => ?_
     obtain ⟨hp39, hx40⟩ := ix_some hx38
     refine Ai hx40 (fun k41 j42 => ?_)
     refine AlA1 (ul129_0_129 x37) la129_0_129 (fun p43 => ?_)
     refine bnd hF fun r44 hx45 hF => C_x2 (.cons (.t (.t (.t (.t (.t (.t (.t .h))))))) (.rd .h rfl .nil)) (XC_bor frz_own (fun _ => (.cons .nil)) (X_callS cf93.h (.cons (.tmp rfl rfl) (.cons (.tmp rfl rfl) .nil)) (s_AddFact_ok c19 v20 x37 p43 _ hx45))) (fun p46 => ?_)
     iterate 7 refine au ?_
     exact ⟨m23, Nat.lt_succ_self _, _, _, _, p46.1, p46.2, eqA, entA, hF⟩
   iterate 4 refine au ?_
   cases hF
   exact ⟨_, v20, F21, _, rfl, eqA, entA⟩
 rintro _ _ ⟨c48, v49, F50, g52, rfl, rfl, hE⟩
 replace hF := hO18
 try dsimp only at hF
 refine K_ent hE ?_
 iterate 5 refine au ?_
 rw [wk k8]
 exact ⟨_, Nat.lt_succ_self _, _, k8 + 1, rest9, _, v49, F50, rfl, eqA, hd14, entA, hF⟩
def s_FormatInt_L1 : Nat → Int → (List UInt8) → Option ((List UInt8))
 | 0, _, _ => none
 | m5 + 1, c3, c4 => if ((c3 : Int) != 0) then (
     if (decide (((Int.tmod c3 10) : Int) < 0)) then (
       (cat [(u8of (IntKind.i64.wrap (48 + (IntKind.i64.wrap (-(Int.tmod c3 10))))))] c4).bind fun x14 =>
       s_FormatInt_L1 m5 (IntKind.i64.wrap (Int.tdiv c3 10)) x14)
     else (
       (cat [(u8of (IntKind.i64.wrap (48 + (Int.tmod c3 10))))] c4).bind fun x19 =>
       s_FormatInt_L1 m5 (IntKind.i64.wrap (Int.tdiv c3 10)) x19))
   else (
     some c4)
def s_FormatInt (fuel : Nat) (a_n : Int) : Option ((List UInt8)) :=
 if ((a_n : Int) == 0) then (
   some [48])
 else (
   (s_FormatInt_L1 fuel a_n []).bind fun o1 =>
   match o1 with
   | c25 => if (decide ((a_n : Int) < 0)) then (
       (cat [45] c25).bind fun x26 =>
       some x26)
     else (
       some c25))
theorem s_FormatInt_ok (fuel : Nat) (a_n : Int) (R : (List UInt8)) (hF : s_FormatInt fuel a_n = some R) :
   Fw.Spec Tryz.prog 56 [(.int .i64 a_n)] [] (fun _ : Unit => (sv R)) (fun _ => []) := by
 refine Se 31 Tryz.func56 [.tmp 2] ?_
 intro H0 F0
 unfold s_FormatInt at hF
 iterate 8 refine au ?_
 refine Ci hF (fun hb32 hF => ?_) (fun hb32 hF => ?_)
 · iterate 4 refine au ?_
   cases hF
   exact Er ()
 iterate 9 refine au ?_
 obtain ⟨o1, hio1, hO2⟩ := bind_some hF
 refine K_cut (fun f' cs' => ∃ (c25 : List UInt8) (g : Fr), c25 = o1 ∧ f' = updL g [(3, (sv c25)), (4, (.bool (decide ((a_n : Int) < 0))))] ∧ Ent cs' []) ?_ ?_
 · replace hF := hio1
   refine CW_block (CW_loop (m := fuel) (fun m5 f' cs' => ∃ (g : Fr) (c3 : Int) (c4 : List UInt8), f' = updL g [(0, (.int .i64 c3)), (3, (sv c4)), (4, (.bool (decide ((a_n : Int) < 0))))] ∧ Ent cs' [] ∧ s_FormatInt_L1 m5 c3 c4 = some o1) ⟨_, _, _, eqA, entA, hF⟩ ?_)
   rintro m5 _ _ ⟨g6, c3, c4, rfl, hE, hF⟩
   refine K_ent hE ?_
   rcases m5 with _ | m5
   · rw [s_FormatInt_L1] at hF
     exact absurd hF (by simp)
   rw [s_FormatInt_L1] at hF
   iterate 5 refine au ?_
   refine Ci hF (fun hb24 hF => ?_) (fun hb24 hF => ?_)
   · refine au ?_
     refine CW_block (K_region (Cm (.int .i64 c3) rfl rfl ?_))
     refine C_val (V_rem (i := c3) (j := 10) (.tmp rfl rfl) (.int _ _) (by decide)) ?_
     iterate 7 refine au ?_
     refine Ci hF (fun hb23 hF => ?_) (fun hb23 hF => ?_)
     · iterate 2 refine au ?_
       refine C_val (V_neg (i := (Int.tmod c3 10)) (.tmp rfl rfl)) ?_
       iterate 5 refine au ?_
       refine C_val (V_convU8 (i := (IntKind.i64.wrap (48 + (IntKind.i64.wrap (-(Int.tmod c3 10)))))) ik3 ik5 (.tmp rfl rfl)) ?_
       refine C_new rfl (N_buildSliceT (g := true) sl160.h ty5.h (.cons (.tmp rfl rfl) .nil) (vs := [(.int .u8 ((u8of (IntKind.i64.wrap (48 + (IntKind.i64.wrap (-(Int.tmod c3 10)))))).toNat : Int))]) rfl rfl rfl (by intro v hv; simp at hv; rcases hv with rfl <;> rfl)) (fun k13 => ?_)
       refine Cv1 (.cons .h .nil) (own_lit (Ro := (roE rdU8)) (E := 5) (F := ([] ++ [])) (xs := ([(u8of (IntKind.i64.wrap (48 + (IntKind.i64.wrap (-(Int.tmod c3 10))))))] : List UInt8)) (MkL_cons (Mk_pure (fun _ => rfl)) MkL_nil apps) rfl rfl) ?_
       refine C_at .h (fun hp => V_bytes1 (u := (u8of (IntKind.i64.wrap (48 + (IntKind.i64.wrap (-(Int.tmod c3 10))))))) sl160.h ik5 str9 ty5.h.sz (.tmp rfl rfl) hp) ?_
       refine au ?_
       refine bnd hF fun x14 hx15 hF => ?_
       obtain ⟨hq17, hz16⟩ := cat_some hx15
       refine C_val (V_concatN (s := [(u8of (IntKind.i64.wrap (48 + (IntKind.i64.wrap (-(Int.tmod c3 10))))))]) (t := c4) (u := x14) (.tmp rfl rfl) (.tmp rfl rfl) hx15) ?_
       iterate 4 refine au ?_
       refine C_val (V_quo (i := c3) (j := 10) (.tmp rfl rfl) (.int _ _) (by decide)) ?_
       iterate 2 refine au ?_
       exact ⟨m5, Nat.lt_succ_self _, _, _, _, eqA, entA, hF⟩
     iterate 4 refine au ?_
     refine C_val (V_convU8 (i := (IntKind.i64.wrap (48 + (Int.tmod c3 10)))) ik3 ik5 (.tmp rfl rfl)) ?_
     refine C_new rfl (N_buildSliceT (g := true) sl160.h ty5.h (.cons (.tmp rfl rfl) .nil) (vs := [(.int .u8 ((u8of (IntKind.i64.wrap (48 + (Int.tmod c3 10)))).toNat : Int))]) rfl rfl rfl (by intro v hv; simp at hv; rcases hv with rfl <;> rfl)) (fun k18 => ?_)
     refine Cv1 (.cons .h .nil) (own_lit (Ro := (roE rdU8)) (E := 5) (F := ([] ++ [])) (xs := ([(u8of (IntKind.i64.wrap (48 + (Int.tmod c3 10))))] : List UInt8)) (MkL_cons (Mk_pure (fun _ => rfl)) MkL_nil apps) rfl rfl) ?_
     refine C_at .h (fun hp => V_bytes1 (u := (u8of (IntKind.i64.wrap (48 + (Int.tmod c3 10))))) sl160.h ik5 str9 ty5.h.sz (.tmp rfl rfl) hp) ?_
     refine au ?_
     refine bnd hF fun x19 hx20 hF => ?_
     obtain ⟨hq22, hz21⟩ := cat_some hx20
     refine C_val (V_concatN (s := [(u8of (IntKind.i64.wrap (48 + (Int.tmod c3 10))))]) (t := c4) (u := x19) (.tmp rfl rfl) (.tmp rfl rfl) hx20) ?_
     iterate 4 refine au ?_
     refine C_val (V_quo (i := c3) (j := 10) (.tmp rfl rfl) (.int _ _) (by decide)) ?_
     iterate 2 refine au ?_
     exact ⟨m5, Nat.lt_succ_self _, _, _, _, eqA, entA, hF⟩
   iterate 4 refine au ?_
   cases hF
   exact ⟨_, _, rfl, eqA, entA⟩
 rintro _ _ ⟨c25, g31, rfl, rfl, hE⟩
 replace hF := hO2
 try dsimp only at hF
 refine K_ent hE ?_
 iterate 4 refine au ?_
 refine Ci hF (fun hb30 hF => ?_) (fun hb30 hF => ?_)
 · iterate 2 refine au ?_
   refine bnd hF fun x26 hx27 hF => ?_
   obtain ⟨hq29, hz28⟩ := cat_some hx27
   refine C_val (V_concatN (s := [45]) (t := c25) (u := x26) (.sv _) (.tmp rfl rfl) hx27) ?_
   iterate 3 refine au ?_
   cases hF
   exact Er ()
 iterate 6 refine au ?_
 cases hF
 exact Er ()
def s_l2List_L1 (fuel : Nat) : List Int → Nat → (List UInt8) → Option ((List UInt8))
 | [], k5, c1 => some c1
 | x7 :: rest6, k5, c1 => (if (decide ((0 : Int) < (k5 : Int))) then (
       (cat c1 [44]).bind fun x16 =>
       (s_FormatInt fuel x7).bind fun r22 =>
       (cat x16 r22).bind fun x25 =>
       some x25)
     else (
       (s_FormatInt fuel x7).bind fun r31 =>
       (cat c1 r31).bind fun x34 =>
       some x34)).bind fun o14 =>
   match o14 with
   | c39 => s_l2List_L1 fuel rest6 (k5 + 1) c39
def s_l2List (fuel : Nat) (a_l : List Int) : Option ((List UInt8)) :=
 s_l2List_L1 fuel a_l 0 []
theorem s_l2List_ok (fuel : Nat) (a_l : List Int) (v0_0 : Sv) (R : (List UInt8)) (hF : s_l2List fuel a_l = some R) :
   Fw.Spec Tryz.prog 35 [v0_0.v] [crd (RdS 3 rdInt) v0_0.v a_l] (fun _ : Unit => (sv R)) (fun _ => []) := by
 refine Se 23 Tryz.func35 [.tmp 2] ?_
 intro H0 F0
 unfold s_l2List at hF
 iterate 10 refine au ?_
 refine CW_block (CW_loop (m := a_l.length) (fun m3 f' cs' => ∃ (g : Fr) (k5 : Nat) (rest6 : List Int) (c1 : List UInt8), m3 = rest6.length ∧ f' = updL g [(0, v0_0.v), (3, (sv c1)), (4, (.int .i64 (k5 : Int)))] ∧ List.drop k5 a_l = rest6 ∧ Ent cs' [crd (RdS 3 rdInt) v0_0.v a_l] ∧ s_l2List_L1 fuel rest6 k5 c1 = some R) ⟨_, 0, _, _, rfl, eqA, rfl, entA, hF⟩ ?_)
 rintro m3 _ _ ⟨g4, k5, rest6, c1, rfl, rfl, hd8, hE, hF⟩
 refine Kb hE a_l (fun hbd13 => ?_)
 rcases rest6 with _ | ⟨x7, rest6⟩
 · have hk9 := dn hd8
   rw [s_l2List_L1] at hF
   iterate 7 refine au ?_
   refine CdF ?_
   iterate 9 refine au ?_
   cases hF
   exact Er ()
 obtain ⟨hk9, hx10, hd11⟩ := drop_cons hd8
 rw [s_l2List_L1] at hF
 iterate 7 refine au ?_
 refine CdT ?_
 refine au ?_
 obtain ⟨o14, hio14, hO15⟩ := bind_some hF
 refine K_cut (fun f' cs' => ∃ (c39 : List UInt8) (g : Fr), c39 = o14 ∧ f' = updL g [(0, v0_0.v), (3, (sv c39)), (4, (.int .i64 (k5 : Int)))] ∧ Ent cs' [crd (RdS 3 rdInt) v0_0.v a_l]) ?_ ?_
 · replace hF := hio14
   refine CW_block (K_in (K_region (Cm (.int .i64 (k5 : Int)) rfl rfl ?_)))
   iterate 2 refine au ?_
   refine Ci hF (fun hb38 hF => ?_) (fun hb38 hF => ?_)
   · iterate 2 refine au ?_
     refine bnd hF fun x16 hx17 hF => ?_
     obtain ⟨hq19, hz18⟩ := cat_some hx17
     refine C_val (V_concatN (s := c1) (t := [44]) (u := x16) (.tmp rfl rfl) (.sv _) hx17) ?_
     iterate 6 refine au ?_
     refine Ai hx10 (fun k20 j21 => ?_)
     refine Al ls3_0 ?_
     refine bnd hF fun r22 hx23 hF => Cx0 (s_FormatInt_ok _ _ _ hx23) (fun _ => ?_)
     refine bnd hF fun x25 hx26 hF => ?_
     obtain ⟨hq28, hz27⟩ := cat_some hx26
     refine C_val (V_concatN (s := x16) (t := r22) (u := x25) (.tmp rfl rfl) (.tmp rfl rfl) hx26) ?_
     iterate 2 refine au ?_
     cases hF
     exact ⟨_, _, rfl, eqA, entA⟩
   iterate 5 refine au ?_
   refine Ai hx10 (fun k29 j30 => ?_)
   refine Al ls3_0 ?_
   refine bnd hF fun r31 hx32 hF => Cx0 (s_FormatInt_ok _ _ _ hx32) (fun _ => ?_)
   refine bnd hF fun x34 hx35 hF => ?_
   obtain ⟨hq37, hz36⟩ := cat_some hx35
   refine C_val (V_concatN (s := c1) (t := r31) (u := x34) (.tmp rfl rfl) (.tmp rfl rfl) hx35) ?_
   iterate 2 refine au ?_
   cases hF
   exact ⟨_, _, rfl, eqA, entA⟩
 rintro _ _ ⟨c39, g41, rfl, rfl, hE⟩
 replace hF := hO15
 try dsimp only at hF
 refine K_ent hE ?_
 iterate 5 refine au ?_
 rw [wk k5]
 exact ⟨_, Nat.lt_succ_self _, _, k5 + 1, rest6, _, rfl, eqA, hd11, entA, hF⟩
def s_FormatFact_L1 (a_f : Fact) (fuel : Nat) : List Int → Nat → Option ((List UInt8))
 | [], k15 => (s_FormatInt fuel a_f.Rel).bind fun r24 =>
   (cat [114] r24).bind fun x27 =>
   (cat x27 [40]).bind fun x31 =>
   (s_l2List fuel a_f.Values).bind fun r35 =>
   (cat x31 r35).bind fun x38 =>
   (cat x38 [41]).bind fun x42 =>
   some x42
 | x17 :: rest16, k15 => (s_l1In x17 0 9).bind fun r48 =>
   if (!r48) then (
     some [])
   else (
     s_FormatFact_L1 a_f fuel rest16 (k15 + 1))
def s_FormatFact (fuel : Nat) (a_f : Fact) : Option ((List UInt8)) :=
 ((s_l1In a_f.Rel 0 2).bind fun r4 =>
   bif (!r4) then (some true)
   else ((s_l1In (a_f.Values.length : Int) 1 3).bind fun r8 =>
     some (!r8))).bind fun o2 =>
 match o2 with
 | c11 => if c11 then (
     some [])
   else (
     s_FormatFact_L1 a_f fuel a_f.Values 0)
theorem s_FormatFact_ok (fuel : Nat) (a_f : Fact) (v0_1 : Sv) (R : (List UInt8)) (hF : s_FormatFact fuel a_f = some R) :
   Fw.Spec Tryz.prog 92 [(.agg [(.int .i64 a_f.Rel), v0_1.v].toArray)] [crd (RdS 3 rdInt) v0_1.v a_f.Values] (fun _ : Unit => (sv R)) (fun _ => []) := by
 refine Se 39 Tryz.func92 [.tmp 2] ?_
 intro H0 F0
 unfold s_FormatFact at hF
 refine au ?_
 refine AbR (fun k1 => ?_)
 iterate 3 refine au ?_
 obtain ⟨o2, hio2, hO3⟩ := bind_some hF
 refine au ?_
 refine C_cut (fun f' cs' => ∃ (c11 : Bool) (g : Fr), c11 = o2 ∧ f' = updL g [(1, (pz k1)), (14, (.bool c11))] ∧ Ent cs' [cboR k1 129 (.agg [(.int .i64 a_f.Rel), v0_1.v].toArray), crd (RdS 3 rdInt) v0_1.v a_f.Values]) ?_ ?_
 · replace hF := hio2
   iterate 2 refine au ?_
   refine bnd hF fun r4 hx5 hF => Cx0 (s_l1In_ok _ _ _ _ hx5) (fun _ => ?_)
   iterate 2 refine au ?_
   rcases Bool.eq_false_or_eq_true (!r4) with hg7 | hg7
   · rw [hg7]
     try rw [hg7] at hF; dsimp only [cond_true, cond_false] at hF
     iterate 7 refine au ?_
     cases hF
     exact ⟨_, _, rfl, eqA, entA⟩
   rw [hg7]
   try rw [hg7] at hF; dsimp only [cond_true, cond_false] at hF
   iterate 7 refine au ?_
   refine bnd hF fun r8 hx9 hF => Cx0 (s_l1In_ok _ _ _ _ hx9) (fun _ => ?_)
   iterate 4 refine au ?_
   cases hF
   exact ⟨_, _, rfl, eqA, entA⟩
 rintro _ _ ⟨c11, g54, rfl, rfl, hE⟩
 replace hF := hO3
 try dsimp only at hF
 refine K_ent hE ?_
 refine Ci hF (fun hb53 hF => ?_) (fun hb53 hF => ?_)
 · iterate 4 refine au ?_
   cases hF
   exact Er ()
 iterate 5 refine au ?_
 refine CW_block (CW_loop (m := a_f.Values.length) (fun m13 f' cs' => ∃ (g : Fr) (k15 : Nat) (rest16 : List Int), m13 = rest16.length ∧ f' = updL g [(1, (pz k1)), (3, (.int .i64 (k15 : Int)))] ∧ List.drop k15 a_f.Values = rest16 ∧ Ent cs' [cboR k1 129 (.agg [(.int .i64 a_f.Rel), v0_1.v].toArray), crd (RdS 3 rdInt) v0_1.v a_f.Values] ∧ s_FormatFact_L1 a_f fuel rest16 k15 = some R) ⟨_, 0, _, rfl, eqA, rfl, entA, hF⟩ ?_)
 rintro m13 _ _ ⟨g14, k15, rest16, rfl, rfl, hd18, hE, hF⟩
 refine Kb hE a_f.Values (fun hbd23 => ?_)
 rcases rest16 with _ | ⟨x17, rest16⟩
 · have hk19 := dn hd18
   rw [s_FormatFact_L1] at hF
   iterate 8 refine au ?_
   refine CdF ?_
   iterate 4 refine au ?_
   refine K_draw [0, 1, 5, 6, 2, 3, 4, 7, 8, 9, 10] [0, 1, 3, 7, 15, 0, 32, 103, 255, 511, 1023] [2, 7] mixed (by decide +kernel) ?_
   iterate 4 refine du ?_
   refine bnd hF fun r24 hx25 hF => Dx0 (s_FormatInt_ok _ _ _ hx25) (fun _ => ?_)
   refine bnd hF fun x27 hx28 hF => ?_
   obtain ⟨hq30, hz29⟩ := cat_some hx28
   refine D_val rfl .no (fun ha => V_concatN (s := [114]) (t := r24) (u := x27) (EN ha (.sv _) rfl) (EN ha (.tmp rfl rfl) rfl) hx28) ?_
   refine bnd hF fun x31 hx32 hF => ?_
   obtain ⟨hq34, hz33⟩ := cat_some hx32
   refine D_val rfl .no (fun ha => V_concatN (s := x27) (t := [40]) (u := x31) (EN ha (.tmp rfl rfl) rfl) (EN ha (.sv _) rfl) hx32) ?_
   refine bnd hF fun r35 hx36 hF => Dx0 (s_l2List_ok _ _ _ _ hx36) (fun _ => ?_)
   refine bnd hF fun x38 hx39 hF => ?_
   obtain ⟨hq41, hz40⟩ := cat_some hx39
   refine D_val rfl .no (fun ha => V_concatN (s := x31) (t := r35) (u := x38) (EN ha (.tmp rfl rfl) rfl) (EN ha (.tmp rfl rfl) rfl) hx39) ?_
   refine bnd hF fun x42 hx43 hF => ?_
   obtain ⟨hq45, hz44⟩ := cat_some hx43
   refine D_val rfl .no (fun ha => V_concatN (s := x38) (t := [41]) (u := x42) (EN ha (.tmp rfl rfl) rfl) (EN ha (.sv _) rfl) hx43) ?_
   iterate 2 refine du ?_
   refine au ?_
   cases hF
   exact Er ()
 obtain ⟨hk19, hx20, hd21⟩ := drop_cons hd18
 rw [s_FormatFact_L1] at hF
 iterate 8 refine au ?_
 refine CdT ?_
 iterate 6 refine au ?_
 refine Ai hx20 (fun k46 j47 => ?_)
 refine Al ls3_0 ?_
 refine bnd hF fun r48 hx49 hF => Cx0 (s_l1In_ok _ _ _ _ hx49) (fun _ => ?_)
 iterate 2 refine au ?_
 refine Ci hF (fun hb52 hF => ?_) (fun hb52 hF => ?_)
 · iterate 4 refine au ?_
   cases hF
   exact Er ()
 iterate 6 refine au ?_
 rw [wk k15]
 exact ⟨_, Nat.lt_succ_self _, _, k15 + 1, rest16, rfl, eqA, hd21, entA, hF⟩
def s_l36Facts_L1 (fuel : Nat) : List Fact → Nat → (List UInt8) → Option ((List UInt8))
 | [], k5, c1 => if (c1 == []) then (
     some [110, 111, 110, 101])
   else (
     some c1)
 | x7 :: rest6, k5, c1 => (if (decide ((0 : Int) < (k5 : Int))) then (
       (cat c1 [32]).bind fun x17 =>
       (s_FormatFact fuel x7).bind fun r24 =>
       (cat x17 r24).bind fun x27 =>
       some x27)
     else (
       (s_FormatFact fuel x7).bind fun r34 =>
       (cat c1 r34).bind fun x37 =>
       some x37)).bind fun o15 =>
   match o15 with
   | c42 => s_l36Facts_L1 fuel rest6 (k5 + 1) c42
def s_l36Facts (fuel : Nat) (a_l : List Fact) : Option ((List UInt8)) :=
 s_l36Facts_L1 fuel a_l 0 []
theorem s_l36Facts_ok (fuel : Nat) (a_l : List Fact) (v0_0 : Sv) (R : (List UInt8)) (hF : s_l36Facts fuel a_l = some R) :
   Fw.Spec Tryz.prog 33 [v0_0.v] [crd (RdS 129 rd129) v0_0.v a_l] (fun _ : Unit => (sv R)) (fun _ => []) := by
 refine Se 25 Tryz.func33 [.tmp 2] ?_
 intro H0 F0
 unfold s_l36Facts at hF
 iterate 10 refine au ?_
 refine CW_block (CW_loop (m := a_l.length) (fun m3 f' cs' => ∃ (g : Fr) (k5 : Nat) (rest6 : List Fact) (c1 : List UInt8), m3 = rest6.length ∧ f' = updL g [(0, v0_0.v), (3, (sv c1)), (4, (.int .i64 (k5 : Int)))] ∧ List.drop k5 a_l = rest6 ∧ Ent cs' [crd (RdS 129 rd129) v0_0.v a_l] ∧ s_l36Facts_L1 fuel rest6 k5 c1 = some R) ⟨_, 0, _, _, rfl, eqA, rfl, entA, hF⟩ ?_)
 rintro m3 _ _ ⟨g4, k5, rest6, c1, rfl, rfl, hd8, hE, hF⟩
 refine Kb hE a_l (fun hbd13 => ?_)
 rcases rest6 with _ | ⟨x7, rest6⟩
 · have hk9 := dn hd8
   rw [s_l36Facts_L1] at hF
   iterate 7 refine au ?_
   refine CdF ?_
   iterate 7 refine au ?_
   refine C_val (V_eqT (s := c1) (t := []) (.tmp rfl rfl) (.sv _)) ?_
   refine au ?_
   refine Ci hF (fun hb14 hF => ?_) (fun hb14 hF => ?_)
   · iterate 4 refine au ?_
     cases hF
     exact Er ()
   iterate 6 refine au ?_
   cases hF
   exact Er ()
 obtain ⟨hk9, hx10, hd11⟩ := drop_cons hd8
 rw [s_l36Facts_L1] at hF
 iterate 7 refine au ?_
 refine CdT ?_
 refine au ?_
 obtain ⟨o15, hio15, hO16⟩ := bind_some hF
 refine K_cut (fun f' cs' => ∃ (c42 : List UInt8) (g : Fr), c42 = o15 ∧ f' = updL g [(0, v0_0.v), (3, (sv c42)), (4, (.int .i64 (k5 : Int)))] ∧ Ent cs' [crd (RdS 129 rd129) v0_0.v a_l]) ?_ ?_
 · replace hF := hio15
   refine CW_block (K_in (K_region (Cm (.int .i64 (k5 : Int)) rfl rfl ?_)))
   iterate 2 refine au ?_
   refine Ci hF (fun hb41 hF => ?_) (fun hb41 hF => ?_)
   · iterate 2 refine au ?_
     refine bnd hF fun x17 hx18 hF => ?_
     obtain ⟨hq20, hz19⟩ := cat_some hx18
     refine C_val (V_concatN (s := c1) (t := [32]) (u := x17) (.tmp rfl rfl) (.sv _) hx18) ?_
     iterate 6 refine au ?_
     refine Ai hx10 (fun k21 j22 => ?_)
     refine AlA1 (ul129_0_129 x7) la129_0_129 (fun p23 => ?_)
     refine bnd hF fun r24 hx25 hF => Cx0 (s_FormatFact_ok _ _ _ _ hx25) (fun _ => ?_)
     refine bnd hF fun x27 hx28 hF => ?_
     obtain ⟨hq30, hz29⟩ := cat_some hx28
     refine C_val (V_concatN (s := x17) (t := r24) (u := x27) (.tmp rfl rfl) (.tmp rfl rfl) hx28) ?_
     iterate 2 refine au ?_
     cases hF
     exact ⟨_, _, rfl, eqA, entA⟩
   iterate 5 refine au ?_
   refine Ai hx10 (fun k31 j32 => ?_)
   refine AlA1 (ul129_0_129 x7) la129_0_129 (fun p33 => ?_)
   refine bnd hF fun r34 hx35 hF => Cx0 (s_FormatFact_ok _ _ _ _ hx35) (fun _ => ?_)
   refine bnd hF fun x37 hx38 hF => ?_
   obtain ⟨hq40, hz39⟩ := cat_some hx38
   refine C_val (V_concatN (s := c1) (t := r34) (u := x37) (.tmp rfl rfl) (.tmp rfl rfl) hx38) ?_
   iterate 2 refine au ?_
   cases hF
   exact ⟨_, _, rfl, eqA, entA⟩
 rintro _ _ ⟨c42, g44, rfl, rfl, hE⟩
 replace hF := hO16
 try dsimp only at hF
 refine K_ent hE ?_
 iterate 5 refine au ?_
 rw [wk k5]
 exact ⟨_, Nat.lt_succ_self _, _, k5 + 1, rest6, _, rfl, eqA, hd11, entA, hF⟩
def s_l2Ints_L1 (a_b : List Int) : List Int → Nat → Option (Bool)
 | [], k4 => some true
 | x6 :: rest5, k4 => (ix a_b (k4 : Int)).bind fun x15 =>
   if ((x6 : Int) != x15) then (
     some false)
   else (
     s_l2Ints_L1 a_b rest5 (k4 + 1))
def s_l2Ints (a_a : List Int) (a_b : List Int) : Option (Bool) :=
 if (((a_a.length : Int) : Int) != (a_b.length : Int)) then (
   some false)
 else (
   s_l2Ints_L1 a_b a_a 0)
theorem s_l2Ints_ok (a_a : List Int) (v0_0 : Sv) (a_b : List Int) (v1_0 : Sv) (R : Bool) (hF : s_l2Ints a_a a_b = some R) :
   Fw.Spec Tryz.prog 205 [v0_0.v, v1_0.v] [crd (RdS 3 rdInt) v0_0.v a_a, crd (RdS 3 rdInt) v1_0.v a_b] (fun _ : Unit => (.bool R)) (fun _ => []) := by
 refine Se 26 Tryz.func205 [.tmp 4] ?_
 intro H0 F0
 unfold s_l2Ints at hF
 iterate 11 refine au ?_
 refine Ci hF (fun hb23 hF => ?_) (fun hb23 hF => ?_)
 · iterate 4 refine au ?_
   cases hF
   exact Er ()
 iterate 5 refine au ?_
 refine CW_block (CW_loop (m := a_a.length) (fun m2 f' cs' => ∃ (g : Fr) (k4 : Nat) (rest5 : List Int), m2 = rest5.length ∧ f' = updL g [(0, v0_0.v), (1, v1_0.v), (5, (.int .i64 (k4 : Int)))] ∧ List.drop k4 a_a = rest5 ∧ Ent cs' [crd (RdS 3 rdInt) v0_0.v a_a, crd (RdS 3 rdInt) v1_0.v a_b] ∧ s_l2Ints_L1 a_b rest5 k4 = some R) ⟨_, 0, _, rfl, eqA, rfl, entA, hF⟩ ?_)
 rintro m2 _ _ ⟨g3, k4, rest5, rfl, rfl, hd7, hE, hF⟩
 refine Kb hE a_a (fun hbd12 => ?_)
 rcases rest5 with _ | ⟨x6, rest5⟩
 · have hk8 := dn hd7
   rw [s_l2Ints_L1] at hF
   iterate 7 refine au ?_
   refine CdF ?_
   iterate 8 refine au ?_
   cases hF
   exact Er ()
 obtain ⟨hk8, hx9, hd10⟩ := drop_cons hd7
 rw [s_l2Ints_L1] at hF
 iterate 7 refine au ?_
 refine CdT ?_
 iterate 2 refine au ?_
 refine K_draw [0, 1, 2, 3, 4, 5, 6, 7, 8] [0, 0, 3, 7, 0, 0, 48, 112, 255] [] mixed (by decide +kernel) ?_
 iterate 2 refine du ?_
 refine Di hx9 (fun k13 j14 => ?_)
 refine Dl ls3_0 ?_
 iterate 2 refine du ?_
 refine bnd hF fun x15 hx16 hF => ?_
 obtain ⟨hp17, hx18⟩ := ix_some hx16
 refine Di hx18 (fun k19 j20 => ?_)
 refine Dl ls3_0 ?_
 iterate 2 refine du ?_
 refine Ci hF (fun hb22 hF => ?_) (fun hb22 hF => ?_)
 · iterate 4 refine au ?_
   cases hF
   exact Er ()
 iterate 6 refine au ?_
 rw [wk k4]
 exact ⟨_, Nat.lt_succ_self _, _, k4 + 1, rest5, rfl, eqA, hd10, entA, hF⟩
def s_AddTuple_L2 (a_t : List Int) : List (List Int) → Nat → (List (List Int)) → Bool → Option ((List (List Int)))
 | [], k22, c15, c18 => if (!c18) then (
     (app ([] : List Int) a_t).bind fun z32 =>
     (app c15 ([z32] : List (List Int))).bind fun z36 =>
     some z36)
   else (
     some c15)
 | x24 :: rest23, k22, c15, c18 => ((bif (!c18) then ((s_l4Less a_t x24).bind fun r48 =>
         some r48)
       else (some false)).bind fun o42 =>
     match o42 with
     | c51 => if c51 then (
         (app ([] : List Int) a_t).bind fun z53 =>
         (app c15 ([z53] : List (List Int))).bind fun z57 =>
         (app ([] : List Int) x24).bind fun z64 =>
         (app z57 ([z64] : List (List Int))).bind fun z68 =>
         some (z68, true))
       else (
         (app ([] : List Int) x24).bind fun z75 =>
         (app c15 ([z75] : List (List Int))).bind fun z79 =>
         some (z79, c18))).bind fun o40 =>
   match o40 with
   | (c84, c87) => s_AddTuple_L2 a_t rest23 (k22 + 1) c84 c87
def s_AddTuple_L1 (a_l : List (List Int)) (a_t : List Int) : List (List Int) → Nat → Bool → Option ((List (List Int)))
 | [], k6, c2 => s_AddTuple_L2 a_t a_l 0 ([] : List (List Int)) c2
 | x8 :: rest7, k6, c2 => (bif c2 then (some true)
     else ((s_l2Ints x8 a_t).bind fun r96 =>
       some r96)).bind fun o90 =>
   match o90 with
   | c99 => s_AddTuple_L1 a_l a_t rest7 (k6 + 1) c99
def s_AddTuple (a_l : List (List Int)) (a_t : List Int) : Option ((List (List Int))) :=
 s_AddTuple_L1 a_l a_t a_l 0 false
theorem s_AddTuple_ok (a_l : List (List Int)) (v0_0 : Sv) (a_t : List Int) (v1_0 : Sv) (R : (List (List Int))) (hF : s_AddTuple a_l a_t = some R) :
   Fw.Spec Tryz.prog 151 [v0_0.v, v1_0.v] [crd (RdS 22 (RdS 3 rdInt)) v0_0.v a_l, crd (RdS 3 rdInt) v1_0.v a_t] (fun p : Sv × List Nat => p.1.v) (fun p => [cown (OwnS 22 (OwnS 3 (roE rdInt))) p.2 p.1.v R]) := by
 refine Se 65 Tryz.func151 [.tmp 4] ?_
 intro H0 F0
 unfold s_AddTuple at hF
 iterate 4 refine au ?_
 refine C_new rfl (N_buildSliceT (g := true) sl139.h ty22.h .nil (vs := []) rfl rfl rfl (by simp)) (fun k1 => ?_)
 refine Cv1 (.cons .h .nil) (own_lit (Ro := (OwnS 3 (roE rdInt))) (E := 22) (F := []) (xs := ([] : List (List Int))) MkL_nil rfl rfl) ?_
 iterate 9 refine au ?_
 refine CW_block (CW_loop (m := a_l.length) (fun m4 f' cs' => ∃ (g : Fr) (k6 : Nat) (rest7 : List (List Int)) (c2 : Bool), m4 = rest7.length ∧ f' = updL g [(0, v0_0.v), (1, v1_0.v), (5, (.slice (some ⟨k1, 0, none⟩) 0 1)), (6, (.bool c2)), (7, (.int .i64 (k6 : Int)))] ∧ List.drop k6 a_l = rest7 ∧ Ent cs' [crd (RdS 22 (RdS 3 rdInt)) v0_0.v a_l, crd (RdS 3 rdInt) v1_0.v a_t, cown (OwnS 22 (OwnS 3 (roE rdInt))) (k1 :: []) (.slice (some ⟨k1, 0, none⟩) 0 1) ([] : List (List Int))] ∧ s_AddTuple_L1 a_l a_t rest7 k6 c2 = some R) ⟨_, 0, _, _, rfl, eqA, rfl, entA, hF⟩ ?_)
 rintro m4 _ _ ⟨g5, k6, rest7, c2, rfl, rfl, hd9, hE, hF⟩
 refine Kb hE a_l (fun hbd14 => ?_)
 rcases rest7 with _ | ⟨x8, rest7⟩
 · have hk10 := dn hd9
   rw [s_AddTuple_L1] at hF
   iterate 7 refine au ?_
   refine CdF ?_
   iterate 8 refine au ?_
   refine CW_block (CW_loop (m := a_l.length) (fun m20 f' cs' => ∃ (g : Fr) (k22 : Nat) (rest23 : List (List Int)) (c15 : List (List Int)) (c18 : Bool) (v16 : Sv) (F17 : List Nat), m20 = rest23.length ∧ f' = updL g [(0, v0_0.v), (1, v1_0.v), (5, v16.v), (6, (.bool c18)), (8, (.int .i64 (k22 : Int)))] ∧ List.drop k22 a_l = rest23 ∧ Ent cs' [crd (RdS 22 (RdS 3 rdInt)) v0_0.v a_l, crd (RdS 3 rdInt) v1_0.v a_t, cown (OwnS 22 (OwnS 3 (roE rdInt))) F17 v16.v c15] ∧ s_AddTuple_L2 a_t rest23 k22 c15 c18 = some R) ⟨_, 0, _, _, _, ⟨(some ⟨k1, 0, none⟩), 0, 1⟩, (k1 :: []), rfl, eqA, rfl, entA, hF⟩ ?_)
   rintro m20 _ _ ⟨g21, k22, rest23, c15, c18, v16, F17, rfl, rfl, hd25, hE, hF⟩
   refine Kb hE a_l (fun hbd30 => ?_)
   rcases rest23 with _ | ⟨x24, rest23⟩
   · have hk26 := dn hd25
     rw [s_AddTuple_L2] at hF
     iterate 7 refine au ?_
     refine CdF ?_
     iterate 9 refine au ?_
     refine Ci hF (fun hb39 hF => ?_) (fun hb39 hF => ?_)
     · iterate 2 refine au ?_
       refine C_new rfl (N_buildSliceT (g := true) sl22.h ty3.h .nil (vs := []) rfl rfl rfl (by simp)) (fun k31 => ?_)
       refine Cv1 (.cons .h .nil) (own_lit (Ro := (roE rdInt)) (E := 3) (F := []) (xs := ([] : List Int)) MkL_nil rfl rfl) ?_
       refine au ?_
       refine bnd hF fun z32 hx33 hF => C_x1 (.cons .h (.rd (.t .h) rfl .nil)) (X_appendO (Ro := (roE rdInt)) sl22.h ni22 ty3.h rfl rfl rfl (.tmp rfl rfl) (.tmp rfl rfl) hx33 src_rd) (fun p34 => ?_)
       refine C_new rfl (N_buildSliceT (g := true) sl139.h ty22.h (.cons (.tmp rfl rfl) .nil) (vs := [p34.1.v]) rfl rfl rfl (by intro v hv; simp at hv; rcases hv with rfl <;> rfl)) (fun k35 => ?_)
       refine Cv1 (.cons .h (.cons .h .nil)) (own_lit (Ro := (OwnS 3 (roE rdInt))) (E := 22) (F := (p34.2 ++ [])) (xs := ([z32] : List (List Int))) (MkL_cons Mk_own MkL_nil apps) rfl rfl) ?_
       refine bnd hF fun z36 hx37 hF => C_x1 (.cons (.t (.t (.t .h))) (.cons .h .nil)) (X_appendO (Ro := (OwnS 3 (roE rdInt))) sl139.h ni139 ty22.h rfl rfl rfl (.tmp rfl rfl) (.tmp rfl rfl) hx37 src_own) (fun p38 => ?_)
       iterate 7 refine au ?_
       cases hF
       exact Er (p38.1, p38.2)
     iterate 6 refine au ?_
     cases hF
     exact Er (v16, F17)
   obtain ⟨hk26, hx27, hd28⟩ := drop_cons hd25
   rw [s_AddTuple_L2] at hF
   iterate 7 refine au ?_
   refine CdT ?_
   refine au ?_
   obtain ⟨o40, hio40, hO41⟩ := bind_some hF
   refine K_cut (fun f' cs' => ∃ (c84 : List (List Int)) (c87 : Bool) (v85 : Sv) (F86 : List Nat) (g : Fr), o40 = (c84, c87) ∧ f' = updL g [(0, v0_0.v), (1, v1_0.v), (5, v85.v), (6, (.bool c87)), (8, (.int .i64 (k22 : Int)))] ∧ Ent cs' [crd (RdS 22 (RdS 3 rdInt)) v0_0.v a_l, crd (RdS 3 rdInt) v1_0.v a_t, cown (OwnS 22 (OwnS 3 (roE rdInt))) F86 v85.v c84]) ?_ ?_
   · replace hF := hio40
     refine CW_block (K_in ?_)
     obtain ⟨o42, hio42, hO43⟩ := bind_some hF
     refine au ?_
     refine C_cut (fun f' cs' => ∃ (c51 : Bool) (g : Fr), c51 = o42 ∧ f' = updL g [(0, v0_0.v), (1, v1_0.v), (5, v16.v), (6, (.bool c18)), (8, (.int .i64 (k22 : Int))), (40, (.bool c51))] ∧ Ent cs' [crd (RdS 22 (RdS 3 rdInt)) v0_0.v a_l, crd (RdS 3 rdInt) v1_0.v a_t, cown (OwnS 22 (OwnS 3 (roE rdInt))) F17 v16.v c15]) ?_ ?_
     · replace hF := hio42
       iterate 3 refine au ?_
       rcases Bool.eq_false_or_eq_true (!c18) with hg44 | hg44
       · rw [hg44]
         try rw [hg44] at hF; dsimp only [cond_true, cond_false] at hF
         iterate 7 refine au ?_
         refine Ai hx27 (fun k45 j46 => ?_)
         refine au ?_
         refine C_ldV (R' := (RdS 3 rdInt)) ag22.h (.tmp rfl rfl) .h lv22_0 (fun w47 => ?_)
         refine au ?_
         refine bnd hF fun r48 hx49 hF => Cx0 (s_l4Less_ok _ _ _ _ _ hx49) (fun _ => ?_)
         iterate 2 refine au ?_
         cases hF
         exact ⟨_, _, rfl, eqA, entA⟩
       rw [hg44]
       try rw [hg44] at hF; dsimp only [cond_true, cond_false] at hF
       iterate 8 refine au ?_
       cases hF
       exact ⟨_, _, rfl, eqA, entA⟩
     rintro _ _ ⟨c51, g83, rfl, rfl, hE⟩
     replace hF := hO43
     try dsimp only at hF
     refine K_ent hE ?_
     refine Ci hF (fun hb82 hF => ?_) (fun hb82 hF => ?_)
     · iterate 2 refine au ?_
       refine C_new rfl (N_buildSliceT (g := true) sl22.h ty3.h .nil (vs := []) rfl rfl rfl (by simp)) (fun k52 => ?_)
       refine Cv1 (.cons .h .nil) (own_lit (Ro := (roE rdInt)) (E := 3) (F := []) (xs := ([] : List Int)) MkL_nil rfl rfl) ?_
       refine au ?_
       refine bnd hF fun z53 hx54 hF => C_x1 (.cons .h (.rd (.t .h) rfl .nil)) (X_appendO (Ro := (roE rdInt)) sl22.h ni22 ty3.h rfl rfl rfl (.tmp rfl rfl) (.tmp rfl rfl) hx54 src_rd) (fun p55 => ?_)
       refine C_new rfl (N_buildSliceT (g := true) sl139.h ty22.h (.cons (.tmp rfl rfl) .nil) (vs := [p55.1.v]) rfl rfl rfl (by intro v hv; simp at hv; rcases hv with rfl <;> rfl)) (fun k56 => ?_)
       refine Cv1 (.cons .h (.cons .h .nil)) (own_lit (Ro := (OwnS 3 (roE rdInt))) (E := 22) (F := (p55.2 ++ [])) (xs := ([z53] : List (List Int))) (MkL_cons Mk_own MkL_nil apps) rfl rfl) ?_
       refine bnd hF fun z57 hx58 hF => C_x1 (.cons (.t (.t (.t .h))) (.cons .h .nil)) (X_appendO (Ro := (OwnS 3 (roE rdInt))) sl139.h ni139 ty22.h rfl rfl rfl (.tmp rfl rfl) (.tmp rfl rfl) hx58 src_own) (fun p59 => ?_)
       iterate 7 refine au ?_
       refine C_new rfl (N_buildSliceT (g := true) sl22.h ty3.h .nil (vs := []) rfl rfl rfl (by simp)) (fun k60 => ?_)
       refine Cv1 (.cons .h .nil) (own_lit (Ro := (roE rdInt)) (E := 3) (F := []) (xs := ([] : List Int)) MkL_nil rfl rfl) ?_
       iterate 2 refine au ?_
       refine Ai hx27 (fun k61 j62 => ?_)
       refine C_ldV (R' := (RdS 3 rdInt)) ag22.h (.tmp rfl rfl) .h lv22_0 (fun w63 => ?_)
       refine bnd hF fun z64 hx65 hF => C_x1 (.cons (.t (.t .h)) (.rd .h rfl .nil)) (X_appendO (Ro := (roE rdInt)) sl22.h ni22 ty3.h rfl rfl rfl (.tmp rfl rfl) (.tmp rfl rfl) hx65 src_rd) (fun p66 => ?_)
       refine C_new rfl (N_buildSliceT (g := true) sl139.h ty22.h (.cons (.tmp rfl rfl) .nil) (vs := [p66.1.v]) rfl rfl rfl (by intro v hv; simp at hv; rcases hv with rfl <;> rfl)) (fun k67 => ?_)
       refine Cv1 (.cons .h (.cons .h .nil)) (own_lit (Ro := (OwnS 3 (roE rdInt))) (E := 22) (F := (p66.2 ++ [])) (xs := ([z64] : List (List Int))) (MkL_cons Mk_own MkL_nil apps) rfl rfl) ?_
       refine bnd hF fun z68 hx69 hF => C_x1 (.cons (.t (.t (.t .h))) (.cons .h .nil)) (X_appendO (Ro := (OwnS 3 (roE rdInt))) sl139.h ni139 ty22.h rfl rfl rfl (.tmp rfl rfl) (.tmp rfl rfl) hx69 src_own) (fun p70 => ?_)
       iterate 2 refine au ?_
       cases hF
       exact ⟨_, _, p70.1, p70.2, _, rfl, eqA, entA⟩
     iterate 3 refine au ?_
     refine C_new rfl (N_buildSliceT (g := true) sl22.h ty3.h .nil (vs := []) rfl rfl rfl (by simp)) (fun k71 => ?_)
     refine Cv1 (.cons .h .nil) (own_lit (Ro := (roE rdInt)) (E := 3) (F := []) (xs := ([] : List Int)) MkL_nil rfl rfl) ?_
     iterate 2 refine au ?_
     refine Ai hx27 (fun k72 j73 => ?_)
     refine C_ldV (R' := (RdS 3 rdInt)) ag22.h (.tmp rfl rfl) .h lv22_0 (fun w74 => ?_)
     refine bnd hF fun z75 hx76 hF => C_x1 (.cons (.t (.t .h)) (.rd .h rfl .nil)) (X_appendO (Ro := (roE rdInt)) sl22.h ni22 ty3.h rfl rfl rfl (.tmp rfl rfl) (.tmp rfl rfl) hx76 src_rd) (fun p77 => ?_)
     refine C_new rfl (N_buildSliceT (g := true) sl139.h ty22.h (.cons (.tmp rfl rfl) .nil) (vs := [p77.1.v]) rfl rfl rfl (by intro v hv; simp at hv; rcases hv with rfl <;> rfl)) (fun k78 => ?_)
     refine Cv1 (.cons .h (.cons .h .nil)) (own_lit (Ro := (OwnS 3 (roE rdInt))) (E := 22) (F := (p77.2 ++ [])) (xs := ([z75] : List (List Int))) (MkL_cons Mk_own MkL_nil apps) rfl rfl) ?_
     refine bnd hF fun z79 hx80 hF => C_x1 (.cons (.t (.t (.t (.t (.t .h))))) (.cons .h .nil)) (X_appendO (Ro := (OwnS 3 (roE rdInt))) sl139.h ni139 ty22.h rfl rfl rfl (.tmp rfl rfl) (.tmp rfl rfl) hx80 src_own) (fun p81 => ?_)
     iterate 2 refine au ?_
     cases hF
     exact ⟨_, _, p81.1, p81.2, _, rfl, eqA, entA⟩
   rintro _ _ ⟨c84, c87, v85, F86, g89, rfl, rfl, hE⟩
   replace hF := hO41
   try dsimp only at hF
   refine K_ent hE ?_
   iterate 5 refine au ?_
   rw [wk k22]
   exact ⟨_, Nat.lt_succ_self _, _, k22 + 1, rest23, _, _, v85, F86, rfl, eqA, hd28, entA, hF⟩
 obtain ⟨hk10, hx11, hd12⟩ := drop_cons hd9
 rw [s_AddTuple_L1] at hF
 iterate 7 refine au ?_
 refine CdT ?_
 iterate 2 refine au ?_
 obtain ⟨o90, hio90, hO91⟩ := bind_some hF
 refine au ?_
 refine C_cut (fun f' cs' => ∃ (c99 : Bool) (g : Fr), c99 = o90 ∧ f' = updL g [(0, v0_0.v), (1, v1_0.v), (5, (.slice (some ⟨k1, 0, none⟩) 0 1)), (6, (.bool c99)), (7, (.int .i64 (k6 : Int)))] ∧ Ent cs' [crd (RdS 22 (RdS 3 rdInt)) v0_0.v a_l, crd (RdS 3 rdInt) v1_0.v a_t, cown (OwnS 22 (OwnS 3 (roE rdInt))) (k1 :: []) (.slice (some ⟨k1, 0, none⟩) 0 1) ([] : List (List Int))]) ?_ ?_
 · replace hF := hio90
   iterate 2 refine au ?_
   rcases Bool.eq_false_or_eq_true c2 with hg92 | hg92
   · rw [hg92]
     try rw [hg92] at hF; dsimp only [cond_true, cond_false] at hF
     iterate 9 refine au ?_
     cases hF
     exact ⟨_, _, rfl, eqA, entA⟩
   rw [hg92]
   try rw [hg92] at hF; dsimp only [cond_true, cond_false] at hF
   iterate 5 refine au ?_
   refine Ai hx11 (fun k93 j94 => ?_)
   refine au ?_
   refine C_ldV (R' := (RdS 3 rdInt)) ag22.h (.tmp rfl rfl) .h lv22_0 (fun w95 => ?_)
   iterate 3 refine au ?_
   refine bnd hF fun r96 hx97 hF => Cx0 (s_l2Ints_ok _ _ _ _ _ hx97) (fun _ => ?_)
   iterate 3 refine au ?_
   cases hF
   exact ⟨_, _, rfl, eqA, entA⟩
 rintro _ _ ⟨c99, g101, rfl, rfl, hE⟩
 replace hF := hO91
 try dsimp only at hF
 refine K_ent hE ?_
 iterate 5 refine au ?_
 rw [wk k6]
 exact ⟨_, Nat.lt_succ_self _, _, k6 + 1, rest7, _, rfl, eqA, hd12, entA, hF⟩
def s_AllRemovals_L1 (a_s : List Int) (a_l : List Method) (a_list : List Told) (r2 : (List Int) × Bool) : Nat → (List (List Int)) → Int → Option ((List (List Int)))
 | 0, _, _ => none
 | m9 + 1, c5, c8 => ((shlI .i64 1 (a_list.length : Int)).bind fun x19 =>
     bif (decide ((c8 : Int) < x19)) then (some r2.2)
     else (some false)).bind fun o17 =>
   match o17 with
   | c22 => if c22 then (
       ((s_l15Set c8 (a_list.length : Int)).bind fun r25 =>
         (bif (((r25.length : Int) : Int) == (r2.1.length : Int)) then ((s_Without a_list r25).bind fun r31 =>
             (s_IsConsistent a_s a_l r31).bind fun r34 =>
             some r34)
           else (some false)).bind fun o28 =>
         match o28 with
         | c37 => if c37 then (
             (s_AddTuple c5 r25).bind fun r38 =>
             some r38)
           else (
             some c5)).bind fun o23 =>
       match o23 with
       | c43 => s_AllRemovals_L1 a_s a_l a_list r2 m9 c43 (IntKind.i64.wrap (c8 + 1)))
     else (
       some c5)
def s_AllRemovals (fuel : Nat) (a_s : List Int) (a_l : List Method) (a_list : List Told) : Option ((List (List Int))) :=
 (s_SmallestRemoval fuel a_s a_l a_list).bind fun r2 =>
 s_AllRemovals_L1 a_s a_l a_list r2 fuel ([] : List (List Int)) 0
theorem s_AllRemovals_ok (fuel : Nat) (a_s : List Int) (v0_0 : Sv) (a_l : List Method) (v1_0 : Sv) (a_list : List Told) (v2_0 : Sv) (R : (List (List Int))) (hF : s_AllRemovals fuel a_s a_l a_list = some R) :
   Fw.Spec Tryz.prog 94 [v0_0.v, v1_0.v, v2_0.v] [crd (RdS 3 rdInt) v0_0.v a_s, crd (RdS 86 rd86) v1_0.v a_l, crd (RdS 90 rd90) v2_0.v a_list] (fun p : Sv × List Nat => p.1.v) (fun p => [cown (OwnS 22 (OwnS 3 (roE rdInt))) p.2 p.1.v R]) := by
 refine Spec_enter (n := 51) Tryz.func94 rfl rfl (rs := [.tmp 6]) rfl rfl rfl ?_
 intro H0 F0
 unfold s_AllRemovals at hF
 refine K_region (C_val (V_assign (v := (.slice none 0 0)) EV.nilSlice) ?_)
 refine C_nil (K_region (C_new rfl (N_buildSliceT (g := true) sl139.h ty22.h .nil (vs := []) rfl rfl rfl (by simp)) (fun k1 => ?_)))
 refine C_conv (.cons .h .nil) (own_lit (Ro := (OwnS 3 (roE rdInt))) (E := 22) (F := []) (xs := ([] : List (List Int))) MkL_nil rfl rfl) apps ?_
 refine Ca (.slice (some ⟨k1, 0, none⟩) 0 1) rfl rfl ?_
 refine C_nil (K_region (Cm v0_0.v rfl rfl ?_))
 refine Cm v1_0.v rfl rfl ?_
 refine Cm v2_0.v rfl rfl ?_
 obtain ⟨r2, hx3, hF⟩ := bind_some hF
 refine C_x1 (.rd (.t .h) rfl (.rd (.t (.t .h)) rfl (.rd (.t (.t (.t .h))) rfl .nil))) (X_callS cf32.h (.cons (.tmp rfl rfl) (.cons (.tmp rfl rfl) (.cons (.tmp rfl rfl) .nil))) (s_SmallestRemoval_ok fuel a_s v0_0 a_l v1_0 a_list v2_0 _ hx3)) (fun p4 => ?_)
 refine Cm (.tuple [p4.1.v, (.bool r2.2)].toArray) rfl rfl ?_
 refine C_val (V_extract (l := [p4.1.v, (.bool r2.2)]) (v := p4.1.v) (.tmp rfl rfl) rfl) ?_
 refine C_val (V_extract (l := [p4.1.v, (.bool r2.2)]) (v := (.bool r2.2)) (.tmp rfl rfl) rfl) ?_
 refine Ca p4.1.v rfl rfl ?_
 refine Ca (.bool r2.2) rfl rfl ?_
 refine C_nil (K_in (K_region (C_val (V_assign (v := (.int .i64 0)) (.int _ _)) ?_)))
 refine C_nil (CW_block (CW_loop (m := fuel) (fun m9 f' cs' => ∃ (g : Fr) (c5 : List (List Int)) (c8 : Int) (v6 : Sv) (F7 : List Nat), f' = updL g [(0, v0_0.v), (1, v1_0.v), (2, v2_0.v), (7, v6.v), (8, p4.1.v), (9, (.bool r2.2)), (10, (.int .i64 c8))] ∧ Ent cs' [crd (RdS 3 rdInt) v0_0.v a_s, crd (RdS 86 rd86) v1_0.v a_l, crd (RdS 90 rd90) v2_0.v a_list, cown (OwnS 22 (OwnS 3 (roE rdInt))) F7 v6.v c5, cown (OwnS 3 (roE rdInt)) p4.2 p4.1.v r2.1] ∧ s_AllRemovals_L1 a_s a_l a_list r2 m9 c5 c8 = some R) ⟨_, _, _, ⟨(some ⟨k1, 0, none⟩), 0, 1⟩, (k1 :: []), (EqL.cons rfl (EqL.cons rfl (EqL.cons rfl (EqL.cons rfl (EqL.cons rfl (EqL.cons rfl (EqL.cons rfl (EqL.nil)))))))).eq, (.sel (.rd (.t (.t .h)) rfl (.rd (.t (.t (.t .h))) rfl (.rd (.t (.t (.t (.t .h)))) rfl (.cons (.t .h) (.cons .h .nil)))))), hF⟩ ?_))
 clear hF
 rintro m9 _ _ ⟨g10, c5, c8, v6, F7, rfl, hE, hF⟩
 refine K_ent hE ?_
 clear hE
 rcases m9 with _ | m9
 · rw [s_AllRemovals_L1] at hF
   exact absurd hF (by simp)
 rw [s_AllRemovals_L1] at hF
 refine K_in ?_
 obtain ⟨o17, hio17, hO18⟩ := bind_some hF
 refine K_region (C_cut (fun f' cs' => ∃ (c22 : Bool) (g : Fr), c22 = o17 ∧ f' = updL g [(0, v0_0.v), (1, v1_0.v), (2, v2_0.v), (7, v6.v), (8, p4.1.v), (9, (.bool r2.2)), (10, (.int .i64 c8)), (27, (.bool c22))] ∧ Ent cs' [crd (RdS 3 rdInt) v0_0.v a_s, crd (RdS 86 rd86) v1_0.v a_l, crd (RdS 90 rd90) v2_0.v a_list, cown (OwnS 22 (OwnS 3 (roE rdInt))) F7 v6.v c5, cown (OwnS 3 (roE rdInt)) p4.2 p4.1.v r2.1]) ?_ ?_)
 · replace hF := hio17
   refine Cm (.int .i64 c8) rfl rfl ?_
   refine Cm v2_0.v rfl rfl ?_
   refine C_at (.t (.t .h)) (fun hp => V_lenR (l := a_list.length) sl31.h (.tmp rfl rfl) (crd_len hp)) ?_
   obtain ⟨x19, hx20, hF⟩ := bind_some hF
   refine C_val (V_shl (i := 1) (j := (a_list.length : Int)) (.int _ _) (.tmp rfl rfl) hx20) ?_
   refine C_val (V_lss (i := c8) (j := x19) (.tmp rfl rfl) (.tmp rfl rfl)) ?_
   refine Cm (.bool (decide ((c8 : Int) < x19))) rfl rfl ?_
   rcases Bool.eq_false_or_eq_true (decide ((c8 : Int) < x19)) with hg21 | hg21
   · rw [hg21]
     try rw [hg21] at hF; dsimp only [cond_true, cond_false] at hF
     refine C_on (t := 25) rfl rfl rfl ?_
     refine Cm (.bool r2.2) rfl rfl ?_
     refine C_val (V_pick (b := true) (u := (.bool r2.2)) (v := (.bool false)) (.tmp rfl rfl) (.tmp rfl rfl) (.bool _)) ?_
     refine C_nil ?_
     obtain rfl := Option.some.inj hF
     exact ⟨_, _, rfl, (EqL.cons rfl (EqL.cons rfl (EqL.cons rfl (EqL.cons rfl (EqL.cons rfl (EqL.cons rfl (EqL.cons rfl (EqL.cons rfl (EqL.nil))))))))).eq, (.sel (.rd .h rfl (.rd (.t .h) rfl (.rd (.t (.t .h)) rfl (.cons (.t (.t (.t .h))) (.cons (.t (.t (.t .h))) .nil))))))⟩
   rw [hg21]
   try rw [hg21] at hF; dsimp only [cond_true, cond_false] at hF
   refine C_off (t := 25) rfl rfl rfl ?_
   refine C_val (V_pick (b := false) (u := undef) (v := (.bool false)) (.tmp rfl rfl) (.tmp rfl rfl) (.bool _)) ?_
   refine C_nil ?_
   obtain rfl := Option.some.inj hF
   exact ⟨_, _, rfl, (EqL.cons rfl (EqL.cons rfl (EqL.cons rfl (EqL.cons rfl (EqL.cons rfl (EqL.cons rfl (EqL.cons rfl (EqL.cons rfl (EqL.nil))))))))).eq, (.sel (.rd .h rfl (.rd (.t .h) rfl (.rd (.t (.t .h)) rfl (.cons (.t (.t (.t .h))) (.cons (.t (.t (.t .h))) .nil))))))⟩
 rintro _ _ ⟨c22, g48, rfl, rfl, hE⟩
 replace hF := hO18
 clear hO18
 try dsimp only at hF
 refine K_ent hE ?_
 refine CW_cond (b := c22) (.tmp rfl rfl) (fun hb47 => ?_) (fun hb47 => ?_)
 · rw [if_pos hb47] at hF
   refine CW_skip ?_
   obtain ⟨o23, hio23, hO24⟩ := bind_some hF
   refine K_cut (fun f' cs' => ∃ (c43 : List (List Int)) (v44 : Sv) (F45 : List Nat) (g : Fr), c43 = o23 ∧ f' = updL g [(0, v0_0.v), (1, v1_0.v), (2, v2_0.v), (7, v44.v), (8, p4.1.v), (9, (.bool r2.2)), (10, (.int .i64 c8))] ∧ Ent cs' [crd (RdS 3 rdInt) v0_0.v a_s, crd (RdS 86 rd86) v1_0.v a_l, crd (RdS 90 rd90) v2_0.v a_list, cown (OwnS 22 (OwnS 3 (roE rdInt))) F45 v44.v c43, cown (OwnS 3 (roE rdInt)) p4.2 p4.1.v r2.1]) ?_ ?_
   · replace hF := hio23
     refine CW_block (K_region (Cm (.int .i64 c8) rfl rfl ?_))
     refine Cm v2_0.v rfl rfl ?_
     refine C_at (.t (.t .h)) (fun hp => V_lenR (l := a_list.length) sl31.h (.tmp rfl rfl) (crd_len hp)) ?_
     obtain ⟨r25, hx26, hF⟩ := bind_some hF
     refine C_x1 .nil (X_callS cf88.h (.cons (.tmp rfl rfl) (.cons (.tmp rfl rfl) .nil)) (s_l15Set_ok c8 (a_list.length : Int) _ hx26)) (fun p27 => ?_)
     refine Ca p27.1.v rfl rfl ?_
     refine C_nil ?_
     obtain ⟨o28, hio28, hO29⟩ := bind_some hF
     refine K_region (C_cut (fun f' cs' => ∃ (c37 : Bool) (g : Fr), c37 = o28 ∧ f' = updL g [(0, v0_0.v), (1, v1_0.v), (2, v2_0.v), (7, v6.v), (8, p4.1.v), (9, (.bool r2.2)), (10, (.int .i64 c8)), (11, p27.1.v), (46, (.bool c37))] ∧ Ent cs' [crd (RdS 3 rdInt) v0_0.v a_s, crd (RdS 86 rd86) v1_0.v a_l, crd (RdS 90 rd90) v2_0.v a_list, cown (OwnS 22 (OwnS 3 (roE rdInt))) F7 v6.v c5, cown (OwnS 3 (roE rdInt)) p4.2 p4.1.v r2.1, cown (OwnS 3 (roE rdInt)) p27.2 p27.1.v r25]) ?_ ?_)
     · replace hF := hio28
       refine Cm p27.1.v rfl rfl ?_
       refine C_at .h (fun hp => V_lenR (l := r25.length) sl22.h (.tmp rfl rfl) (cown_len hp)) ?_
       refine Cm p4.1.v rfl rfl ?_
       refine C_at (.t (.t (.t (.t (.t .h))))) (fun hp => V_lenR (l := r2.1.length) sl22.h (.tmp rfl rfl) (cown_len hp)) ?_
       refine C_val (V_eql (i := (r25.length : Int)) (j := (r2.1.length : Int)) (.tmp rfl rfl) (.tmp rfl rfl)) ?_
       refine Cm (.bool (((r25.length : Int) : Int) == (r2.1.length : Int))) rfl rfl ?_
       rcases Bool.eq_false_or_eq_true (((r25.length : Int) : Int) == (r2.1.length : Int)) with hg30 | hg30
       · rw [hg30]
         try rw [hg30] at hF; dsimp only [cond_true, cond_false] at hF
         refine C_on (t := 39) rfl rfl rfl ?_
         refine Cm v0_0.v rfl rfl ?_
         refine C_on (t := 39) rfl rfl rfl ?_
         refine Cm v1_0.v rfl rfl ?_
         refine C_on (t := 39) rfl rfl rfl ?_
         refine Cm v2_0.v rfl rfl ?_
         refine C_on (t := 39) rfl rfl rfl ?_
         refine Cm p27.1.v rfl rfl ?_
         refine C_on (t := 39) rfl rfl rfl ?_
         obtain ⟨r31, hx32, hF⟩ := bind_some hF
         refine C_x2 (.cons .h (.rd (.t (.t .h)) rfl .nil)) (XC_bor frz_own (fun _ => (.cons .nil)) (XC_pre (.rd (.t .h) rfl (.rd .h rfl .nil)) (X_callS cf91.h (.cons (.tmp rfl rfl) (.cons (.tmp rfl rfl) .nil)) (s_Without_ok a_list v2_0 r25 p27.1 _ hx32)))) (fun p33 => ?_)
         refine C_on (t := 39) rfl rfl rfl ?_
         obtain ⟨r34, hx35, hF⟩ := bind_some hF
         refine C_x1 (.cons (.t .h) (.rd (.t .h) rfl (.rd (.t (.t .h)) rfl .nil))) (XC_bor frz_own (fun _ => .nil) (XC_pre (.rd (.t .h) rfl (.rd (.t (.t .h)) rfl (.rd .h rfl .nil))) (X_callS cf90.h (.cons (.tmp rfl rfl) (.cons (.tmp rfl rfl) (.cons (.tmp rfl rfl) .nil))) (s_IsConsistent_ok a_s v0_0 a_l v1_0 r31 p33.1 _ hx35)))) (fun _ => ?_)
         refine C_val (V_pick (b := true) (u := (.bool r34)) (v := (.bool false)) (.tmp rfl rfl) (.tmp rfl rfl) (.bool _)) ?_
         refine C_nil ?_
         obtain rfl := Option.some.inj hF
         exact ⟨_, _, rfl, (EqL.cons rfl (EqL.cons rfl (EqL.cons rfl (EqL.cons rfl (EqL.cons rfl (EqL.cons rfl (EqL.cons rfl (EqL.cons rfl (EqL.cons rfl (EqL.nil)))))))))).eq, (.sel (.rd (.t (.t .h)) rfl (.rd (.t (.t (.t .h))) rfl (.rd (.t (.t (.t (.t .h)))) rfl (.cons (.t (.t (.t (.t (.t .h))))) (.cons (.t (.t (.t (.t (.t .h))))) (.cons (.t .h) .nil)))))))⟩
       rw [hg30]
       try rw [hg30] at hF; dsimp only [cond_true, cond_false] at hF
       iterate 6 refine C_off (t := 39) rfl rfl rfl ?_
       refine C_val (V_pick (b := false) (u := undef) (v := (.bool false)) (.tmp rfl rfl) (.tmp rfl rfl) (.bool _)) ?_
       refine C_nil ?_
       obtain rfl := Option.some.inj hF
       exact ⟨_, _, rfl, (EqL.cons rfl (EqL.cons rfl (EqL.cons rfl (EqL.cons rfl (EqL.cons rfl (EqL.cons rfl (EqL.cons rfl (EqL.cons rfl (EqL.cons rfl (EqL.nil)))))))))).eq, (.sel (.rd (.t .h) rfl (.rd (.t (.t .h)) rfl (.rd (.t (.t (.t .h))) rfl (.cons (.t (.t (.t (.t .h)))) (.cons (.t (.t (.t (.t .h)))) (.cons .h .nil)))))))⟩
     rintro _ _ ⟨c37, g42, rfl, rfl, hE⟩
     replace hF := hO29
     clear hO29
     try dsimp only at hF
     refine K_ent hE ?_
     refine CW_cond (b := c37) (.tmp rfl rfl) (fun hb41 => ?_) (fun hb41 => ?_)
     · rw [if_pos hb41] at hF
       refine CW_region (Cm v6.v rfl rfl ?_)
       refine Cm p27.1.v rfl rfl ?_
       obtain ⟨r38, hx39, hF⟩ := bind_some hF
       refine C_x3 (.cons (.t (.t (.t (.t (.t .h))))) (.cons (.t (.t (.t .h))) .nil)) (XC_borL (pre := []) (.cons frz_own (.cons frz_own .nil)) (fun _ => (.cons .nil)) (X_callS cf151.h (.cons (.tmp rfl rfl) (.cons (.tmp rfl rfl) .nil)) (s_AddTuple_ok c5 v6 r25 p27.1 _ hx39))) (fun p40 => ?_)
       refine Ca p40.1.v rfl rfl ?_
       refine C_nil ?_
       obtain rfl := Option.some.inj hF
       exact ⟨_, p40.1, p40.2, _, rfl, (EqL.cons rfl (EqL.cons rfl (EqL.cons rfl (EqL.cons rfl (EqL.cons rfl (EqL.cons rfl (EqL.cons rfl (EqL.nil)))))))).eq, (.sel (.rd (.t (.t (.t .h))) rfl (.rd (.t (.t (.t (.t .h)))) rfl (.rd (.t (.t (.t (.t (.t .h))))) rfl (.cons (.t (.t .h)) (.cons (.t (.t (.t (.t (.t .h))))) .nil))))))⟩
     rw [if_neg (by rw [hb41]; exact Bool.false_ne_true)] at hF
     refine CW_skip ?_
     obtain rfl := Option.some.inj hF
     exact ⟨_, v6, F7, _, rfl, (EqL.cons rfl (EqL.cons rfl (EqL.cons rfl (EqL.cons rfl (EqL.cons rfl (EqL.cons rfl (EqL.cons rfl (EqL.nil)))))))).eq, (.sel (.rd .h rfl (.rd (.t .h) rfl (.rd (.t (.t .h)) rfl (.cons (.t (.t (.t .h))) (.cons (.t (.t (.t .h))) .nil))))))⟩
   rintro _ _ ⟨c43, v44, F45, g46, rfl, rfl, hE⟩
   replace hF := hO24
   clear hO24
   try dsimp only at hF
   refine K_ent hE ?_
   refine CW_region (Cm (.int .i64 c8) rfl rfl ?_)
   refine C_val (V_add (i := c8) (j := 1) (.tmp rfl rfl) (.int _ _)) ?_
   refine Ca (.int .i64 (IntKind.i64.wrap (c8 + 1))) rfl rfl ?_
   refine C_nil ?_
   exact ⟨m9, Nat.lt_succ_self _, _, _, _, v44, F45, (EqL.cons rfl (EqL.cons rfl (EqL.cons rfl (EqL.cons rfl (EqL.cons rfl (EqL.cons rfl (EqL.cons rfl (EqL.nil)))))))).eq, (.sel (.rd .h rfl (.rd (.t .h) rfl (.rd (.t (.t .h)) rfl (.cons (.t (.t (.t .h))) (.cons (.t (.t (.t .h))) .nil)))))), hF⟩
 rw [if_neg (by rw [hb47]; exact Bool.false_ne_true)] at hF
 refine CW_exit ?_
 iterate 2 refine CThen_exit ?_
 refine CIn_self (K_region (Cm v6.v rfl rfl ?_))
 refine Ca v6.v rfl rfl ?_
 refine C_nil (CW_ret ?_)
 obtain rfl := Option.some.inj hF
 exact End_ret (v6, F7) (.tmp rfl rfl .nil) rfl (.sel (.cons (.t (.t (.t .h))) .nil))
def s_TrustedFacts_L4 (r238 : (List Fact)) : List Fact → Nat → (List Fact) → Option ((List Fact))
 | [], k248, c242 => some c242
 | x250 :: rest249, k248, c242 => ((s_HasFact r238 x250).bind fun r262 =>
     if r262 then (
       (app c242 ([x250] : List Fact)).bind fun z269 =>
       some z269)
     else (
       some c242)).bind fun o257 =>
   match o257 with
   | c273 => s_TrustedFacts_L4 r238 rest249 (k248 + 1) c273
def s_TrustedFacts_L1 (a_list : List Told) : List (List Int) → Nat → (List Fact) → Option ((List Fact))
 | [], k221, c216 => some c216
 | x223 :: rest222, k221, c216 => ((s_Without a_list x223).bind fun r235 =>
     (s_UnionOf r235).bind fun r238 =>
     if (((k221 : Int) : Int) == 0) then (
       some r238)
     else (
       s_TrustedFacts_L4 r238 c216 0 ([] : List Fact))).bind fun o230 =>
   match o230 with
   | c279 => s_TrustedFacts_L1 a_list rest222 (k221 + 1) c279
def s_TrustedFacts (fuel : Nat) (a_s : List Int) (a_l : List Method) (a_list : List Told) : Option ((List Fact)) :=
 (s_AllRemovals fuel a_s a_l a_list).bind fun r2 =>
 s_TrustedFacts_L1 a_list r2 0 ([] : List Fact)
theorem s_TrustedFacts_ok (fuel : Nat) (a_s : List Int) (v0_0 : Sv) (a_l : List Method) (v1_0 : Sv) (a_list : List Told) (v2_0 : Sv) (R : (List Fact)) (hF : s_TrustedFacts fuel a_s a_l a_list = some R) :
   Fw.Spec Tryz.prog 36 [v0_0.v, v1_0.v, v2_0.v] [crd (RdS 3 rdInt) v0_0.v a_s, crd (RdS 86 rd86) v1_0.v a_l, crd (RdS 90 rd90) v2_0.v a_list] (fun p : Sv => p.v) (fun p => [crd (RdS 129 rd129) p.v R]) := by
 refine Se 56 Tryz.func36 [.tmp 6] ?_
 intro H0 F0
 unfold s_TrustedFacts at hF
 iterate 4 refine au ?_
 refine C_new rfl (N_buildSliceT (g := true) sl52.h ty129.h .nil (vs := []) rfl rfl rfl (by simp)) (fun k1 => ?_)
 refine Cv1 (.cons .h .nil) (own_lit (Ro := ow129) (E := 129) (F := []) (xs := ([] : List Fact)) MkL_nil rfl rfl) ?_
 iterate 6 refine au ?_
 refine bnd hF fun r2 hx3 hF => Cx1 (s_AllRemovals_ok _ _ _ _ _ _ _ _ hx3) (fun p4 => ?_)
 iterate 6 refine au ?_
 refine CW_block (K_frz .h frz_own ?_)
 refine CW_loop (m := r2.length) (fun m219 f' cs' => ∃ (g : Fr) (k221 : Nat) (rest222 : List (List Int)) (c216 : List Fact) (v217 : Sv), m219 = rest222.length ∧ f' = updL g [(2, v2_0.v), (7, v217.v), (8, p4.1.v), (9, (.int .i64 (k221 : Int)))] ∧ List.drop k221 r2 = rest222 ∧ Ent cs' [crd (RdS 90 rd90) v2_0.v a_list, crd (RdS 129 rd129) v217.v c216, crd (RdS 22 (RdS 3 rdInt)) p4.1.v r2] ∧ s_TrustedFacts_L1 a_list rest222 k221 c216 = some R) ⟨_, 0, _, _, ⟨(some ⟨k1, 0, none⟩), 0, 1⟩, rfl, eqA, rfl, (.frz (.t .h) frz_own entA), hF⟩ ?_
 rintro m219 _ _ ⟨g220, k221, rest222, c216, v217, rfl, rfl, hd224, hE, hF⟩
 refine Kb hE r2 (fun hbd229 => ?_)
 rcases rest222 with _ | ⟨x223, rest222⟩
 · have hk225 := dn hd224
   rw [s_TrustedFacts_L1] at hF
   iterate 7 refine au ?_
   refine CdF ?_
   iterate 9 refine au ?_
   cases hF
   exact Er v217
 obtain ⟨hk225, hx226, hd227⟩ := drop_cons hd224
 rw [s_TrustedFacts_L1] at hF
 iterate 7 refine au ?_
 refine CdT ?_
 refine au ?_
 obtain ⟨o230, hio230, hO231⟩ := bind_some hF
 refine K_cut (fun f' cs' => ∃ (c279 : List Fact) (v280 : Sv) (g : Fr), c279 = o230 ∧ f' = updL g [(2, v2_0.v), (7, v280.v), (8, p4.1.v), (9, (.int .i64 (k221 : Int)))] ∧ Ent cs' [crd (RdS 90 rd90) v2_0.v a_list, crd (RdS 129 rd129) v280.v c279, crd (RdS 22 (RdS 3 rdInt)) p4.1.v r2]) ?_ ?_
 · replace hF := hio230
   refine CW_block (K_region (Cm v2_0.v rfl rfl ?_))
   iterate 2 refine au ?_
   refine Ai hx226 (fun k232 j233 => ?_)
   refine C_ldV (R' := (RdS 3 rdInt)) ag22.h (.tmp rfl rfl) .h lv22_0 (fun w234 => ?_)
   refine bnd hF fun r235 hx236 hF => Cx1 (s_Without_ok _ _ _ _ _ hx236) (fun p237 => ?_)
   refine bnd hF fun r238 hx239 hF => C_x2 (.cons .h .nil) (XC_bor frz_own (fun _ => (.cons .nil)) (X_callS cf34.h (.cons (.tmp rfl rfl) .nil) (s_UnionOf_ok r235 p237.1 _ hx239))) (fun p240 => ?_)
   iterate 7 refine au ?_
   refine Ci hF (fun hb278 hF => ?_) (fun hb278 hF => ?_)
   · iterate 7 refine au ?_
     cases hF
     exact ⟨_, p240.1, _, rfl, eqA, (.frz (.t .h) frz_own entA)⟩
   iterate 2 refine au ?_
   refine C_new rfl (N_buildSliceT (g := true) sl52.h ty129.h .nil (vs := []) rfl rfl rfl (by simp)) (fun k241 => ?_)
   refine Cv1 (.cons .h .nil) (own_lit (Ro := (roE rd129)) (E := 129) (F := []) (xs := ([] : List Fact)) MkL_nil rfl rfl) ?_
   iterate 6 refine au ?_
   refine CW_block (CW_loop (m := c216.length) (fun m246 f' cs' => ∃ (g : Fr) (k248 : Nat) (rest249 : List Fact) (c242 : List Fact) (v243 : Sv) (F244 : List Nat), m246 = rest249.length ∧ f' = updL g [(2, v2_0.v), (7, v217.v), (8, p4.1.v), (9, (.int .i64 (k221 : Int))), (10, p240.1.v), (11, v243.v), (12, (.int .i64 (k248 : Int)))] ∧ List.drop k248 c216 = rest249 ∧ Ent cs' [crd (RdS 90 rd90) v2_0.v a_list, crd (RdS 129 rd129) v217.v c216, crd (RdS 22 (RdS 3 rdInt)) p4.1.v r2, cown (OwnS 129 ow129) p240.2 p240.1.v r238, cown (OwnS 129 (roE rd129)) F244 v243.v c242] ∧ s_TrustedFacts_L4 r238 rest249 k248 c242 = some o230) ⟨_, 0, _, _, ⟨(some ⟨k241, 0, none⟩), 0, 1⟩, (k241 :: []), rfl, eqA, rfl, entA, hF⟩ ?_)
   rintro m246 _ _ ⟨g247, k248, rest249, c242, v243, F244, rfl, rfl, hd251, hE, hF⟩
   refine Kb hE c216 (fun hbd256 => ?_)
   rcases rest249 with _ | ⟨x250, rest249⟩
   · have hk252 := dn hd251
     rw [s_TrustedFacts_L4] at hF
     iterate 7 refine au ?_
     refine CdF ?_
     iterate 8 refine au ?_
     cases hF
     exact ⟨_, v243, _, rfl, eqA, (.frz (.t (.t (.t (.t .h)))) frz_own entA)⟩
   obtain ⟨hk252, hx253, hd254⟩ := drop_cons hd251
   rw [s_TrustedFacts_L4] at hF
   iterate 7 refine au ?_
   refine CdT ?_
   refine au ?_
   obtain ⟨o257, hio257, hO258⟩ := bind_some hF
   refine K_cut (fun f' cs' => ∃ (c273 : List Fact) (v274 : Sv) (F275 : List Nat) (g : Fr), c273 = o257 ∧ f' = updL g [(2, v2_0.v), (7, v217.v), (8, p4.1.v), (9, (.int .i64 (k221 : Int))), (10, p240.1.v), (11, v274.v), (12, (.int .i64 (k248 : Int)))] ∧ Ent cs' [crd (RdS 90 rd90) v2_0.v a_list, crd (RdS 129 rd129) v217.v c216, crd (RdS 22 (RdS 3 rdInt)) p4.1.v r2, cown (OwnS 129 ow129) p240.2 p240.1.v r238, cown (OwnS 129 (roE rd129)) F275 v274.v c273]) ?_ ?_
   · replace hF := hio257
     refine CW_block (K_region (Cm p240.1.v rfl rfl ?_))
     iterate 2 refine au ?_
     refine Ai hx253 (fun k259 j260 => ?_)
     refine AlA1 (ul129_0_129 x250) la129_0_129 (fun p261 => ?_)
     refine bnd hF fun r262 hx263 hF => C_x1 (.cons (.t (.t (.t (.t (.t .h))))) (.rd .h rfl .nil)) (XC_bor frz_own (fun _ => .nil) (X_callS cf95.h (.cons (.tmp rfl rfl) (.cons (.tmp rfl rfl) .nil)) (s_HasFact_ok r238 p240.1 x250 p261 _ hx263))) (fun _ => ?_)
     refine au ?_
     refine Ci hF (fun hb272 hF => ?_) (fun hb272 hF => ?_)
     · iterate 4 refine au ?_
       refine Ai hx253 (fun k265 j266 => ?_)
       refine AlA1 (ul129_0_129 x250) la129_0_129 (fun p267 => ?_)
       refine C_new rfl (N_buildSliceT (g := true) sl52.h ty129.h (.cons (.tmp rfl rfl) .nil) (vs := [(.agg [(.int .i64 x250.Rel), p267.v].toArray)]) rfl rfl rfl (by intro v hv; simp at hv; rcases hv with rfl <;> rfl)) (fun k268 => ?_)
       refine Cv1 (.cons .h (.rd .h rfl .nil)) (own_lit (Ro := (roE rd129)) (E := 129) (F := ([] ++ [])) (xs := ([x250] : List Fact)) (MkL_cons mr129 MkL_nil apps) rfl rfl) ?_
       refine bnd hF fun z269 hx270 hF => C_x1 (.cons (.t (.t (.t (.t (.t (.t (.t (.t (.t .h))))))))) (.cons .h .nil)) (X_appendO (Ro := (roE rd129)) sl52.h ni52 ty129.h rfl rfl rfl (.tmp rfl rfl) (.tmp rfl rfl) hx270 src_own) (fun p271 => ?_)
       iterate 2 refine au ?_
       cases hF
       exact ⟨_, p271.1, p271.2, _, rfl, eqA, entA⟩
     refine au ?_
     cases hF
     exact ⟨_, v243, F244, _, rfl, eqA, entA⟩
   rintro _ _ ⟨c273, v274, F275, g277, rfl, rfl, hE⟩
   replace hF := hO258
   try dsimp only at hF
   refine K_ent hE ?_
   iterate 5 refine au ?_
   rw [wk k248]
   exact ⟨_, Nat.lt_succ_self _, _, k248 + 1, rest249, _, v274, F275, rfl, eqA, hd254, entA, hF⟩
 rintro _ _ ⟨c279, v280, g282, rfl, rfl, hE⟩
 replace hF := hO231
 try dsimp only at hF
 refine K_ent hE ?_
 iterate 5 refine au ?_
 rw [wk k221]
 exact ⟨_, Nat.lt_succ_self _, _, k221 + 1, rest222, _, v280, rfl, eqA, hd227, entA, hF⟩
end Go.Proofs.YtlfebfhfgfjceaaGreatDoor
