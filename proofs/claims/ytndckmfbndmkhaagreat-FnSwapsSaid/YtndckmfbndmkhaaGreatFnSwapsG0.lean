/-
  Functions of the program as Lean functions, and that the calls return what these say: part 1. No conditions.
-/
import Derived.Test.YtndckmfbndmkhaaGreatFc
import Derived.Shelf.Sort.Plain
import Derived.Shelf.Slices.In.SortNone
import Derived.Shelf.Slices.CompactI
import Derived.Test.YtndckmfbndmkhaaGreatProg
import Derived.KernelRfl
set_option maxRecDepth 100000
set_option maxHeartbeats 1000000
set_option linter.unusedVariables false
namespace Go.Proofs.YtndckmfbndmkhaaGreat
open Go Go.Fw

instance : LaidP Tryz.prog := ⟨fun _ => True⟩
instance cf5 : ICF Tryz.prog 5 := ⟨Tryz.call5⟩
instance sl22 : ISL Tryz.prog 22 5 := ⟨by unfold SL; kernel_rfl⟩
instance cf6 : ICF Tryz.prog 6 := ⟨Tryz.call6⟩
structure Atom where
 Rel : Int
 Terms : List Int
structure Query where
 Head : List Int
 Atoms : List Atom
structure Fact where
 Rel : Int
 Values : List Int
instance ty27 : ITY Tryz.prog 27 2 48 (.agg [(.slice none 0 0), (.slice none 0 0)].toArray) := ⟨by unfold TY; kernel_rfl⟩
instance cf41 : ICF Tryz.prog 41 := ⟨Tryz.call41⟩
structure l1Cur where
 b : List UInt8
 i : Int
 h : Int
instance ty5 : ITY Tryz.prog 5 1 1 (.int .u8 0) := ⟨by unfold TY; kernel_rfl⟩
theorem ls5_0 {a : UInt8} : ∀ H e, rdU8 H e a → e.cells.toList[0]? = some (.int .u8 (a.toNat : Int)) := by
 intro H e h
 subst h
 rfl
instance ag5 : IAG Tryz.prog 5 false := ⟨by unfold AG; kernel_rfl⟩
theorem ik5 : IK Tryz.prog 5 .u8 := by unfold IK; kernel_rfl
theorem ik3 : IK Tryz.prog 3 .i64 := by unfold IK; kernel_rfl
instance ty116 : ITY Tryz.prog 116 3 40 (.agg [(.slice none 0 0), (.int .i64 0), (.int .i64 0)].toArray) := ⟨by unfold TY; kernel_rfl⟩
instance cf40 : ICF Tryz.prog 40 := ⟨Tryz.call40⟩
instance cf90 : ICF Tryz.prog 90 := ⟨Tryz.call90⟩
instance sl24 : ISL Tryz.prog 24 3 := ⟨by unfold SL; kernel_rfl⟩
instance ty3 : ITY Tryz.prog 3 1 8 (.int .i64 0) := ⟨by unfold TY; kernel_rfl⟩
instance cf75 : ICF Tryz.prog 75 := ⟨Tryz.call75⟩
instance cf134 : ICF Tryz.prog 134 := ⟨Tryz.call134⟩
instance fd116_2 : IFD Tryz.prog 116 2 2 := ⟨by unfold FD; kernel_rfl⟩
instance ag3 : IAG Tryz.prog 3 false := ⟨by unfold AG; kernel_rfl⟩
theorem mixed : Tryz.prog.follows .mixedOrders = true := by kernel_rfl
instance fd116_1 : IFD Tryz.prog 116 1 1 := ⟨by unfold FD; kernel_rfl⟩
instance fd116_0 : IFD Tryz.prog 116 0 0 := ⟨by unfold FD; kernel_rfl⟩
instance ag22 : IAG Tryz.prog 22 false := ⟨by unfold AG; kernel_rfl⟩
instance cf82 : ICF Tryz.prog 82 := ⟨Tryz.call82⟩
theorem ni24 : NotInt Tryz.prog 24 := .inr ⟨3, by kernel_rfl⟩
instance cf91 : ICF Tryz.prog 91 := ⟨Tryz.call91⟩
instance ty78 : ITY Tryz.prog 78 2 32 (.agg [(.int .i64 0), (.slice none 0 0)].toArray) := ⟨by unfold TY; kernel_rfl⟩
instance fd78_0 : IFD Tryz.prog 78 0 0 := ⟨by unfold FD; kernel_rfl⟩
theorem ls3_0 {a : Int} : ∀ H e, rdInt H e a → e.cells.toList[0]? = some (.int .i64 a) := by
 intro H e h
 subst h
 rfl
instance fd78_1 : IFD Tryz.prog 78 1 1 := ⟨by unfold FD; kernel_rfl⟩
instance ag24 : IAG Tryz.prog 24 false := ⟨by unfold AG; kernel_rfl⟩
instance ty24 : ITY Tryz.prog 24 1 24 (.slice none 0 0) := ⟨by unfold TY; kernel_rfl⟩
instance fd27_1 : IFD Tryz.prog 27 1 1 := ⟨by unfold FD; kernel_rfl⟩
instance ag25 : IAG Tryz.prog 25 false := ⟨by unfold AG; kernel_rfl⟩
instance ag78 : IAG Tryz.prog 78 true := ⟨by unfold AG; kernel_rfl⟩
instance sl25 : ISL Tryz.prog 25 78 := ⟨by unfold SL; kernel_rfl⟩
def rd78 (H : AHeap) (v : Value) (a : Atom) : Prop := ∃ v0 : Sv, v = .agg [(.int .i64 a.Rel), v0.v].toArray ∧ (RdS 3 rdInt) H v0.v a.Terms
instance : Mono rd78 := ⟨fun h hi => by
 obtain ⟨v0, h, h0⟩ := h
 exact ⟨v0, h, Mono.up h0 hi⟩⟩
instance : Cells rd78 2 := ⟨fun h => by
 obtain ⟨v0, rfl, h0⟩ := h
 exact ⟨rfl, rfl⟩⟩
def ow78 : ORel Atom := fun F H v a => ∃ (v0 : Sv) (F0 : List Nat), v = .agg [(.int .i64 a.Rel), v0.v].toArray ∧ F0 = F ∧ (OwnS 3 (roE rdInt)) F0 H v0.v a.Terms
instance : Keep ow78 := ⟨fun h hi hg => by
 obtain ⟨v0, F0, rfl, rfl, h0⟩ := h
 exact ⟨v0, F0, rfl, rfl, Keep.keep h0 hi (fun k hk => hg k (by simp [hk]))⟩⟩
instance : Local ow78 := ⟨fun h hg => by
 obtain ⟨v0, F0, rfl, rfl, h0⟩ := h
 exact ⟨v0, F0, rfl, rfl, Local.keep h0 (fun k hk => hg k (by simp [hk]))⟩⟩
instance : Owns ow78 := ⟨fun h k hk => by
 obtain ⟨v0, F0, rfl, rfl, h0⟩ := h
 exact Owns.owns h0 k hk
⟩
instance : OCells ow78 2 := ⟨fun h => by
 obtain ⟨v0, F0, rfl, rfl, h0⟩ := h
 exact ⟨rfl, rfl⟩⟩
instance : Frz ow78 rd78 := ⟨fun h hg => by
 obtain ⟨v0, F0, rfl, rfl, h0⟩ := h
 exact ⟨v0, rfl, Frz.frz h0 (fun k hk => hg k (by simp [hk]))⟩⟩
theorem mk78 {a : Atom} {v0 : Sv} {F0 : List Nat} : Mk ow78 F0 (.agg [(.int .i64 a.Rel), v0.v].toArray) a [cown (OwnS 3 (roE rdInt)) F0 v0.v a.Terms] :=
 ⟨fun H h => ⟨v0, F0, rfl, rfl, h (cown (OwnS 3 (roE rdInt)) F0 v0.v a.Terms) (by simp)⟩, by simp [cown]⟩
theorem ni25 : NotInt Tryz.prog 25 := .inr ⟨78, by kernel_rfl⟩
instance ty25 : ITY Tryz.prog 25 1 24 (.slice none 0 0) := ⟨by unfold TY; kernel_rfl⟩
instance ag27 : IAG Tryz.prog 27 true := ⟨by unfold AG; kernel_rfl⟩
instance cf53 : ICF Tryz.prog 53 := ⟨Tryz.call53⟩
theorem lv78_1 {a : Atom} : ∀ H e, rd78 H e a → ∃ w : Sv, e.cells.toList[1]? = some w.v ∧ (RdS 3 rdInt) H w.v a.Terms := by
 intro H e h
 obtain ⟨v0, rfl, h0⟩ := h
 exact ⟨v0, rfl, h0⟩
instance cf106 : ICF Tryz.prog 106 := ⟨Tryz.call106⟩
instance cf51 : ICF Tryz.prog 51 := ⟨Tryz.call51⟩
instance cf89 : ICF Tryz.prog 89 := ⟨Tryz.call89⟩
instance cf54 : ICF Tryz.prog 54 := ⟨Tryz.call54⟩
theorem lo3_0 {a : Int} : ∀ F H e, (roE rdInt) F H e a → e.cells.toList[0]? = some (.int .i64 a) := by
 intro F H e h
 obtain ⟨-, h⟩ := h
 subst h
 rfl
instance fd27_0 : IFD Tryz.prog 27 0 0 := ⟨by unfold FD; kernel_rfl⟩
instance cf92 : ICF Tryz.prog 92 := ⟨Tryz.call92⟩
instance sl28 : ISL Tryz.prog 28 58 := ⟨by unfold SL; kernel_rfl⟩
instance ty58 : ITY Tryz.prog 58 2 32 (.agg [(.int .i64 0), (.slice none 0 0)].toArray) := ⟨by unfold TY; kernel_rfl⟩
def rd58 (H : AHeap) (v : Value) (a : Fact) : Prop := ∃ v0 : Sv, v = .agg [(.int .i64 a.Rel), v0.v].toArray ∧ (RdS 3 rdInt) H v0.v a.Values
instance : Mono rd58 := ⟨fun h hi => by
 obtain ⟨v0, h, h0⟩ := h
 exact ⟨v0, h, Mono.up h0 hi⟩⟩
instance : Cells rd58 2 := ⟨fun h => by
 obtain ⟨v0, rfl, h0⟩ := h
 exact ⟨rfl, rfl⟩⟩
def ow58 : ORel Fact := fun F H v a => ∃ (v0 : Sv) (F0 : List Nat), v = .agg [(.int .i64 a.Rel), v0.v].toArray ∧ F0 = F ∧ (OwnS 3 (roE rdInt)) F0 H v0.v a.Values
instance : Keep ow58 := ⟨fun h hi hg => by
 obtain ⟨v0, F0, rfl, rfl, h0⟩ := h
 exact ⟨v0, F0, rfl, rfl, Keep.keep h0 hi (fun k hk => hg k (by simp [hk]))⟩⟩
instance : Local ow58 := ⟨fun h hg => by
 obtain ⟨v0, F0, rfl, rfl, h0⟩ := h
 exact ⟨v0, F0, rfl, rfl, Local.keep h0 (fun k hk => hg k (by simp [hk]))⟩⟩
instance : Owns ow58 := ⟨fun h k hk => by
 obtain ⟨v0, F0, rfl, rfl, h0⟩ := h
 exact Owns.owns h0 k hk
⟩
instance : OCells ow58 2 := ⟨fun h => by
 obtain ⟨v0, F0, rfl, rfl, h0⟩ := h
 exact ⟨rfl, rfl⟩⟩
instance : Frz ow58 rd58 := ⟨fun h hg => by
 obtain ⟨v0, F0, rfl, rfl, h0⟩ := h
 exact ⟨v0, rfl, Frz.frz h0 (fun k hk => hg k (by simp [hk]))⟩⟩
instance cf145 : ICF Tryz.prog 145 := ⟨Tryz.call145⟩
instance fd58_0 : IFD Tryz.prog 58 0 0 := ⟨by unfold FD; kernel_rfl⟩
instance fd58_1 : IFD Tryz.prog 58 1 1 := ⟨by unfold FD; kernel_rfl⟩
instance ag58 : IAG Tryz.prog 58 true := ⟨by unfold AG; kernel_rfl⟩
instance cf48 : ICF Tryz.prog 48 := ⟨Tryz.call48⟩
instance cf29 : ICF Tryz.prog 29 := ⟨Tryz.call29⟩
def ul58_0_58 (a : Fact) (p : Sv) : List Value := [(.int .i64 a.Rel), p.v]
theorem la58_0_58 {a : Fact} : ∀ H e, rd58 H e a → ∃ i : Sv, 0 + 2 ≤ e.cells.size ∧ (e.cells.toList.drop 0).take 2 = ul58_0_58 a i ∧ ∀ c ∈ ([crd (RdS 3 rdInt) i.v a.Values] : List Comp), c.P H ∧ c.F = [] := by
 intro H e h
 obtain ⟨v0, rfl, h0⟩ := h
 refine ⟨v0, Nat.le_of_ble_eq_true rfl, rfl, fun c hc => by
   simp only [List.mem_cons, List.not_mem_nil, or_false] at hc
   rcases hc with rfl
   · exact ⟨h0, rfl⟩
⟩
instance cf46 : ICF Tryz.prog 46 := ⟨Tryz.call46⟩
instance cf103 : ICF Tryz.prog 103 := ⟨Tryz.call103⟩
theorem mk58 {a : Fact} {v0 : Sv} {F0 : List Nat} : Mk ow58 F0 (.agg [(.int .i64 a.Rel), v0.v].toArray) a [cown (OwnS 3 (roE rdInt)) F0 v0.v a.Values] :=
 ⟨fun H h => ⟨v0, F0, rfl, rfl, h (cown (OwnS 3 (roE rdInt)) F0 v0.v a.Values) (by simp)⟩, by simp [cown]⟩
theorem ni28 : NotInt Tryz.prog 28 := .inr ⟨58, by kernel_rfl⟩
theorem ls58_0 {a : Fact} : ∀ H e, rd58 H e a → e.cells.toList[0]? = some (.int .i64 a.Rel) := by
 intro H e h
 obtain ⟨_, rfl, _⟩ := h
 rfl
theorem lv58_1 {a : Fact} : ∀ H e, rd58 H e a → ∃ w : Sv, e.cells.toList[1]? = some w.v ∧ (RdS 3 rdInt) H w.v a.Values := by
 intro H e h
 obtain ⟨v0, rfl, h0⟩ := h
 exact ⟨v0, rfl, h0⟩
instance cf93 : ICF Tryz.prog 93 := ⟨Tryz.call93⟩
instance cf55 : ICF Tryz.prog 55 := ⟨Tryz.call55⟩
instance cf76 : ICF Tryz.prog 76 := ⟨Tryz.call76⟩
theorem un78 {a : Atom} : Un ow78 a (fun p : Sv × List Nat => .agg [(.int .i64 a.Rel), p.1.v].toArray) (fun p => [cown (OwnS 3 (roE rdInt)) p.2 p.1.v a.Terms]) := ⟨fun F H e h => by
 obtain ⟨v0, F0, rfl, rfl, h0⟩ := h
 refine ⟨(v0, F0), rfl, fun c hc => ?_, by simp [foot, cown]⟩
 simp only [List.mem_cons, List.not_mem_nil, or_false] at hc
 rcases hc with rfl
 · exact h0⟩
theorem sf78_0 {a : Atom} {d : Int} : ∀ F H e, ow78 F H e a → ow78 F H (setPart e 0 (Value.cells (.int .i64 d)).toList) { a with Rel := d } := by
 intro F H e h
 obtain ⟨v0, F0, rfl, rfl, h0⟩ := h
 exact ⟨v0, F0, rfl, rfl, h0⟩
theorem fsf78_0 {a : Atom} : ∀ F H e, ow78 F H e a → 0 + 1 ≤ e.cells.size := by
 intro F H e h
 obtain ⟨v0, F0, rfl, rfl, h0⟩ := h
 exact Nat.le_of_ble_eq_true rfl
instance cf94 : ICF Tryz.prog 94 := ⟨Tryz.call94⟩
instance cf146 : ICF Tryz.prog 146 := ⟨Tryz.call146⟩
instance cf95 : ICF Tryz.prog 95 := ⟨Tryz.call95⟩
instance cf7 : ICF Tryz.prog 7 := ⟨Tryz.call7⟩
instance cf8 : ICF Tryz.prog 8 := ⟨Tryz.call8⟩
instance cf43 : ICF Tryz.prog 43 := ⟨Tryz.call43⟩
instance cf101 : ICF Tryz.prog 101 := ⟨Tryz.call101⟩
instance cf42 : ICF Tryz.prog 42 := ⟨Tryz.call42⟩
instance cf71 : ICF Tryz.prog 71 := ⟨Tryz.call71⟩
instance cf128 : ICF Tryz.prog 128 := ⟨Tryz.call128⟩
instance cf96 : ICF Tryz.prog 96 := ⟨Tryz.call96⟩
instance cf129 : ICF Tryz.prog 129 := ⟨Tryz.call129⟩
instance cf98 : ICF Tryz.prog 98 := ⟨Tryz.call98⟩
instance cf148 : ICF Tryz.prog 148 := ⟨Tryz.call148⟩
instance cf180 : ICF Tryz.prog 180 := ⟨Tryz.call180⟩
instance cf149 : ICF Tryz.prog 149 := ⟨Tryz.call149⟩
instance cf147 : ICF Tryz.prog 147 := ⟨Tryz.call147⟩
instance cf97 : ICF Tryz.prog 97 := ⟨Tryz.call97⟩
instance cf100 : ICF Tryz.prog 100 := ⟨Tryz.call100⟩
instance cf99 : ICF Tryz.prog 99 := ⟨Tryz.call99⟩
theorem hov150 : ∀ args w, (callFunc 150 args).run Tryz.prog w = ((Extern.SlicesOverlaps.overlaps #[28, 28] #[4] args).run Tryz.prog w).andThen fun v w' => .ok (.value v) w' := fun args w => run_callFunc_extern Tryz.func150 (by kernel_rfl) (by kernel_rfl) (by kernel_rfl) (e := Extern.SlicesOverlaps.overlaps #[28, 28] #[4]) (by kernel_rfl) args w
instance cf9 : ICF Tryz.prog 9 := ⟨Tryz.call9⟩
instance cf44 : ICF Tryz.prog 44 := ⟨Tryz.call44⟩
instance cf102 : ICF Tryz.prog 102 := ⟨Tryz.call102⟩
def ul78_0_78 (a : Atom) (p : Sv) : List Value := [(.int .i64 a.Rel), p.v]
theorem la78_0_78 {a : Atom} : ∀ H e, rd78 H e a → ∃ i : Sv, 0 + 2 ≤ e.cells.size ∧ (e.cells.toList.drop 0).take 2 = ul78_0_78 a i ∧ ∀ c ∈ ([crd (RdS 3 rdInt) i.v a.Terms] : List Comp), c.P H ∧ c.F = [] := by
 intro H e h
 obtain ⟨v0, rfl, h0⟩ := h
 refine ⟨v0, Nat.le_of_ble_eq_true rfl, rfl, fun c hc => by
   simp only [List.mem_cons, List.not_mem_nil, or_false] at hc
   rcases hc with rfl
   · exact ⟨h0, rfl⟩
⟩
instance cf152 : ICF Tryz.prog 152 := ⟨Tryz.call152⟩
instance cf45 : ICF Tryz.prog 45 := ⟨Tryz.call45⟩
instance cf78 : ICF Tryz.prog 78 := ⟨Tryz.call78⟩
theorem sfr78_1 {a : Atom} {d : List Int} {w : Sv} : ∀ F H e, (RdS 3 rdInt) H w.v d → (roE rd78) F H e a → (roE rd78) F H (setPart e 1 (Value.cells w.v).toList) { a with Terms := d } := by
 intro F H e hw h
 obtain ⟨rfl, v0, rfl, h0⟩ := h
 exact ⟨rfl, w, rfl, hw⟩
theorem fsfr78_1 {a : Atom} : ∀ F H e, (roE rd78) F H e a → 1 + 1 ≤ e.cells.size := by
 intro F H e h
 obtain ⟨rfl, v0, rfl, h0⟩ := h
 exact Nat.le_of_ble_eq_true rfl
instance cf11 : ICF Tryz.prog 11 := ⟨Tryz.call11⟩
instance cf47 : ICF Tryz.prog 47 := ⟨Tryz.call47⟩
instance cf10 : ICF Tryz.prog 10 := ⟨Tryz.call10⟩
instance cf13 : ICF Tryz.prog 13 := ⟨Tryz.call13⟩
instance cf50 : ICF Tryz.prog 50 := ⟨Tryz.call50⟩
theorem ls78_0 {a : Atom} : ∀ H e, rd78 H e a → e.cells.toList[0]? = some (.int .i64 a.Rel) := by
 intro H e h
 obtain ⟨_, rfl, _⟩ := h
 rfl
instance cf104 : ICF Tryz.prog 104 := ⟨Tryz.call104⟩
instance cf12 : ICF Tryz.prog 12 := ⟨Tryz.call12⟩
instance cf49 : ICF Tryz.prog 49 := ⟨Tryz.call49⟩
instance cf14 : ICF Tryz.prog 14 := ⟨Tryz.call14⟩
instance cf52 : ICF Tryz.prog 52 := ⟨Tryz.call52⟩
instance cf105 : ICF Tryz.prog 105 := ⟨Tryz.call105⟩
instance cf15 : ICF Tryz.prog 15 := ⟨Tryz.call15⟩
instance cf56 : ICF Tryz.prog 56 := ⟨Tryz.call56⟩
instance cf16 : ICF Tryz.prog 16 := ⟨Tryz.call16⟩
instance sl38 : ISL Tryz.prog 38 24 := ⟨by unfold SL; kernel_rfl⟩
instance cf58 : ICF Tryz.prog 58 := ⟨Tryz.call58⟩
structure Binding where
 Vars : List Int
 Values : List Int
instance ty127 : ITY Tryz.prog 127 2 48 (.agg [(.slice none 0 0), (.slice none 0 0)].toArray) := ⟨by unfold TY; kernel_rfl⟩
instance sl89 : ISL Tryz.prog 89 127 := ⟨by unfold SL; kernel_rfl⟩
def rd127 (H : AHeap) (v : Value) (a : Binding) : Prop := ∃ v0 v1 : Sv, v = .agg [v0.v, v1.v].toArray ∧ (RdS 3 rdInt) H v0.v a.Vars ∧ (RdS 3 rdInt) H v1.v a.Values
instance : Mono rd127 := ⟨fun h hi => by
 obtain ⟨v0, v1, h, h0, h1⟩ := h
 exact ⟨v0, v1, h, Mono.up h0 hi, Mono.up h1 hi⟩⟩
instance : Cells rd127 2 := ⟨fun h => by
 obtain ⟨v0, v1, rfl, h0, h1⟩ := h
 exact ⟨rfl, rfl⟩⟩
def ow127 : ORel Binding := fun F H v a => ∃ (v0 v1 : Sv) (F0 F1 : List Nat), v = .agg [v0.v, v1.v].toArray ∧ F = (F0 ++ F1) ∧ (OwnS 3 (roE rdInt)) F0 H v0.v a.Vars ∧ (OwnS 3 (roE rdInt)) F1 H v1.v a.Values
instance : Keep ow127 := ⟨fun h hi hg => by
 obtain ⟨v0, v1, F0, F1, rfl, rfl, h0, h1⟩ := h
 exact ⟨v0, v1, F0, F1, rfl, rfl, Keep.keep h0 hi (fun k hk => hg k (by simp [hk])), Keep.keep h1 hi (fun k hk => hg k (by simp [hk]))⟩⟩
instance : Local ow127 := ⟨fun h hg => by
 obtain ⟨v0, v1, F0, F1, rfl, rfl, h0, h1⟩ := h
 exact ⟨v0, v1, F0, F1, rfl, rfl, Local.keep h0 (fun k hk => hg k (by simp [hk])), Local.keep h1 (fun k hk => hg k (by simp [hk]))⟩⟩
instance : Owns ow127 := ⟨fun h k hk => by
 obtain ⟨v0, v1, F0, F1, rfl, rfl, h0, h1⟩ := h
 simp only [List.mem_append] at hk
 rcases hk with hk | hk
 · exact Owns.owns h0 k hk
 · exact Owns.owns h1 k hk
⟩
instance : OCells ow127 2 := ⟨fun h => by
 obtain ⟨v0, v1, F0, F1, rfl, rfl, h0, h1⟩ := h
 exact ⟨rfl, rfl⟩⟩
instance : Frz ow127 rd127 := ⟨fun h hg => by
 obtain ⟨v0, v1, F0, F1, rfl, rfl, h0, h1⟩ := h
 exact ⟨v0, v1, rfl, Frz.frz h0 (fun k hk => hg k (by simp [hk])), Frz.frz h1 (fun k hk => hg k (by simp [hk]))⟩⟩
theorem mk127 {a : Binding} {v0 v1 : Sv} {F0 F1 : List Nat} : Mk ow127 (F0 ++ F1) (.agg [v0.v, v1.v].toArray) a [cown (OwnS 3 (roE rdInt)) F0 v0.v a.Vars, cown (OwnS 3 (roE rdInt)) F1 v1.v a.Values] :=
 ⟨fun H h => ⟨v0, v1, F0, F1, rfl, rfl, h (cown (OwnS 3 (roE rdInt)) F0 v0.v a.Vars) (by simp), h (cown (OwnS 3 (roE rdInt)) F1 v1.v a.Values) (by simp)⟩, by simp [cown]⟩
instance cf109 : ICF Tryz.prog 109 := ⟨Tryz.call109⟩
def ul127_0_127 (a : Binding) (p : Sv × Sv) : List Value := [p.1.v, p.2.v]
theorem la127_0_127 {a : Binding} : ∀ H e, rd127 H e a → ∃ i : Sv × Sv, 0 + 2 ≤ e.cells.size ∧ (e.cells.toList.drop 0).take 2 = ul127_0_127 a i ∧ ∀ c ∈ ([crd (RdS 3 rdInt) i.1.v a.Vars, crd (RdS 3 rdInt) i.2.v a.Values] : List Comp), c.P H ∧ c.F = [] := by
 intro H e h
 obtain ⟨v0, v1, rfl, h0, h1⟩ := h
 refine ⟨(v0, v1), Nat.le_of_ble_eq_true rfl, rfl, fun c hc => by
   simp only [List.mem_cons, List.not_mem_nil, or_false] at hc
   rcases hc with rfl | rfl
   · exact ⟨h0, rfl⟩
   · exact ⟨h1, rfl⟩
⟩
instance ag127 : IAG Tryz.prog 127 true := ⟨by unfold AG; kernel_rfl⟩
instance cf154 : ICF Tryz.prog 154 := ⟨Tryz.call154⟩
instance cf182 : ICF Tryz.prog 182 := ⟨Tryz.call182⟩
instance fd127_0 : IFD Tryz.prog 127 0 0 := ⟨by unfold FD; kernel_rfl⟩
instance fd127_1 : IFD Tryz.prog 127 1 1 := ⟨by unfold FD; kernel_rfl⟩
instance cf107 : ICF Tryz.prog 107 := ⟨Tryz.call107⟩
instance cf183 : ICF Tryz.prog 183 := ⟨Tryz.call183⟩
instance cf184 : ICF Tryz.prog 184 := ⟨Tryz.call184⟩
theorem ni89 : NotInt Tryz.prog 89 := .inr ⟨127, by kernel_rfl⟩
instance cf57 : ICF Tryz.prog 57 := ⟨Tryz.call57⟩
instance cf108 : ICF Tryz.prog 108 := ⟨Tryz.call108⟩
theorem ni38 : NotInt Tryz.prog 38 := .inr ⟨24, by kernel_rfl⟩
theorem lv24_0 {a : List Int} : ∀ H e, (RdS 3 rdInt) H e a → ∃ w : Sv, e.cells.toList[0]? = some w.v ∧ (RdS 3 rdInt) H w.v a := by
 intro H e h
 obtain ⟨a0, m, rfl⟩ := RdS.len h
 exact ⟨⟨a0, _, m⟩, rfl, h⟩
instance cf153 : ICF Tryz.prog 153 := ⟨Tryz.call153⟩
instance cf17 : ICF Tryz.prog 17 := ⟨Tryz.call17⟩
instance cf59 : ICF Tryz.prog 59 := ⟨Tryz.call59⟩
instance cf110 : ICF Tryz.prog 110 := ⟨Tryz.call110⟩
instance cf155 : ICF Tryz.prog 155 := ⟨Tryz.call155⟩
instance cf185 : ICF Tryz.prog 185 := ⟨Tryz.call185⟩
instance cf156 : ICF Tryz.prog 156 := ⟨Tryz.call156⟩
instance cf111 : ICF Tryz.prog 111 := ⟨Tryz.call111⟩
instance cf157 : ICF Tryz.prog 157 := ⟨Tryz.call157⟩
instance cf112 : ICF Tryz.prog 112 := ⟨Tryz.call112⟩
instance cf113 : ICF Tryz.prog 113 := ⟨Tryz.call113⟩
instance cf158 : ICF Tryz.prog 158 := ⟨Tryz.call158⟩
instance cf159 : ICF Tryz.prog 159 := ⟨Tryz.call159⟩
instance cf186 : ICF Tryz.prog 186 := ⟨Tryz.call186⟩
instance cf187 : ICF Tryz.prog 187 := ⟨Tryz.call187⟩
instance cf189 : ICF Tryz.prog 189 := ⟨Tryz.call189⟩
instance cf114 : ICF Tryz.prog 114 := ⟨Tryz.call114⟩
instance cf160 : ICF Tryz.prog 160 := ⟨Tryz.call160⟩
instance cf188 : ICF Tryz.prog 188 := ⟨Tryz.call188⟩
instance cf143 : ICF Tryz.prog 143 := ⟨Tryz.call143⟩
def lays189_ren : Go.Shelf.Ren := ⟨fun | 189 => 143 | 125 => 179 | 257 => 178 | 128 => 210 | 129 => 211 | 294 => 201 | 295 => 202 | 296 => 203 | 297 => 204 | 298 => 205 | 299 => 206 | 216 => 207 | 300 => 208 | 301 => 209 | 328 => 219 | 329 => 220 | 330 => 221 | 331 => 222 | 332 => 223 | 215 => 180 | 343 => 225 | n => n, fun | 28 => 24 | 3 => 3 | 46 => 170 | 0 => 0 | 51 => 195 | 53 => 197 | 4 => 4 | 183 => 187 | 182 => 186 | 131 => 192 | 5 => 5 | 9 => 9 | 218 => 202 | 222 => 206 | 228 => 208 | 229 => 209 | n => n, fun | n => n⟩
theorem lays189 : Go.Proofs.Lays.n189 Tryz.prog lays189_ren := {
 mixed := by kernel_rfl
 f125 := Tryz.func179.trans (congrArg some (by kernel_rfl))
 f128 := Tryz.func210.trans (congrArg some (by kernel_rfl))
 f129 := Tryz.func211.trans (congrArg some (by kernel_rfl))
 f189 := Tryz.func143.trans (congrArg some (by kernel_rfl))
 f215 := Tryz.func180.trans (congrArg some (by kernel_rfl))
 f216 := Tryz.func207.trans (congrArg some (by kernel_rfl))
 f257 := Tryz.func178.trans (congrArg some (by kernel_rfl))
 f294 := Tryz.func201.trans (congrArg some (by kernel_rfl))
 f295 := Tryz.func202.trans (congrArg some (by kernel_rfl))
 f296 := Tryz.func203.trans (congrArg some (by kernel_rfl))
 f297 := Tryz.func204.trans (congrArg some (by kernel_rfl))
 f298 := Tryz.func205.trans (congrArg some (by kernel_rfl))
 f299 := Tryz.func206.trans (congrArg some (by kernel_rfl))
 f300 := Tryz.func208.trans (congrArg some (by kernel_rfl))
 f301 := Tryz.func209.trans (congrArg some (by kernel_rfl))
 f328 := Tryz.func219.trans (congrArg some (by kernel_rfl))
 f329 := Tryz.func220.trans (congrArg some (by kernel_rfl))
 f330 := Tryz.func221.trans (congrArg some (by kernel_rfl))
 f331 := Tryz.func222.trans (congrArg some (by kernel_rfl))
 f332 := Tryz.func223.trans (congrArg some (by kernel_rfl))
 f343 := Tryz.func225.trans (congrArg some (by kernel_rfl))
 t0 := Tryz.underlying0
 a0 := Tryz.isAgg0
 z0 := Tryz.sizeOf0
 v0 := Tryz.zeroValue0
 t3 := Tryz.underlying3
 a3 := Tryz.isAgg3
 z3 := Tryz.sizeOf3
 v3 := Tryz.zeroValue3
 t4 := Tryz.underlying4
 a4 := Tryz.isAgg4
 z4 := Tryz.sizeOf4
 v4 := Tryz.zeroValue4
 t5 := Tryz.underlying5
 a5 := Tryz.isAgg5
 z5 := Tryz.sizeOf5
 v5 := Tryz.zeroValue5
 t9 := Tryz.underlying9
 a9 := Tryz.isAgg9
 z9 := Tryz.sizeOf9
 v9 := Tryz.zeroValue9
 t28 := Tryz.underlying24
 a28 := Tryz.isAgg24
 z28 := Tryz.sizeOf24
 v28 := Tryz.zeroValue24
 t46 := Tryz.underlying170
 a46 := Tryz.isAgg170
 z46 := Tryz.sizeOf170
 v46 := Tryz.zeroValue170
 t51 := Tryz.underlying195
 a51 := Tryz.isAgg195
 z51 := Tryz.sizeOf195
 v51 := Tryz.zeroValue195
 t53 := Tryz.underlying197
 a53 := Tryz.isAgg197
 z53 := Tryz.sizeOf197
 v53 := Tryz.zeroValue197
 t131 := Tryz.underlying192
 a131 := Tryz.isAgg192
 z131 := Tryz.sizeOf192
 v131 := Tryz.zeroValue192
 t182 := Tryz.underlying186
 a182 := Tryz.isAgg186
 z182 := Tryz.sizeOf186
 v182 := Tryz.zeroValue186
 t183 := Tryz.underlying187
 a183 := Tryz.isAgg187
 z183 := Tryz.sizeOf187
 v183 := Tryz.zeroValue187
 t218 := Tryz.underlying202
 a218 := Tryz.isAgg202
 z218 := Tryz.sizeOf202
 v218 := Tryz.zeroValue202
 t222 := Tryz.underlying206
 a222 := Tryz.isAgg206
 z222 := Tryz.sizeOf206
 v222 := Tryz.zeroValue206
 t228 := Tryz.underlying208
 a228 := Tryz.isAgg208
 z228 := Tryz.sizeOf208
 v228 := Tryz.zeroValue208
 t229 := Tryz.underlying209
 a229 := Tryz.isAgg209
 z229 := Tryz.sizeOf209
 v229 := Tryz.zeroValue209 }
instance cf144 : ICF Tryz.prog 144 := ⟨Tryz.call144⟩
def lays2020_ren : Go.Shelf.Ren := ⟨fun | 20 => 144 | n => n, fun | 22 => 24 | 3 => 3 | 4 => 4 | 0 => 0 | n => n, fun | n => n⟩
theorem lays2020 : Go.Proofs.Lays2.n20 Tryz.prog lays2020_ren := {
 mixed := by kernel_rfl
 f20 := Tryz.func144.trans (congrArg some (by kernel_rfl))
 t0 := Tryz.underlying0
 a0 := Tryz.isAgg0
 z0 := Tryz.sizeOf0
 v0 := Tryz.zeroValue0
 t3 := Tryz.underlying3
 a3 := Tryz.isAgg3
 z3 := Tryz.sizeOf3
 v3 := Tryz.zeroValue3
 t4 := Tryz.underlying4
 a4 := Tryz.isAgg4
 z4 := Tryz.sizeOf4
 v4 := Tryz.zeroValue4
 t22 := Tryz.underlying24
 a22 := Tryz.isAgg24
 z22 := Tryz.sizeOf24
 v22 := Tryz.zeroValue24
 i3 := by kernel_rfl }
instance cf161 : ICF Tryz.prog 161 := ⟨Tryz.call161⟩
instance cf162 : ICF Tryz.prog 162 := ⟨Tryz.call162⟩
instance cf190 : ICF Tryz.prog 190 := ⟨Tryz.call190⟩
instance cf60 : ICF Tryz.prog 60 := ⟨Tryz.call60⟩
instance cf115 : ICF Tryz.prog 115 := ⟨Tryz.call115⟩
instance cf124 : ICF Tryz.prog 124 := ⟨Tryz.call124⟩
instance cf170 : ICF Tryz.prog 170 := ⟨Tryz.call170⟩
instance cf61 : ICF Tryz.prog 61 := ⟨Tryz.call61⟩
instance cf117 : ICF Tryz.prog 117 := ⟨Tryz.call117⟩
instance cf165 : ICF Tryz.prog 165 := ⟨Tryz.call165⟩
instance cf196 : ICF Tryz.prog 196 := ⟨Tryz.call196⟩
instance cf218 : ICF Tryz.prog 218 := ⟨Tryz.call218⟩
instance cf217 : ICF Tryz.prog 217 := ⟨Tryz.call217⟩
instance cf195 : ICF Tryz.prog 195 := ⟨Tryz.call195⟩
instance cf116 : ICF Tryz.prog 116 := ⟨Tryz.call116⟩
instance cf164 : ICF Tryz.prog 164 := ⟨Tryz.call164⟩
instance cf163 : ICF Tryz.prog 163 := ⟨Tryz.call163⟩
instance cf191 : ICF Tryz.prog 191 := ⟨Tryz.call191⟩
instance cf213 : ICF Tryz.prog 213 := ⟨Tryz.call213⟩
instance cf192 : ICF Tryz.prog 192 := ⟨Tryz.call192⟩
instance cf214 : ICF Tryz.prog 214 := ⟨Tryz.call214⟩
instance cf86 : ICF Tryz.prog 86 := ⟨Tryz.call86⟩
instance cf193 : ICF Tryz.prog 193 := ⟨Tryz.call193⟩
instance cf194 : ICF Tryz.prog 194 := ⟨Tryz.call194⟩
theorem hov215 : ∀ args w, (callFunc 215 args).run Tryz.prog w = ((Extern.SlicesOverlaps.overlaps #[38, 38] #[4] args).run Tryz.prog w).andThen fun v w' => .ok (.value v) w' := fun args w => run_callFunc_extern Tryz.func215 (by kernel_rfl) (by kernel_rfl) (by kernel_rfl) (e := Extern.SlicesOverlaps.overlaps #[38, 38] #[4]) (by kernel_rfl) args w
instance cf18 : ICF Tryz.prog 18 := ⟨Tryz.call18⟩
instance cf62 : ICF Tryz.prog 62 := ⟨Tryz.call62⟩
def l_big (a_code : List UInt8) : Option (Bool) :=
 some (decide ((1048576 : Int) < (a_code.length : Int)))
theorem l_big_ok (a_code : List UInt8) (v0_0 : Sv) (R : Bool) (hF : l_big a_code = some R) :
   Fw.Spec Tryz.prog 5 [v0_0.v] [crd (RdS 5 rdU8) v0_0.v a_code] (fun _ : Unit => (.bool R)) (fun _ => []) := by
 refine Se 6 Tryz.func5 [.tmp 2] ?_
 intro H0 F0
 unfold l_big at hF
 iterate 10 refine au ?_
 cases hF
 exact Er ()
def s_l1New_L1 (a_code : List UInt8) : Nat → Int → Int → Option (l1Cur)
 | 0, _, _ => none
 | m3 + 1, c1, c2 => if ((decide ((c2 : Int) < (a_code.length : Int))) && (decide ((c2 : Int) < 4000))) then (
     (ix a_code c2).bind fun x13 =>
     s_l1New_L1 a_code m3 (andI .i64 (IntKind.i64.wrap ((IntKind.i64.wrap ((IntKind.i64.wrap (c1 * 131)) + (x13.toNat : Int))) + 7)) 1073741823) (IntKind.i64.wrap (c2 + 1)))
   else (
     some ({ b := a_code, i := 0, h := c1 } : l1Cur))
def s_l1New (a_code : List UInt8) : Option (l1Cur) :=
 s_l1New_L1 a_code (((a_code.length : Int) - 0).toNat + 2) (IntKind.i64.wrap (10101 + (a_code.length : Int))) 0
theorem s_l1New_ok (a_code : List UInt8) (v0_0 : Sv) (R : l1Cur) (hF : s_l1New a_code = some R) :
   Fw.Spec Tryz.prog 41 [v0_0.v] [crd (RdS 5 rdU8) v0_0.v a_code] (fun p : Nat × Sv => (.pointer (some ⟨p.1, 0, some 0⟩))) (fun p => [cbox p.1 116 (.agg [p.2.v, (.int .i64 R.i), (.int .i64 R.h)].toArray), crd (RdS 5 rdU8) p.2.v R.b]) := by
 refine Se 32 Tryz.func41 [.tmp 2] ?_
 intro H0 F0
 unfold s_l1New at hF
 iterate 13 refine au ?_
 refine CW_block (CW_loop (m := (((a_code.length : Int) - 0).toNat + 2)) (fun m3 f' cs' => ∃ (g : Fr) (c1 : Int) (c2 : Int), f' = updL g [(0, v0_0.v), (3, (.int .i64 c1)), (4, (.int .i64 c2))] ∧ Ent cs' [crd (RdS 5 rdU8) v0_0.v a_code] ∧ s_l1New_L1 a_code m3 c1 c2 = some R) ⟨_, _, _, eqA, entA, hF⟩ ?_)
 rintro m3 _ _ ⟨g4, c1, c2, rfl, hE, hF⟩
 refine K_ent hE ?_
 rcases m3 with _ | m3
 · rw [s_l1New_L1] at hF
   exact absurd hF (by simp)
 rw [s_l1New_L1] at hF
 iterate 2 refine au ?_
 refine C_cut (fun f' cs' => ∃ (g : Fr), f' = updL g [(0, v0_0.v), (3, (.int .i64 c1)), (4, (.int .i64 c2)), (15, (.bool ((decide ((c2 : Int) < (a_code.length : Int))) && (decide ((c2 : Int) < 4000)))))] ∧ Ent cs' [crd (RdS 5 rdU8) v0_0.v a_code]) ?_ ?_
 · iterate 5 refine au ?_
   rcases Bool.eq_false_or_eq_true (decide ((c2 : Int) < (a_code.length : Int))) with hg11 | hg11
   · rw [hg11]
     try rw [hg11] at hF; dsimp only [cond_true, cond_false] at hF
     iterate 6 refine au ?_
     exact ⟨_, eqA, entA⟩
   rw [hg11]
   try rw [hg11] at hF; dsimp only [cond_true, cond_false] at hF
   iterate 4 refine au ?_
   exact ⟨_, eqA, entA⟩
 rintro _ _ ⟨g12, rfl, hE⟩
 refine K_ent hE ?_
 refine Ci hF (fun hb20 hF => ?_) (fun hb20 hF => ?_)
 · iterate 7 refine au ?_
   refine bnd hF fun x13 hx14 hF => ?_
   obtain ⟨hp15, hx16⟩ := ix_some hx14
   refine Ai hx16 (fun k17 j18 => ?_)
   refine Al ls5_0 ?_
   refine C_val (V_convFromU8 (u := x13) ik5 ik3 (.tmp rfl rfl)) ?_
   iterate 2 refine au ?_
   refine C_val (V_and (i := (IntKind.i64.wrap ((IntKind.i64.wrap ((IntKind.i64.wrap (c1 * 131)) + (x13.toNat : Int))) + 7))) (j := 1073741823) (.tmp rfl rfl) (.int _ _)) ?_
   iterate 7 refine au ?_
   exact ⟨m3, Nat.lt_succ_self _, _, _, _, eqA, entA, hF⟩
 iterate 7 refine au ?_
 refine C_val (V_build ty116.h rfl (vs := [v0_0.v, (.int .i64 c1)]) (.cons (.tmp rfl rfl) (.cons (.tmp rfl rfl) .nil)) (cells := [v0_0.v, (.int .i64 0), (.int .i64 c1)]) rfl) ?_
 refine AbW (fun k19 => ?_)
 iterate 3 refine au ?_
 cases hF
 exact Er (k19, v0_0)
def s_l1Byte (a_c : l1Cur) : Option (Int × l1Cur) :=
 (shrI .i64 (IntKind.i64.wrap ((IntKind.i64.wrap (a_c.h * 6364136223846793005)) + 1442695040888963407)) 33).bind fun x1 =>
 (shrI .i64 (IntKind.i64.wrap ((IntKind.i64.wrap (a_c.h * 6364136223846793005)) + 1442695040888963407)) 45).bind fun x3 =>
 if (decide ((a_c.i : Int) < (a_c.b.length : Int))) then (
   (ix a_c.b a_c.i).bind fun x5 =>
   some ((andI .i64 (IntKind.i64.wrap ((andI .i64 (xorI .i64 x1 x3) 255) + (x5.toNat : Int))) 255), ({ b := a_c.b, i := (IntKind.i64.wrap (a_c.i + 1)), h := (IntKind.i64.wrap ((IntKind.i64.wrap (a_c.h * 6364136223846793005)) + 1442695040888963407)) } : l1Cur)))
 else (
   some ((andI .i64 (xorI .i64 x1 x3) 255), ({ b := a_c.b, i := a_c.i, h := (IntKind.i64.wrap ((IntKind.i64.wrap (a_c.h * 6364136223846793005)) + 1442695040888963407)) } : l1Cur)))
theorem s_l1Byte_ok (kq0 : Nat) (a_c : l1Cur) (v0_0 : Sv) (R : Int × l1Cur) (hF : s_l1Byte a_c = some R) :
   Fw.Spec Tryz.prog 134 [(pz kq0)] [cbox kq0 116 (.agg [v0_0.v, (.int .i64 a_c.i), (.int .i64 a_c.h)].toArray), crd (RdS 5 rdU8) v0_0.v a_c.b] (fun _ : Unit => (.int .i64 R.1)) (fun _ => [cbox kq0 116 (.agg [v0_0.v, (.int .i64 R.2.i), (.int .i64 R.2.h)].toArray)]) := by
 refine Se 58 Tryz.func134 [.tmp 2] ?_
 intro H0 F0
 unfold s_l1Byte at hF
 iterate 6 refine au ?_
 refine C_val (V_nilCheck (v := (pz kq0)) rfl (.tmp rfl rfl)) ?_
 iterate 4 refine au ?_
 refine C_val (V_nilCheck (v := (pz kq0)) rfl (.tmp rfl rfl)) ?_
 refine au ?_
 refine As (.agg [v0_0.v, (.int .i64 a_c.i), (.int .i64 (IntKind.i64.wrap ((IntKind.i64.wrap (a_c.h * 6364136223846793005)) + 1442695040888963407)))].toArray) ?_
 refine au ?_
 refine K_draw [0, 1, 2, 3, 4, 5, 6, 7, 8, 9, 10, 11, 12] [0, 1, 3, 7, 15, 0, 32, 96, 224, 480, 1023, 2047, 4095] [] mixed (by decide +kernel) ?_
 refine du ?_
 refine D_val rfl .no (fun ha => V_nilCheck (v := (pz kq0)) rfl (EN ha (.tmp rfl rfl) rfl)) ?_
 refine du ?_
 refine D_atO rfl .no .h (fun ha hp => V_load (v := (.int .i64 (IntKind.i64.wrap ((IntKind.i64.wrap (a_c.h * 6364136223846793005)) + 1442695040888963407)))) ag3.h (EN ha (.tmp rfl rfl) rfl) hp.2 rfl rfl) ?_
 refine bnd hF fun x1 hx2 hF => D_val rfl .no (fun ha => V_shr (i := (IntKind.i64.wrap ((IntKind.i64.wrap (a_c.h * 6364136223846793005)) + 1442695040888963407))) (j := 33) (EN ha (.tmp rfl rfl) rfl) (EN ha (.int _ _) rfl) hx2) ?_
 refine du ?_
 refine D_val rfl .no (fun ha => V_nilCheck (v := (pz kq0)) rfl (EN ha (.tmp rfl rfl) rfl)) ?_
 refine du ?_
 refine D_atO rfl .no .h (fun ha hp => V_load (v := (.int .i64 (IntKind.i64.wrap ((IntKind.i64.wrap (a_c.h * 6364136223846793005)) + 1442695040888963407)))) ag3.h (EN ha (.tmp rfl rfl) rfl) hp.2 rfl rfl) ?_
 refine bnd hF fun x3 hx4 hF => D_val rfl .no (fun ha => V_shr (i := (IntKind.i64.wrap ((IntKind.i64.wrap (a_c.h * 6364136223846793005)) + 1442695040888963407))) (j := 45) (EN ha (.tmp rfl rfl) rfl) (EN ha (.int _ _) rfl) hx4) ?_
 refine D_val rfl .no (fun ha => V_xor (i := x1) (j := x3) (EN ha (.tmp rfl rfl) rfl) (EN ha (.tmp rfl rfl) rfl)) ?_
 refine D_val rfl .no (fun ha => V_and (i := (xorI .i64 x1 x3)) (j := 255) (EN ha (.tmp rfl rfl) rfl) (EN ha (.int _ _) rfl)) ?_
 iterate 2 refine du ?_
 refine au ?_
 refine K_draw [0, 1, 2, 3, 4, 5, 6, 7, 8, 9] [0, 1, 3, 7, 0, 16, 48, 112, 240, 511] [] mixed (by decide +kernel) ?_
 refine du ?_
 refine D_val rfl .no (fun ha => V_nilCheck (v := (pz kq0)) rfl (EN ha (.tmp rfl rfl) rfl)) ?_
 refine du ?_
 refine D_atO rfl .no .h (fun ha hp => V_load (v := (.int .i64 a_c.i)) ag3.h (EN ha (.tmp rfl rfl) rfl) hp.2 rfl rfl) ?_
 refine du ?_
 refine D_val rfl .no (fun ha => V_nilCheck (v := (pz kq0)) rfl (EN ha (.tmp rfl rfl) rfl)) ?_
 refine du ?_
 refine D_atO rfl .no .h (fun ha hp => V_load (v := v0_0.v) ag22.h (EN ha (.tmp rfl rfl) rfl) hp.2 rfl rfl) ?_
 iterate 3 refine du ?_
 refine Ci hF (fun hb11 hF => ?_) (fun hb11 hF => ?_)
 · refine K_draw [0, 1, 2, 3, 4, 5, 6, 7, 8, 9, 10, 11, 12, 13, 14] [0, 0, 2, 6, 14, 0, 32, 96, 224, 510, 1022, 2046, 4095, 8191, 16383] [] mixed (by decide +kernel) ?_
   iterate 2 refine du ?_
   refine D_val rfl .no (fun ha => V_nilCheck (v := (pz kq0)) rfl (EN ha (.tmp rfl rfl) rfl)) ?_
   refine du ?_
   refine D_atO rfl .no .h (fun ha hp => V_load (v := v0_0.v) ag22.h (EN ha (.tmp rfl rfl) rfl) hp.2 rfl rfl) ?_
   refine du ?_
   refine D_val rfl .no (fun ha => V_nilCheck (v := (pz kq0)) rfl (EN ha (.tmp rfl rfl) rfl)) ?_
   refine du ?_
   refine D_atO rfl .no .h (fun ha hp => V_load (v := (.int .i64 a_c.i)) ag3.h (EN ha (.tmp rfl rfl) rfl) hp.2 rfl rfl) ?_
   refine bnd hF fun x5 hx6 hF => ?_
   obtain ⟨hp7, hx8⟩ := ix_some hx6
   refine Di hx8 (fun k9 j10 => ?_)
   refine Dl ls5_0 ?_
   refine D_val rfl .no (fun ha => V_convFromU8 (u := x5) ik5 ik3 (EN ha (.tmp rfl rfl) rfl)) ?_
   refine du ?_
   refine D_val rfl .no (fun ha => V_and (i := (IntKind.i64.wrap ((andI .i64 (xorI .i64 x1 x3) 255) + (x5.toNat : Int)))) (j := 255) (EN ha (.tmp rfl rfl) rfl) (EN ha (.int _ _) rfl)) ?_
   iterate 2 refine du ?_
   iterate 3 refine au ?_
   refine C_val (V_nilCheck (v := (pz kq0)) rfl (.tmp rfl rfl)) ?_
   iterate 3 refine au ?_
   refine C_val (V_nilCheck (v := (pz kq0)) rfl (.tmp rfl rfl)) ?_
   refine au ?_
   refine As (.agg [v0_0.v, (.int .i64 (IntKind.i64.wrap (a_c.i + 1))), (.int .i64 (IntKind.i64.wrap ((IntKind.i64.wrap (a_c.h * 6364136223846793005)) + 1442695040888963407)))].toArray) ?_
   iterate 6 refine au ?_
   cases hF
   exact Er ()
 iterate 6 refine au ?_
 cases hF
 exact Er ()
def s_l1Below (a_c : l1Cur) (a_n : Int) : Option (Int × l1Cur) :=
 if (decide ((a_n : Int) ≤ 0)) then (
   some (0, a_c))
 else (
   if (decide ((a_n : Int) ≤ 256)) then (
     (s_l1Byte a_c).bind fun r1 =>
     (remI r1.1 a_n).bind fun x4 =>
     some (x4, ({ b := a_c.b, i := r1.2.i, h := r1.2.h } : l1Cur)))
   else (
     (s_l1Byte a_c).bind fun r6 =>
     (s_l1Byte ({ b := a_c.b, i := r6.2.i, h := r6.2.h } : l1Cur)).bind fun r9 =>
     (s_l1Byte ({ b := a_c.b, i := r9.2.i, h := r9.2.h } : l1Cur)).bind fun r12 =>
     (s_l1Byte ({ b := a_c.b, i := r12.2.i, h := r12.2.h } : l1Cur)).bind fun r15 =>
     (remI (IntKind.i64.wrap ((IntKind.i64.wrap ((IntKind.i64.wrap ((IntKind.i64.wrap (r6.1 * 16777216)) + (IntKind.i64.wrap (r9.1 * 65536)))) + (IntKind.i64.wrap (r12.1 * 256)))) + r15.1)) a_n).bind fun x18 =>
     some (x18, ({ b := a_c.b, i := r15.2.i, h := r15.2.h } : l1Cur))))
theorem s_l1Below_ok (kq0 : Nat) (a_c : l1Cur) (v0_0 : Sv) (a_n : Int) (R : Int × l1Cur) (hF : s_l1Below a_c a_n = some R) :
   Fw.Spec Tryz.prog 75 [(pz kq0), (.int .i64 a_n)] [cbox kq0 116 (.agg [v0_0.v, (.int .i64 a_c.i), (.int .i64 a_c.h)].toArray), crd (RdS 5 rdU8) v0_0.v a_c.b] (fun _ : Unit => (.int .i64 R.1)) (fun _ => [cbox kq0 116 (.agg [v0_0.v, (.int .i64 R.2.i), (.int .i64 R.2.h)].toArray)]) := by
 refine Se 37 Tryz.func75 [.tmp 4] ?_
 intro H0 F0
 unfold s_l1Below at hF
 iterate 8 refine au ?_
 refine Ci hF (fun hb21 hF => ?_) (fun hb21 hF => ?_)
 · iterate 4 refine au ?_
   cases hF
   exact Er ()
 iterate 6 refine au ?_
 refine Ci hF (fun hb20 hF => ?_) (fun hb20 hF => ?_)
 · iterate 2 refine au ?_
   refine bnd hF fun r1 hx2 hF => Cx1 (s_l1Byte_ok _ _ _ _ hx2) (fun p3 => ?_)
   refine au ?_
   refine bnd hF fun x4 hx5 hF => C_val (V_remN (i := r1.1) (j := a_n) (.tmp rfl rfl) (.tmp rfl rfl) hx5) ?_
   iterate 3 refine au ?_
   cases hF
   exact Er ()
 iterate 3 refine au ?_
 refine bnd hF fun r6 hx7 hF => Cx1 (s_l1Byte_ok _ _ _ _ hx7) (fun p8 => ?_)
 iterate 4 refine au ?_
 refine bnd hF fun r9 hx10 hF => Cx1 (s_l1Byte_ok _ _ _ _ hx10) (fun p11 => ?_)
 iterate 4 refine au ?_
 refine bnd hF fun r12 hx13 hF => Cx1 (s_l1Byte_ok _ _ _ _ hx13) (fun p14 => ?_)
 iterate 4 refine au ?_
 refine bnd hF fun r15 hx16 hF => Cx1 (s_l1Byte_ok _ _ _ _ hx16) (fun p17 => ?_)
 iterate 14 refine au ?_
 refine bnd hF fun x18 hx19 hF => C_val (V_remN (i := (IntKind.i64.wrap ((IntKind.i64.wrap ((IntKind.i64.wrap ((IntKind.i64.wrap (r6.1 * 16777216)) + (IntKind.i64.wrap (r9.1 * 65536)))) + (IntKind.i64.wrap (r12.1 * 256)))) + r15.1))) (j := a_n) (.tmp rfl rfl) (.tmp rfl rfl) hx19) ?_
 iterate 3 refine au ?_
 cases hF
 exact Er ()
def s_l1Once (a_c : l1Cur) (a_n : Int) : Option (Bool × l1Cur) :=
 (s_l1Below a_c a_n).bind fun r1 =>
 some (((r1.1 : Int) == 0), ({ b := a_c.b, i := r1.2.i, h := r1.2.h } : l1Cur))
theorem s_l1Once_ok (kq0 : Nat) (a_c : l1Cur) (v0_0 : Sv) (a_n : Int) (R : Bool × l1Cur) (hF : s_l1Once a_c a_n = some R) :
   Fw.Spec Tryz.prog 82 [(pz kq0), (.int .i64 a_n)] [cbox kq0 116 (.agg [v0_0.v, (.int .i64 a_c.i), (.int .i64 a_c.h)].toArray), crd (RdS 5 rdU8) v0_0.v a_c.b] (fun _ : Unit => (.bool R.1)) (fun _ => [cbox kq0 116 (.agg [v0_0.v, (.int .i64 R.2.i), (.int .i64 R.2.h)].toArray)]) := by
 refine Se 9 Tryz.func82 [.tmp 4] ?_
 intro H0 F0
 unfold s_l1Once at hF
 iterate 6 refine au ?_
 refine bnd hF fun r1 hx2 hF => Cx1 (s_l1Below_ok _ _ _ _ _ hx2) (fun p3 => ?_)
 iterate 4 refine au ?_
 cases hF
 exact Er ()
def s_l2Schema_L1 (a_c : l1Cur) : Nat → Int → Int → (List Int) → Int → Option ((List Int) × l1Cur)
 | 0, _, _, _, _ => none
 | m45 + 1, c39, c40, c41, c44 => if (decide ((0 : Int) < c44)) then (
     ((s_l1Below ({ b := a_c.b, i := c39, h := c40 } : l1Cur) 2).bind fun r55 =>
       (s_l1Once ({ b := a_c.b, i := r55.2.i, h := r55.2.h } : l1Cur) 4).bind fun r58 =>
       if r58.1 then (
         (app c41 ([3] : List Int)).bind fun z62 =>
         some (r58.2.i, r58.2.h, z62))
       else (
         (app c41 ([(IntKind.i64.wrap (1 + r55.1))] : List Int)).bind fun z66 =>
         some (r58.2.i, r58.2.h, z66))).bind fun o53 =>
     match o53 with
     | (c70, c71, c72) => s_l2Schema_L1 a_c m45 c70 c71 c72 (IntKind.i64.wrap (c44 - 1)))
   else (
     some (c41, ({ b := a_c.b, i := c39, h := c40 } : l1Cur)))
def s_l2Schema (a_c : l1Cur) : Option ((List Int) × l1Cur) :=
 (s_l1Below a_c 3).bind fun r2 =>
 s_l2Schema_L1 a_c (((IntKind.i64.wrap (1 + r2.1)) - 0).toNat + 2) r2.2.i r2.2.h ([] : List Int) (IntKind.i64.wrap (1 + r2.1))
theorem s_l2Schema_ok (kq0 : Nat) (a_c : l1Cur) (v0_0 : Sv) (R : (List Int) × l1Cur) (hF : s_l2Schema a_c = some R) :
   Fw.Spec Tryz.prog 90 [(pz kq0)] [cbox kq0 116 (.agg [v0_0.v, (.int .i64 a_c.i), (.int .i64 a_c.h)].toArray), crd (RdS 5 rdU8) v0_0.v a_c.b] (fun p : Sv × List Nat => p.1.v) (fun p => [cown (OwnS 3 (roE rdInt)) p.2 p.1.v R.1, cbox kq0 116 (.agg [v0_0.v, (.int .i64 R.2.i), (.int .i64 R.2.h)].toArray)]) := by
 refine Se 24 Tryz.func90 [.tmp 2] ?_
 intro H0 F0
 unfold s_l2Schema at hF
 iterate 4 refine au ?_
 refine C_new rfl (N_buildSliceT (g := true) sl24.h ty3.h .nil (vs := []) rfl rfl rfl (by simp)) (fun k1 => ?_)
 refine Cv1 (.cons .h .nil) (own_lit (Ro := (roE rdInt)) (E := 3) (F := []) (xs := ([] : List Int)) MkL_nil rfl rfl) ?_
 iterate 5 refine au ?_
 refine bnd hF fun r2 hx3 hF => Cx1 (s_l1Below_ok _ _ _ _ _ hx3) (fun p4 => ?_)
 iterate 3 refine au ?_
 refine CW_block (CW_loop (m := (((IntKind.i64.wrap (1 + r2.1)) - 0).toNat + 2)) (fun m45 f' cs' => ∃ (g : Fr) (c39 : Int) (c40 : Int) (c41 : List Int) (c44 : Int) (v42 : Sv) (F43 : List Nat), f' = updL g [(0, (pz kq0)), (3, v42.v), (4, (.int .i64 c44))] ∧ Ent cs' [cbox kq0 116 (.agg [v0_0.v, (.int .i64 c39), (.int .i64 c40)].toArray), crd (RdS 5 rdU8) v0_0.v a_c.b, cown (OwnS 3 (roE rdInt)) F43 v42.v c41] ∧ s_l2Schema_L1 a_c m45 c39 c40 c41 c44 = some R) ⟨_, _, _, _, _, ⟨(some ⟨k1, 0, none⟩), 0, 1⟩, (k1 :: []), eqA, entA, hF⟩ ?_)
 rintro m45 _ _ ⟨g46, c39, c40, c41, c44, v42, F43, rfl, hE, hF⟩
 refine K_ent hE ?_
 rcases m45 with _ | m45
 · rw [s_l2Schema_L1] at hF
   exact absurd hF (by simp)
 rw [s_l2Schema_L1] at hF
 iterate 5 refine au ?_
 refine Ci hF (fun hb76 hF => ?_) (fun hb76 hF => ?_)
 · refine au ?_
   obtain ⟨o53, hio53, hO54⟩ := bind_some hF
   refine K_cut (fun f' cs' => ∃ (c70 : Int) (c71 : Int) (c72 : List Int) (v73 : Sv) (F74 : List Nat) (g : Fr), o53 = (c70, c71, c72) ∧ f' = updL g [(0, (pz kq0)), (3, v73.v), (4, (.int .i64 c44))] ∧ Ent cs' [cbox kq0 116 (.agg [v0_0.v, (.int .i64 c70), (.int .i64 c71)].toArray), crd (RdS 5 rdU8) v0_0.v a_c.b, cown (OwnS 3 (roE rdInt)) F74 v73.v c72]) ?_ ?_
   · replace hF := hio53
     refine CW_block (K_region (Cm (pz kq0) rfl rfl ?_))
     refine bnd hF fun r55 hx56 hF => Cx1 (s_l1Below_ok _ _ _ _ _ hx56) (fun p57 => ?_)
     iterate 6 refine au ?_
     refine bnd hF fun r58 hx59 hF => Cx1 (s_l1Once_ok _ _ _ _ _ hx59) (fun p60 => ?_)
     refine au ?_
     refine Ci hF (fun hb69 hF => ?_) (fun hb69 hF => ?_)
     · iterate 6 refine au ?_
       refine C_new rfl (N_buildSliceT (g := true) sl24.h ty3.h (.cons (.tmp rfl rfl) .nil) (vs := [(.int .i64 3)]) rfl rfl rfl (by intro v hv; simp at hv; rcases hv with rfl <;> rfl)) (fun k61 => ?_)
       refine Cv1 (.cons .h .nil) (own_lit (Ro := (roE rdInt)) (E := 3) (F := ([] ++ [])) (xs := ([3] : List Int)) (MkL_cons (Mk_pure (fun _ => rfl)) MkL_nil apps) rfl rfl) ?_
       refine bnd hF fun z62 hx63 hF => C_x1 (.cons (.t (.t (.t .h))) (.cons .h .nil)) (X_appendO (Ro := (roE rdInt)) sl24.h ni24 ty3.h rfl rfl rfl (.tmp rfl rfl) (.tmp rfl rfl) hx63 src_own) (fun p64 => ?_)
       iterate 2 refine au ?_
       cases hF
       exact ⟨_, _, _, p64.1, p64.2, _, rfl, eqA, entA⟩
     iterate 4 refine au ?_
     refine C_new rfl (N_buildSliceT (g := true) sl24.h ty3.h (.cons (.tmp rfl rfl) .nil) (vs := [(.int .i64 (IntKind.i64.wrap (1 + r55.1)))]) rfl rfl rfl (by intro v hv; simp at hv; rcases hv with rfl <;> rfl)) (fun k65 => ?_)
     refine Cv1 (.cons .h .nil) (own_lit (Ro := (roE rdInt)) (E := 3) (F := ([] ++ [])) (xs := ([(IntKind.i64.wrap (1 + r55.1))] : List Int)) (MkL_cons (Mk_pure (fun _ => rfl)) MkL_nil apps) rfl rfl) ?_
     refine bnd hF fun z66 hx67 hF => C_x1 (.cons (.t (.t (.t .h))) (.cons .h .nil)) (X_appendO (Ro := (roE rdInt)) sl24.h ni24 ty3.h rfl rfl rfl (.tmp rfl rfl) (.tmp rfl rfl) hx67 src_own) (fun p68 => ?_)
     iterate 2 refine au ?_
     cases hF
     exact ⟨_, _, _, p68.1, p68.2, _, rfl, eqA, entA⟩
   rintro _ _ ⟨c70, c71, c72, v73, F74, g75, rfl, rfl, hE⟩
   replace hF := hO54
   try dsimp only at hF
   refine K_ent hE ?_
   iterate 5 refine au ?_
   exact ⟨m45, Nat.lt_succ_self _, _, _, _, _, _, v73, F74, eqA, entA, hF⟩
 iterate 9 refine au ?_
 cases hF
 exact Er (v42, F43)
def s_l1In (a_x : Int) (a_low : Int) (a_high : Int) : Option (Bool) :=
 some ((decide ((a_low : Int) ≤ a_x)) && (decide ((a_x : Int) ≤ a_high)))
theorem s_l1In_ok (a_x : Int) (a_low : Int) (a_high : Int) (R : Bool) (hF : s_l1In a_x a_low a_high = some R) :
   Fw.Spec Tryz.prog 51 [(.int .i64 a_x), (.int .i64 a_low), (.int .i64 a_high)] [] (fun _ : Unit => (.bool R)) (fun _ => []) := by
 refine Se 15 Tryz.func51 [.tmp 6] ?_
 intro H0 F0
 unfold s_l1In at hF
 iterate 4 refine au ?_
 refine C_cut (fun f' cs' => ∃ (g : Fr), f' = updL g [(6, (.bool ((decide ((a_low : Int) ≤ a_x)) && (decide ((a_x : Int) ≤ a_high)))))] ∧ Ent cs' []) ?_ ?_
 · iterate 4 refine au ?_
   rcases Bool.eq_false_or_eq_true (decide ((a_low : Int) ≤ a_x)) with hg1 | hg1
   · rw [hg1]
     try rw [hg1] at hF; dsimp only [cond_true, cond_false] at hF
     iterate 9 refine au ?_
     exact ⟨_, eqA, entA⟩
   rw [hg1]
   try rw [hg1] at hF; dsimp only [cond_true, cond_false] at hF
   iterate 6 refine au ?_
   exact ⟨_, eqA, entA⟩
 rintro _ _ ⟨g2, rfl, hE⟩
 refine K_ent hE ?_
 refine au ?_
 cases hF
 exact Er ()
def s_IsVar (a_t : Int) : Option (Bool) :=
 (s_l1In a_t 10 17).bind fun r1 =>
 some r1
theorem s_IsVar_ok (a_t : Int) (R : Bool) (hF : s_IsVar a_t = some R) :
   Fw.Spec Tryz.prog 106 [(.int .i64 a_t)] [] (fun _ : Unit => (.bool R)) (fun _ => []) := by
 refine Se 5 Tryz.func106 [.tmp 2] ?_
 intro H0 F0
 unfold s_IsVar at hF
 iterate 5 refine au ?_
 refine bnd hF fun r1 hx2 hF => Cx0 (s_l1In_ok _ _ _ _ hx2) (fun _ => ?_)
 iterate 3 refine au ?_
 cases hF
 exact Er ()
def s_l2Has_L1 (a_x : Int) : List Int → Nat → Option (Bool)
 | [], k4 => some false
 | x6 :: rest5, k4 => if ((x6 : Int) == a_x) then (
     some true)
   else (
     s_l2Has_L1 a_x rest5 (k4 + 1))
def s_l2Has (a_l : List Int) (a_x : Int) : Option (Bool) :=
 s_l2Has_L1 a_x a_l 0
theorem s_l2Has_ok (a_l : List Int) (v0_0 : Sv) (a_x : Int) (R : Bool) (hF : s_l2Has a_l a_x = some R) :
   Fw.Spec Tryz.prog 54 [v0_0.v, (.int .i64 a_x)] [crd (RdS 3 rdInt) v0_0.v a_l] (fun _ : Unit => (.bool R)) (fun _ => []) := by
 refine Se 18 Tryz.func54 [.tmp 4] ?_
 intro H0 F0
 unfold s_l2Has at hF
 iterate 7 refine au ?_
 refine CW_block (CW_loop (m := a_l.length) (fun m2 f' cs' => ∃ (g : Fr) (k4 : Nat) (rest5 : List Int), m2 = rest5.length ∧ f' = updL g [(0, v0_0.v), (1, (.int .i64 a_x)), (5, (.int .i64 (k4 : Int)))] ∧ List.drop k4 a_l = rest5 ∧ Ent cs' [crd (RdS 3 rdInt) v0_0.v a_l] ∧ s_l2Has_L1 a_x rest5 k4 = some R) ⟨_, 0, _, rfl, eqA, rfl, entA, hF⟩ ?_)
 rintro m2 _ _ ⟨g3, k4, rest5, rfl, rfl, hd7, hE, hF⟩
 refine Kb hE a_l (fun hbd12 => ?_)
 rcases rest5 with _ | ⟨x6, rest5⟩
 · have hk8 := dn hd7
   rw [s_l2Has_L1] at hF
   iterate 7 refine au ?_
   refine CdF ?_
   iterate 8 refine au ?_
   cases hF
   exact Er ()
 obtain ⟨hk8, hx9, hd10⟩ := drop_cons hd7
 rw [s_l2Has_L1] at hF
 iterate 7 refine au ?_
 refine CdT ?_
 iterate 5 refine au ?_
 refine Ai hx9 (fun k13 j14 => ?_)
 refine Al ls3_0 ?_
 iterate 3 refine au ?_
 refine Ci hF (fun hb16 hF => ?_) (fun hb16 hF => ?_)
 · iterate 4 refine au ?_
   cases hF
   exact Er ()
 iterate 6 refine au ?_
 rw [wk k4]
 exact ⟨_, Nat.lt_succ_self _, _, k4 + 1, rest5, rfl, eqA, hd10, entA, hF⟩
def s_l3Put_L1 (a_l : List Int) (a_x : Int) : Nat → (List Int) → Bool → Int → Option ((List Int))
 | 0, _, _, _ => none
 | m10 + 1, c5, c8, c9 => if (decide ((c9 : Int) < (a_l.length : Int))) then (
     ((bif (!c8) then ((ix a_l c9).bind fun x26 =>
           some (decide ((a_x : Int) < x26)))
         else (some false)).bind fun o20 =>
       match o20 with
       | c30 => if c30 then (
           (app c5 ([a_x] : List Int)).bind fun z32 =>
           (ix a_l c9).bind fun x38 =>
           (app z32 ([x38] : List Int)).bind fun z43 =>
           some (z43, true))
         else (
           (ix a_l c9).bind fun x49 =>
           (app c5 ([x49] : List Int)).bind fun z54 =>
           some (z54, c8))).bind fun o18 =>
     match o18 with
     | (c59, c62) => s_l3Put_L1 a_l a_x m10 c59 c62 (IntKind.i64.wrap (c9 + 1)))
   else (
     if (!c8) then (
       (app c5 ([a_x] : List Int)).bind fun z65 =>
       some z65)
     else (
       some c5))
def s_l3Put (a_l : List Int) (a_x : Int) : Option ((List Int)) :=
 (s_l2Has a_l a_x).bind fun r1 =>
 if r1 then (
   some a_l)
 else (
   s_l3Put_L1 a_l a_x (((a_l.length : Int) - 0).toNat + 2) ([] : List Int) false 0)
theorem s_l3Put_ok (a_l : List Int) (v0_0 : Sv) (F0_0 : List Nat) (a_x : Int) (R : (List Int)) (hF : s_l3Put a_l a_x = some R) :
   Fw.Spec Tryz.prog 89 [v0_0.v, (.int .i64 a_x)] [cown (OwnS 3 (roE rdInt)) F0_0 v0_0.v a_l] (fun p : Sv × List Nat => p.1.v) (fun p => [cown (OwnS 3 (roE rdInt)) p.2 p.1.v R]) := by
 refine Se 47 Tryz.func89 [.tmp 4] ?_
 intro H0 F0
 unfold s_l3Put at hF
 iterate 7 refine au ?_
 refine bnd hF fun r1 hx2 hF => C_x1 (.cons .h .nil) (XC_bor frz_own (fun _ => .nil) (X_callS cf54.h (.cons (.tmp rfl rfl) (.cons (.tmp rfl rfl) .nil)) (s_l2Has_ok a_l v0_0 a_x _ hx2))) (fun _ => ?_)
 refine au ?_
 refine Ci hF (fun hb70 hF => ?_) (fun hb70 hF => ?_)
 · iterate 5 refine au ?_
   cases hF
   exact Er (v0_0, F0_0)
 iterate 2 refine au ?_
 refine C_new rfl (N_buildSliceT (g := true) sl24.h ty3.h .nil (vs := []) rfl rfl rfl (by simp)) (fun k4 => ?_)
 refine Cv1 (.cons .h .nil) (own_lit (Ro := (roE rdInt)) (E := 3) (F := []) (xs := ([] : List Int)) MkL_nil rfl rfl) ?_
 iterate 9 refine au ?_
 refine CW_block (CW_loop (m := (((a_l.length : Int) - 0).toNat + 2)) (fun m10 f' cs' => ∃ (g : Fr) (c5 : List Int) (c8 : Bool) (c9 : Int) (v6 : Sv) (F7 : List Nat), f' = updL g [(0, v0_0.v), (1, (.int .i64 a_x)), (5, v6.v), (6, (.bool c8)), (7, (.int .i64 c9))] ∧ Ent cs' [cown (OwnS 3 (roE rdInt)) F0_0 v0_0.v a_l, cown (OwnS 3 (roE rdInt)) F7 v6.v c5] ∧ s_l3Put_L1 a_l a_x m10 c5 c8 c9 = some R) ⟨_, _, _, _, ⟨(some ⟨k4, 0, none⟩), 0, 1⟩, (k4 :: []), eqA, entA, hF⟩ ?_)
 rintro m10 _ _ ⟨g11, c5, c8, c9, v6, F7, rfl, hE, hF⟩
 refine K_ent hE ?_
 rcases m10 with _ | m10
 · rw [s_l3Put_L1] at hF
   exact absurd hF (by simp)
 rw [s_l3Put_L1] at hF
 iterate 7 refine au ?_
 refine Ci hF (fun hb69 hF => ?_) (fun hb69 hF => ?_)
 · refine au ?_
   obtain ⟨o18, hio18, hO19⟩ := bind_some hF
   refine K_cut (fun f' cs' => ∃ (c59 : List Int) (c62 : Bool) (v60 : Sv) (F61 : List Nat) (g : Fr), o18 = (c59, c62) ∧ f' = updL g [(0, v0_0.v), (1, (.int .i64 a_x)), (5, v60.v), (6, (.bool c62)), (7, (.int .i64 c9))] ∧ Ent cs' [cown (OwnS 3 (roE rdInt)) F0_0 v0_0.v a_l, cown (OwnS 3 (roE rdInt)) F61 v60.v c59]) ?_ ?_
   · replace hF := hio18
     refine CW_block (K_in ?_)
     obtain ⟨o20, hio20, hO21⟩ := bind_some hF
     refine au ?_
     refine C_cut (fun f' cs' => ∃ (c30 : Bool) (g : Fr), c30 = o20 ∧ f' = updL g [(0, v0_0.v), (1, (.int .i64 a_x)), (5, v6.v), (6, (.bool c8)), (7, (.int .i64 c9)), (28, (.bool c30))] ∧ Ent cs' [cown (OwnS 3 (roE rdInt)) F0_0 v0_0.v a_l, cown (OwnS 3 (roE rdInt)) F7 v6.v c5]) ?_ ?_
     · replace hF := hio20
       iterate 3 refine au ?_
       rcases Bool.eq_false_or_eq_true (!c8) with hg22 | hg22
       · rw [hg22]
         try rw [hg22] at hF; dsimp only [cond_true, cond_false] at hF
         iterate 5 refine au ?_
         refine bnd hF fun x26 hx27 hF => ?_
         have hi25 := ix_chk hx27
         obtain ⟨hp28, hx29⟩ := ix_some hx27
         refine C_idxO sl24.h ty3.h.sz (.tmp rfl rfl) (.tmp rfl rfl) .h hi25 (fun k23 hk24 => ?_)
         refine au ?_
         refine C_ldO (w := (.int .i64 x26)) ag3.h (.tmp rfl rfl) .h hk24 hx29 lo3_0 ?_
         iterate 6 refine au ?_
         cases hF
         exact ⟨_, _, rfl, eqA, entA⟩
       rw [hg22]
       try rw [hg22] at hF; dsimp only [cond_true, cond_false] at hF
       iterate 8 refine au ?_
       cases hF
       exact ⟨_, _, rfl, eqA, entA⟩
     rintro _ _ ⟨c30, g58, rfl, rfl, hE⟩
     replace hF := hO21
     try dsimp only at hF
     refine K_ent hE ?_
     refine Ci hF (fun hb57 hF => ?_) (fun hb57 hF => ?_)
     · iterate 3 refine au ?_
       refine C_new rfl (N_buildSliceT (g := true) sl24.h ty3.h (.cons (.tmp rfl rfl) .nil) (vs := [(.int .i64 a_x)]) rfl rfl rfl (by intro v hv; simp at hv; rcases hv with rfl <;> rfl)) (fun k31 => ?_)
       refine Cv1 (.cons .h .nil) (own_lit (Ro := (roE rdInt)) (E := 3) (F := ([] ++ [])) (xs := ([a_x] : List Int)) (MkL_cons (Mk_pure (fun _ => rfl)) MkL_nil apps) rfl rfl) ?_
       refine bnd hF fun z32 hx33 hF => C_x1 (.cons (.t (.t .h)) (.cons .h .nil)) (X_appendO (Ro := (roE rdInt)) sl24.h ni24 ty3.h rfl rfl rfl (.tmp rfl rfl) (.tmp rfl rfl) hx33 src_own) (fun p34 => ?_)
       iterate 9 refine au ?_
       refine bnd hF fun x38 hx39 hF => ?_
       have hi37 := ix_chk hx39
       obtain ⟨hp40, hx41⟩ := ix_some hx39
       refine C_idxO sl24.h ty3.h.sz (.tmp rfl rfl) (.tmp rfl rfl) (.t .h) hi37 (fun k35 hk36 => ?_)
       refine C_ldO (w := (.int .i64 x38)) ag3.h (.tmp rfl rfl) (.t .h) hk36 hx41 lo3_0 ?_
       refine C_new rfl (N_buildSliceT (g := true) sl24.h ty3.h (.cons (.tmp rfl rfl) .nil) (vs := [(.int .i64 x38)]) rfl rfl rfl (by intro v hv; simp at hv; rcases hv with rfl <;> rfl)) (fun k42 => ?_)
       refine Cv1 (.cons .h .nil) (own_lit (Ro := (roE rdInt)) (E := 3) (F := ([] ++ [])) (xs := ([x38] : List Int)) (MkL_cons (Mk_pure (fun _ => rfl)) MkL_nil apps) rfl rfl) ?_
       refine bnd hF fun z43 hx44 hF => C_x1 (.cons (.t .h) (.cons .h .nil)) (X_appendO (Ro := (roE rdInt)) sl24.h ni24 ty3.h rfl rfl rfl (.tmp rfl rfl) (.tmp rfl rfl) hx44 src_own) (fun p45 => ?_)
       iterate 2 refine au ?_
       cases hF
       exact ⟨_, _, p45.1, p45.2, _, rfl, eqA, entA⟩
     iterate 5 refine au ?_
     refine bnd hF fun x49 hx50 hF => ?_
     have hi48 := ix_chk hx50
     obtain ⟨hp51, hx52⟩ := ix_some hx50
     refine C_idxO sl24.h ty3.h.sz (.tmp rfl rfl) (.tmp rfl rfl) .h hi48 (fun k46 hk47 => ?_)
     refine C_ldO (w := (.int .i64 x49)) ag3.h (.tmp rfl rfl) .h hk47 hx52 lo3_0 ?_
     refine C_new rfl (N_buildSliceT (g := true) sl24.h ty3.h (.cons (.tmp rfl rfl) .nil) (vs := [(.int .i64 x49)]) rfl rfl rfl (by intro v hv; simp at hv; rcases hv with rfl <;> rfl)) (fun k53 => ?_)
     refine Cv1 (.cons .h .nil) (own_lit (Ro := (roE rdInt)) (E := 3) (F := ([] ++ [])) (xs := ([x49] : List Int)) (MkL_cons (Mk_pure (fun _ => rfl)) MkL_nil apps) rfl rfl) ?_
     refine bnd hF fun z54 hx55 hF => C_x1 (.cons (.t (.t .h)) (.cons .h .nil)) (X_appendO (Ro := (roE rdInt)) sl24.h ni24 ty3.h rfl rfl rfl (.tmp rfl rfl) (.tmp rfl rfl) hx55 src_own) (fun p56 => ?_)
     iterate 2 refine au ?_
     cases hF
     exact ⟨_, _, p56.1, p56.2, _, rfl, eqA, entA⟩
   rintro _ _ ⟨c59, c62, v60, F61, g63, rfl, rfl, hE⟩
   replace hF := hO19
   try dsimp only at hF
   refine K_ent hE ?_
   iterate 5 refine au ?_
   exact ⟨m10, Nat.lt_succ_self _, _, _, _, _, v60, F61, eqA, entA, hF⟩
 iterate 9 refine au ?_
 refine Ci hF (fun hb68 hF => ?_) (fun hb68 hF => ?_)
 · iterate 3 refine au ?_
   refine C_new rfl (N_buildSliceT (g := true) sl24.h ty3.h (.cons (.tmp rfl rfl) .nil) (vs := [(.int .i64 a_x)]) rfl rfl rfl (by intro v hv; simp at hv; rcases hv with rfl <;> rfl)) (fun k64 => ?_)
   refine Cv1 (.cons .h .nil) (own_lit (Ro := (roE rdInt)) (E := 3) (F := ([] ++ [])) (xs := ([a_x] : List Int)) (MkL_cons (Mk_pure (fun _ => rfl)) MkL_nil apps) rfl rfl) ?_
   refine bnd hF fun z65 hx66 hF => C_x1 (.cons (.t (.t .h)) (.cons .h .nil)) (X_appendO (Ro := (roE rdInt)) sl24.h ni24 ty3.h rfl rfl rfl (.tmp rfl rfl) (.tmp rfl rfl) hx66 src_own) (fun p67 => ?_)
   iterate 7 refine au ?_
   cases hF
   exact Er (p67.1, p67.2)
 iterate 6 refine au ?_
 cases hF
 exact Er (v6, F7)
def s_VarsOf_L3 (x11 : Atom) : Nat → (List Int) → Int → Option ((List Int))
 | 0, _, _ => none
 | m24 + 1, c20, c23 => if (decide ((c23 : Int) < (x11.Terms.length : Int))) then (
     ((ix x11.Terms c23).bind fun x40 =>
       (s_IsVar x40).bind fun r46 =>
       if r46 then (
         (ix x11.Terms c23).bind fun x52 =>
         (s_l3Put c20 x52).bind fun r58 =>
         some r58)
       else (
         some c20)).bind fun o35 =>
     match o35 with
     | c62 => s_VarsOf_L3 x11 m24 c62 (IntKind.i64.wrap (c23 + 1)))
   else (
     some c20)
def s_VarsOf_L1 : List Atom → Nat → (List Int) → Option ((List Int))
 | [], k9, c3 => some c3
 | x11 :: rest10, k9, c3 => (s_VarsOf_L3 x11 (((x11.Terms.length : Int) - 0).toNat + 2) c3 0).bind fun o18 =>
   match o18 with
   | c67 => s_VarsOf_L1 rest10 (k9 + 1) c67
def s_VarsOf (a_q : Query) : Option ((List Int)) :=
 s_VarsOf_L1 a_q.Atoms 0 ([] : List Int)
theorem s_VarsOf_ok (a_q : Query) (v0_0 : Sv) (v0_1 : Sv) (R : (List Int)) (hF : s_VarsOf a_q = some R) :
   Fw.Spec Tryz.prog 53 [(.agg [v0_0.v, v0_1.v].toArray)] [crd (RdS 3 rdInt) v0_0.v a_q.Head, crd (RdS 78 rd78) v0_1.v a_q.Atoms] (fun p : Sv × List Nat => p.1.v) (fun p => [cown (OwnS 3 (roE rdInt)) p.2 p.1.v R]) := by
 refine Se 47 Tryz.func53 [.tmp 2] ?_
 intro H0 F0
 unfold s_VarsOf at hF
 refine au ?_
 refine AbR (fun k1 => ?_)
 iterate 3 refine au ?_
 refine C_new rfl (N_buildSliceT (g := true) sl24.h ty3.h .nil (vs := []) rfl rfl rfl (by simp)) (fun k2 => ?_)
 refine Cv1 (.cons .h .nil) (own_lit (Ro := (roE rdInt)) (E := 3) (F := []) (xs := ([] : List Int)) MkL_nil rfl rfl) ?_
 iterate 6 refine au ?_
 refine CW_block (CW_loop (m := a_q.Atoms.length) (fun m7 f' cs' => ∃ (g : Fr) (k9 : Nat) (rest10 : List Atom) (c3 : List Int) (v4 : Sv) (F5 : List Nat), m7 = rest10.length ∧ f' = updL g [(1, (pz k1)), (3, v4.v), (4, (.int .i64 (k9 : Int)))] ∧ List.drop k9 a_q.Atoms = rest10 ∧ Ent cs' [cboR k1 27 (.agg [v0_0.v, v0_1.v].toArray), crd (RdS 3 rdInt) v0_0.v a_q.Head, crd (RdS 78 rd78) v0_1.v a_q.Atoms, cown (OwnS 3 (roE rdInt)) F5 v4.v c3] ∧ s_VarsOf_L1 rest10 k9 c3 = some R) ⟨_, 0, _, _, ⟨(some ⟨k2, 0, none⟩), 0, 1⟩, (k2 :: []), rfl, eqA, rfl, entA, hF⟩ ?_)
 rintro m7 _ _ ⟨g8, k9, rest10, c3, v4, F5, rfl, rfl, hd12, hE, hF⟩
 refine Kb hE a_q.Atoms (fun hbd17 => ?_)
 rcases rest10 with _ | ⟨x11, rest10⟩
 · have hk13 := dn hd12
   rw [s_VarsOf_L1] at hF
   iterate 8 refine au ?_
   refine CdF ?_
   iterate 9 refine au ?_
   cases hF
   exact Er (v4, F5)
 obtain ⟨hk13, hx14, hd15⟩ := drop_cons hd12
 rw [s_VarsOf_L1] at hF
 iterate 8 refine au ?_
 refine CdT ?_
 refine au ?_
 obtain ⟨o18, hio18, hO19⟩ := bind_some hF
 refine K_cut (fun f' cs' => ∃ (c67 : List Int) (v68 : Sv) (F69 : List Nat) (g : Fr), c67 = o18 ∧ f' = updL g [(1, (pz k1)), (3, v68.v), (4, (.int .i64 (k9 : Int)))] ∧ Ent cs' [cboR k1 27 (.agg [v0_0.v, v0_1.v].toArray), crd (RdS 3 rdInt) v0_0.v a_q.Head, crd (RdS 78 rd78) v0_1.v a_q.Atoms, cown (OwnS 3 (roE rdInt)) F69 v68.v c67]) ?_ ?_
 · replace hF := hio18
   refine CW_block (K_region (C_val (V_assign (v := (.int .i64 0)) (.int _ _)) ?_))
   refine au ?_
   refine CW_block (CW_loop (m := (((x11.Terms.length : Int) - 0).toNat + 2)) (fun m24 f' cs' => ∃ (g : Fr) (c20 : List Int) (c23 : Int) (v21 : Sv) (F22 : List Nat), f' = updL g [(1, (pz k1)), (3, v21.v), (4, (.int .i64 (k9 : Int))), (5, (.int .i64 c23))] ∧ Ent cs' [cboR k1 27 (.agg [v0_0.v, v0_1.v].toArray), crd (RdS 3 rdInt) v0_0.v a_q.Head, crd (RdS 78 rd78) v0_1.v a_q.Atoms, cown (OwnS 3 (roE rdInt)) F22 v21.v c20] ∧ s_VarsOf_L3 x11 m24 c20 c23 = some o18) ⟨_, _, _, v4, F5, eqA, entA, hF⟩ ?_)
   rintro m24 _ _ ⟨g25, c20, c23, v21, F22, rfl, hE, hF⟩
   refine K_ent hE ?_
   rcases m24 with _ | m24
   · rw [s_VarsOf_L3] at hF
     exact absurd hF (by simp)
   rw [s_VarsOf_L3] at hF
   iterate 6 refine au ?_
   refine Ai hx14 (fun k32 j33 => ?_)
   refine au ?_
   refine C_ldV (R' := (RdS 3 rdInt)) ag24.h (.tmp rfl rfl) .h lv78_1 (fun w34 => ?_)
   iterate 3 refine au ?_
   refine Ci hF (fun hb66 hF => ?_) (fun hb66 hF => ?_)
   · refine au ?_
     obtain ⟨o35, hio35, hO36⟩ := bind_some hF
     refine K_cut (fun f' cs' => ∃ (c62 : List Int) (v63 : Sv) (F64 : List Nat) (g : Fr), c62 = o35 ∧ f' = updL g [(1, (pz k1)), (3, v63.v), (4, (.int .i64 (k9 : Int))), (5, (.int .i64 c23))] ∧ Ent cs' [cboR k1 27 (.agg [v0_0.v, v0_1.v].toArray), crd (RdS 3 rdInt) v0_0.v a_q.Head, crd (RdS 78 rd78) v0_1.v a_q.Atoms, cown (OwnS 3 (roE rdInt)) F64 v63.v c62]) ?_ ?_
     · replace hF := hio35
       refine CW_block (K_region (C_val (V_fieldAddr (off := 1) fd27_1.h (.tmp rfl rfl)) ?_))
       iterate 2 refine au ?_
       refine Ai hx14 (fun k37 j38 => ?_)
       refine au ?_
       refine C_ldV (R' := (RdS 3 rdInt)) ag24.h (.tmp rfl rfl) .h lv78_1 (fun w39 => ?_)
       refine au ?_
       refine bnd hF fun x40 hx41 hF => ?_
       obtain ⟨hp42, hx43⟩ := ix_some hx41
       refine Ai hx43 (fun k44 j45 => ?_)
       refine Al ls3_0 ?_
       refine bnd hF fun r46 hx47 hF => Cx0 (s_IsVar_ok _ _ hx47) (fun _ => ?_)
       refine au ?_
       refine Ci hF (fun hb61 hF => ?_) (fun hb61 hF => ?_)
       · iterate 5 refine au ?_
         refine Ai hx14 (fun k49 j50 => ?_)
         refine au ?_
         refine C_ldV (R' := (RdS 3 rdInt)) ag24.h (.tmp rfl rfl) .h lv78_1 (fun w51 => ?_)
         refine au ?_
         refine bnd hF fun x52 hx53 hF => ?_
         obtain ⟨hp54, hx55⟩ := ix_some hx53
         refine Ai hx55 (fun k56 j57 => ?_)
         refine Al ls3_0 ?_
         refine bnd hF fun r58 hx59 hF => Cx1 (s_l3Put_ok _ _ _ _ _ hx59) (fun p60 => ?_)
         iterate 2 refine au ?_
         cases hF
         exact ⟨_, p60.1, p60.2, _, rfl, eqA, entA⟩
       refine au ?_
       cases hF
       exact ⟨_, v21, F22, _, rfl, eqA, entA⟩
     rintro _ _ ⟨c62, v63, F64, g65, rfl, rfl, hE⟩
     replace hF := hO36
     try dsimp only at hF
     refine K_ent hE ?_
     iterate 5 refine au ?_
     exact ⟨m24, Nat.lt_succ_self _, _, _, _, v63, F64, eqA, entA, hF⟩
   iterate 4 refine au ?_
   cases hF
   exact ⟨_, v21, F22, _, rfl, eqA, entA⟩
 rintro _ _ ⟨c67, v68, F69, g71, rfl, rfl, hE⟩
 replace hF := hO19
 try dsimp only at hF
 refine K_ent hE ?_
 iterate 5 refine au ?_
 rw [wk k9]
 exact ⟨_, Nat.lt_succ_self _, _, k9 + 1, rest10, _, v68, F69, rfl, eqA, hd15, entA, hF⟩
def s_l3Query_L3 (a_c : l1Cur) (a_s : List Int) (c119 : List Atom) (r133 : Int × l1Cur) : Nat → Int → Int → (List Int) → Int → Option (Int × Int × (List Atom))
 | 0, _, _, _, _ => none
 | m183 + 1, c177, c178, c179, c182 => (ix a_s r133.1).bind fun x191 =>
   if (decide ((c182 : Int) < x191)) then (
     ((s_l1Below ({ b := a_c.b, i := c177, h := c178 } : l1Cur) 4).bind fun r199 =>
       (s_l1Once ({ b := a_c.b, i := r199.2.i, h := r199.2.h } : l1Cur) 4).bind fun r202 =>
       if r202.1 then (
         (s_l1Below ({ b := a_c.b, i := r202.2.i, h := r202.2.h } : l1Cur) 4).bind fun r205 =>
         (app c179 ([r205.1] : List Int)).bind fun z209 =>
         some (r205.2.i, r205.2.h, z209))
       else (
         (app c179 ([(IntKind.i64.wrap (10 + r199.1))] : List Int)).bind fun z213 =>
         some (r202.2.i, r202.2.h, z213))).bind fun o197 =>
     match o197 with
     | (c217, c218, c219) => s_l3Query_L3 a_c a_s c119 r133 m183 c217 c218 c219 (IntKind.i64.wrap (c182 + 1)))
   else (
     (app c119 ([({ Rel := r133.1, Terms := c179 } : Atom)] : List Atom)).bind fun z224 =>
     some (c177, c178, z224))
def s_l3Query_L4 (a_c : l1Cur) (c119 : List Atom) : Nat → Int → Int → (List Int) → (List Int) → Int → Option (Query × l1Cur)
 | 0, _, _, _, _, _ => none
 | m321 + 1, c313, c314, c315, c318, c320 => if ((decide ((c320 : Int) < (c318.length : Int))) && (decide (((c315.length : Int) : Int) < 2))) then (
     ((s_l1Once ({ b := a_c.b, i := c313, h := c314 } : l1Cur) 2).bind fun r333 =>
       if r333.1 then (
         (ix c318 c320).bind fun x336 =>
         (app c315 ([x336] : List Int)).bind fun z343 =>
         some (r333.2.i, r333.2.h, z343))
       else (
         some (r333.2.i, r333.2.h, c315))).bind fun o331 =>
     match o331 with
     | (c347, c348, c349) => s_l3Query_L4 a_c c119 m321 c347 c348 c349 c318 (IntKind.i64.wrap (c320 + 1)))
   else (
     some (({ Head := c315, Atoms := c119 } : Query), ({ b := a_c.b, i := c313, h := c314 } : l1Cur)))
def s_l3Query_L1 (a_c : l1Cur) (a_s : List Int) (fuel : Nat) : Nat → Int → Int → (List Atom) → Int → Option (Query × l1Cur)
 | 0, _, _, _, _ => none
 | m123 + 1, c117, c118, c119, c122 => if (decide ((0 : Int) < c122)) then (
     ((s_l1Below ({ b := a_c.b, i := c117, h := c118 } : l1Cur) (a_s.length : Int)).bind fun r133 =>
       s_l3Query_L3 a_c a_s c119 r133 fuel r133.2.i r133.2.h ([] : List Int) 0).bind fun o131 =>
     match o131 with
     | (c228, c229, c230) => s_l3Query_L1 a_c a_s fuel m123 c228 c229 c230 (IntKind.i64.wrap (c122 - 1)))
   else (
     (s_VarsOf ({ Head := [], Atoms := c119 } : Query)).bind fun r234 =>
     s_l3Query_L4 a_c c119 (((r234.length : Int) - 0).toNat + 2) c117 c118 ([] : List Int) r234 0)
def s_l3Query (fuel : Nat) (a_c : l1Cur) (a_s : List Int) : Option (Query × l1Cur) :=
 (s_l1Below a_c 3).bind fun r3 =>
 s_l3Query_L1 a_c a_s fuel (((IntKind.i64.wrap (1 + r3.1)) - 0).toNat + 2) r3.2.i r3.2.h ([] : List Atom) (IntKind.i64.wrap (1 + r3.1))
theorem s_l3Query_ok (fuel : Nat) (kq0 : Nat) (a_c : l1Cur) (v0_0 : Sv) (a_s : List Int) (v1_0 : Sv) (R : Query × l1Cur) (hF : s_l3Query fuel a_c a_s = some R) :
   Fw.Spec Tryz.prog 91 [(pz kq0), v1_0.v] [cbox kq0 116 (.agg [v0_0.v, (.int .i64 a_c.i), (.int .i64 a_c.h)].toArray), crd (RdS 5 rdU8) v0_0.v a_c.b, crd (RdS 3 rdInt) v1_0.v a_s] (fun p : Sv × List Nat × Sv × List Nat => (.agg [p.1.v, p.2.2.1.v].toArray)) (fun p => [cown (OwnS 3 (roE rdInt)) p.2.1 p.1.v R.1.Head, cown (OwnS 78 ow78) p.2.2.2 p.2.2.1.v R.1.Atoms, cbox kq0 116 (.agg [v0_0.v, (.int .i64 R.2.i), (.int .i64 R.2.h)].toArray)]) := by
 refine Se 79 Tryz.func91 [.cell 4 27] ?_
 intro H0 F0
 unfold s_l3Query at hF
 refine au ?_
 refine AnW (fun k1 => ?_)
 iterate 2 refine au ?_
 refine C_val (V_build ty27.h rfl (vs := []) .nil (cells := [(.slice none 0 0), (.slice none 0 0)]) rfl) ?_
 refine AnW (fun k2 => ?_)
 refine As (.agg [(.slice none 0 0), (.slice none 0 0)].toArray) ?_
 iterate 4 refine au ?_
 refine bnd hF fun r3 hx4 hF => Cx1 (s_l1Below_ok _ _ _ _ _ hx4) (fun p5 => ?_)
 iterate 3 refine au ?_
 refine CW_block (CW_loop (m := (((IntKind.i64.wrap (1 + r3.1)) - 0).toNat + 2)) (fun m123 f' cs' => ∃ (g : Fr) (c117 : Int) (c118 : Int) (c119 : List Atom) (c122 : Int) (v120 : Sv) (F121 : List Nat), f' = updL g [(0, (pz kq0)), (1, v1_0.v), (4, (pz k1)), (5, (pz k2)), (6, (.int .i64 c122))] ∧ Ent cs' [cbox kq0 116 (.agg [v0_0.v, (.int .i64 c117), (.int .i64 c118)].toArray), crd (RdS 5 rdU8) v0_0.v a_c.b, crd (RdS 3 rdInt) v1_0.v a_s, cbox k1 27 (.agg [(.slice none 0 0), (.slice none 0 0)].toArray), cbox k2 27 (.agg [(.slice none 0 0), v120.v].toArray), cown (OwnS 78 ow78) F121 v120.v c119] ∧ s_l3Query_L1 a_c a_s fuel m123 c117 c118 c119 c122 = some R) ⟨_, _, _, _, _, ⟨none, 0, 0⟩, [], eqA, (.conv .nil (own_nil (Ro := ow78) (E := 78)) (.cons .nil) entA), hF⟩ ?_)
 rintro m123 _ _ ⟨g124, c117, c118, c119, c122, v120, F121, rfl, hE, hF⟩
 refine K_ent hE ?_
 rcases m123 with _ | m123
 · rw [s_l3Query_L1] at hF
   exact absurd hF (by simp)
 rw [s_l3Query_L1] at hF
 iterate 5 refine au ?_
 refine Ci hF (fun hb354 hF => ?_) (fun hb354 hF => ?_)
 · refine au ?_
   obtain ⟨o131, hio131, hO132⟩ := bind_some hF
   refine K_cut (fun f' cs' => ∃ (c228 : Int) (c229 : Int) (c230 : List Atom) (v231 : Sv) (F232 : List Nat) (g : Fr), o131 = (c228, c229, c230) ∧ f' = updL g [(0, (pz kq0)), (1, v1_0.v), (4, (pz k1)), (5, (pz k2)), (6, (.int .i64 c122))] ∧ Ent cs' [cbox kq0 116 (.agg [v0_0.v, (.int .i64 c228), (.int .i64 c229)].toArray), crd (RdS 5 rdU8) v0_0.v a_c.b, crd (RdS 3 rdInt) v1_0.v a_s, cbox k1 27 (.agg [(.slice none 0 0), (.slice none 0 0)].toArray), cbox k2 27 (.agg [(.slice none 0 0), v231.v].toArray), cown (OwnS 78 ow78) F232 v231.v c230]) ?_ ?_
   · replace hF := hio131
     refine CW_block (K_region (Cm (pz kq0) rfl rfl ?_))
     iterate 2 refine au ?_
     refine bnd hF fun r133 hx134 hF => Cx1 (s_l1Below_ok _ _ _ _ _ hx134) (fun p135 => ?_)
     refine C_val (V_build ty78.h rfl (vs := [(.int .i64 r133.1)]) (.cons (.tmp rfl rfl) .nil) (cells := [(.int .i64 r133.1), (.slice none 0 0)]) rfl) ?_
     refine AnW (fun k136 => ?_)
     refine As (.agg [(.int .i64 r133.1), (.slice none 0 0)].toArray) ?_
     iterate 5 refine au ?_
     refine CW_block (CW_loop (m := fuel) (fun m183 f' cs' => ∃ (g : Fr) (c177 : Int) (c178 : Int) (c179 : List Int) (c182 : Int) (v180 : Sv) (F181 : List Nat), f' = updL g [(0, (pz kq0)), (1, v1_0.v), (4, (pz k1)), (5, (pz k2)), (6, (.int .i64 c122)), (7, (pz k136)), (8, (.int .i64 c182))] ∧ Ent cs' [cbox kq0 116 (.agg [v0_0.v, (.int .i64 c177), (.int .i64 c178)].toArray), crd (RdS 5 rdU8) v0_0.v a_c.b, crd (RdS 3 rdInt) v1_0.v a_s, cbox k1 27 (.agg [(.slice none 0 0), (.slice none 0 0)].toArray), cbox k2 27 (.agg [(.slice none 0 0), v120.v].toArray), cown (OwnS 78 ow78) F121 v120.v c119, cbox k136 78 (.agg [(.int .i64 r133.1), v180.v].toArray), cown (OwnS 3 (roE rdInt)) F181 v180.v c179] ∧ s_l3Query_L3 a_c a_s c119 r133 m183 c177 c178 c179 c182 = some o131) ⟨_, _, _, _, _, ⟨none, 0, 0⟩, [], eqA, (.conv .nil (own_nil (Ro := (roE rdInt)) (E := 3)) (.cons .nil) entA), hF⟩ ?_)
     rintro m183 _ _ ⟨g184, c177, c178, c179, c182, v180, F181, rfl, hE, hF⟩
     refine K_ent hE ?_
     rcases m183 with _ | m183
     · rw [s_l3Query_L3] at hF
       exact absurd hF (by simp)
     rw [s_l3Query_L3] at hF
     iterate 6 refine au ?_
     refine bnd hF fun x191 hx192 hF => ?_
     obtain ⟨hp193, hx194⟩ := ix_some hx192
     refine Ai hx194 (fun k195 j196 => ?_)
     refine Al ls3_0 ?_
     iterate 2 refine au ?_
     refine Ci hF (fun hb227 hF => ?_) (fun hb227 hF => ?_)
     · refine au ?_
       obtain ⟨o197, hio197, hO198⟩ := bind_some hF
       refine K_cut (fun f' cs' => ∃ (c217 : Int) (c218 : Int) (c219 : List Int) (v220 : Sv) (F221 : List Nat) (g : Fr), o197 = (c217, c218, c219) ∧ f' = updL g [(0, (pz kq0)), (1, v1_0.v), (4, (pz k1)), (5, (pz k2)), (6, (.int .i64 c122)), (7, (pz k136)), (8, (.int .i64 c182))] ∧ Ent cs' [cbox kq0 116 (.agg [v0_0.v, (.int .i64 c217), (.int .i64 c218)].toArray), crd (RdS 5 rdU8) v0_0.v a_c.b, crd (RdS 3 rdInt) v1_0.v a_s, cbox k1 27 (.agg [(.slice none 0 0), (.slice none 0 0)].toArray), cbox k2 27 (.agg [(.slice none 0 0), v120.v].toArray), cown (OwnS 78 ow78) F121 v120.v c119, cbox k136 78 (.agg [(.int .i64 r133.1), v220.v].toArray), cown (OwnS 3 (roE rdInt)) F221 v220.v c219]) ?_ ?_
       · replace hF := hio197
         refine CW_block (K_region (Cm (pz kq0) rfl rfl ?_))
         refine bnd hF fun r199 hx200 hF => Cx1 (s_l1Below_ok _ _ _ _ _ hx200) (fun p201 => ?_)
         iterate 6 refine au ?_
         refine bnd hF fun r202 hx203 hF => Cx1 (s_l1Once_ok _ _ _ _ _ hx203) (fun p204 => ?_)
         refine au ?_
         refine Ci hF (fun hb216 hF => ?_) (fun hb216 hF => ?_)
         · iterate 2 refine au ?_
           refine bnd hF fun r205 hx206 hF => Cx1 (s_l1Below_ok _ _ _ _ _ hx206) (fun p207 => ?_)
           iterate 6 refine au ?_
           refine C_new rfl (N_buildSliceT (g := true) sl24.h ty3.h (.cons (.tmp rfl rfl) .nil) (vs := [(.int .i64 r205.1)]) rfl rfl rfl (by intro v hv; simp at hv; rcases hv with rfl <;> rfl)) (fun k208 => ?_)
           refine Cv1 (.cons .h .nil) (own_lit (Ro := (roE rdInt)) (E := 3) (F := ([] ++ [])) (xs := ([r205.1] : List Int)) (MkL_cons (Mk_pure (fun _ => rfl)) MkL_nil apps) rfl rfl) ?_
           refine bnd hF fun z209 hx210 hF => C_x1 (.cons (.t (.t (.t (.t (.t (.t (.t (.t (.t .h))))))))) (.cons .h .nil)) (X_appendO (Ro := (roE rdInt)) sl24.h ni24 ty3.h rfl rfl rfl (.tmp rfl rfl) (.tmp rfl rfl) hx210 src_own) (fun p211 => ?_)
           refine au ?_
           refine As (.agg [(.int .i64 r133.1), p211.1.v].toArray) ?_
           refine au ?_
           cases hF
           exact ⟨_, _, _, p211.1, p211.2, _, rfl, eqA, entA⟩
         iterate 5 refine au ?_
         refine C_new rfl (N_buildSliceT (g := true) sl24.h ty3.h (.cons (.tmp rfl rfl) .nil) (vs := [(.int .i64 (IntKind.i64.wrap (10 + r199.1)))]) rfl rfl rfl (by intro v hv; simp at hv; rcases hv with rfl <;> rfl)) (fun k212 => ?_)
         refine Cv1 (.cons .h .nil) (own_lit (Ro := (roE rdInt)) (E := 3) (F := ([] ++ [])) (xs := ([(IntKind.i64.wrap (10 + r199.1))] : List Int)) (MkL_cons (Mk_pure (fun _ => rfl)) MkL_nil apps) rfl rfl) ?_
         refine bnd hF fun z213 hx214 hF => C_x1 (.cons (.t (.t (.t (.t (.t (.t (.t (.t (.t .h))))))))) (.cons .h .nil)) (X_appendO (Ro := (roE rdInt)) sl24.h ni24 ty3.h rfl rfl rfl (.tmp rfl rfl) (.tmp rfl rfl) hx214 src_own) (fun p215 => ?_)
         refine au ?_
         refine As (.agg [(.int .i64 r133.1), p215.1.v].toArray) ?_
         refine au ?_
         cases hF
         exact ⟨_, _, _, p215.1, p215.2, _, rfl, eqA, entA⟩
       rintro _ _ ⟨c217, c218, c219, v220, F221, g222, rfl, rfl, hE⟩
       replace hF := hO198
       try dsimp only at hF
       refine K_ent hE ?_
       iterate 5 refine au ?_
       exact ⟨m183, Nat.lt_succ_self _, _, _, _, _, _, v220, F221, eqA, entA, hF⟩
     iterate 8 refine au ?_
     refine C_new rfl (N_buildSliceT (g := true) sl25.h ty78.h (.cons (.tmp rfl rfl) .nil) (vs := [(.agg [(.int .i64 r133.1), v180.v].toArray)]) rfl rfl rfl (by intro v hv; simp at hv; rcases hv with rfl <;> rfl)) (fun k223 => ?_)
     refine Cv1 (.cons .h (.cons (.t (.t (.t (.t (.t (.t (.t (.t .h)))))))) .nil)) (own_lit (Ro := ow78) (E := 78) (F := (F181 ++ [])) (xs := ([({ Rel := r133.1, Terms := c179 } : Atom)] : List Atom)) (MkL_cons (mk78 (a := ({ Rel := r133.1, Terms := c179 } : Atom))) MkL_nil apps) rfl rfl) ?_
     refine bnd hF fun z224 hx225 hF => C_x1 (.cons (.t (.t (.t (.t (.t (.t (.t .h))))))) (.cons .h .nil)) (X_appendO (Ro := ow78) sl25.h ni25 ty78.h rfl rfl rfl (.tmp rfl rfl) (.tmp rfl rfl) hx225 src_own) (fun p226 => ?_)
     refine au ?_
     refine As (.agg [(.slice none 0 0), p226.1.v].toArray) ?_
     refine au ?_
     cases hF
     exact ⟨_, _, _, p226.1, p226.2, _, rfl, eqA, entA⟩
   rintro _ _ ⟨c228, c229, c230, v231, F232, g233, rfl, rfl, hE⟩
   replace hF := hO132
   try dsimp only at hF
   refine K_ent hE ?_
   iterate 5 refine au ?_
   exact ⟨m123, Nat.lt_succ_self _, _, _, _, _, _, v231, F232, eqA, entA, hF⟩
 iterate 6 refine au ?_
 refine Cv1 .nil (rd_nil (R := rdInt) (E := 3)) ?_
 refine bnd hF fun r234 hx235 hF => C_x2 (.cons (.t (.t (.t (.t (.t (.t .h)))))) (.rd .h rfl .nil)) (XC_bor frz_own (fun _ => (.cons .nil)) (XC_pre (.rd (.t .h) rfl (.rd .h rfl .nil)) (X_callS cf53.h (.cons (.tmp rfl rfl) .nil) (s_VarsOf_ok ({ Head := [], Atoms := c119 } : Query) (⟨none, 0, 0⟩) v120 _ hx235)))) (fun p236 => ?_)
 iterate 6 refine au ?_
 refine CW_block (CW_loop (m := (((r234.length : Int) - 0).toNat + 2)) (fun m321 f' cs' => ∃ (g : Fr) (c313 : Int) (c314 : Int) (c315 : List Int) (c318 : List Int) (c320 : Int) (v316 : Sv) (F317 : List Nat) (v319 : Sv), f' = updL g [(0, (pz kq0)), (4, (pz k1)), (5, (pz k2)), (10, v319.v), (11, (.int .i64 c320))] ∧ Ent cs' [cbox kq0 116 (.agg [v0_0.v, (.int .i64 c313), (.int .i64 c314)].toArray), crd (RdS 5 rdU8) v0_0.v a_c.b, cbox k1 27 (.agg [(.slice none 0 0), (.slice none 0 0)].toArray), cbox k2 27 (.agg [v316.v, v120.v].toArray), cown (OwnS 3 (roE rdInt)) F317 v316.v c315, cown (OwnS 78 ow78) F121 v120.v c119, crd (RdS 3 rdInt) v319.v c318] ∧ s_l3Query_L4 a_c c119 m321 c313 c314 c315 c318 c320 = some R) ⟨_, _, _, _, _, _, ⟨none, 0, 0⟩, [], p236.1, eqA, (.conv .nil (own_nil (Ro := (roE rdInt)) (E := 3)) (.cons .nil) (.frz (.t (.t .h)) frz_own entA)), hF⟩ ?_)
 rintro m321 _ _ ⟨g322, c313, c314, c315, c318, c320, v316, F317, v319, rfl, hE, hF⟩
 refine K_ent hE ?_
 rcases m321 with _ | m321
 · rw [s_l3Query_L4] at hF
   exact absurd hF (by simp)
 rw [s_l3Query_L4] at hF
 iterate 2 refine au ?_
 refine C_cut (fun f' cs' => ∃ (g : Fr), f' = updL g [(0, (pz kq0)), (4, (pz k1)), (5, (pz k2)), (10, v319.v), (11, (.int .i64 c320)), (64, (.bool ((decide ((c320 : Int) < (c318.length : Int))) && (decide (((c315.length : Int) : Int) < 2)))))] ∧ Ent cs' [cbox kq0 116 (.agg [v0_0.v, (.int .i64 c313), (.int .i64 c314)].toArray), crd (RdS 5 rdU8) v0_0.v a_c.b, cbox k1 27 (.agg [(.slice none 0 0), (.slice none 0 0)].toArray), cbox k2 27 (.agg [v316.v, v120.v].toArray), cown (OwnS 3 (roE rdInt)) F317 v316.v c315, cown (OwnS 78 ow78) F121 v120.v c119, crd (RdS 3 rdInt) v319.v c318]) ?_ ?_
 · iterate 5 refine au ?_
   rcases Bool.eq_false_or_eq_true (decide ((c320 : Int) < (c318.length : Int))) with hg329 | hg329
   · rw [hg329]
     try rw [hg329] at hF; dsimp only [cond_true, cond_false] at hF
     iterate 10 refine au ?_
     exact ⟨_, eqA, entA⟩
   rw [hg329]
   try rw [hg329] at hF; dsimp only [cond_true, cond_false] at hF
   iterate 6 refine au ?_
   exact ⟨_, eqA, entA⟩
 rintro _ _ ⟨g330, rfl, hE⟩
 refine K_ent hE ?_
 refine Ci hF (fun hb353 hF => ?_) (fun hb353 hF => ?_)
 · refine au ?_
   obtain ⟨o331, hio331, hO332⟩ := bind_some hF
   refine K_cut (fun f' cs' => ∃ (c347 : Int) (c348 : Int) (c349 : List Int) (v350 : Sv) (F351 : List Nat) (g : Fr), o331 = (c347, c348, c349) ∧ f' = updL g [(0, (pz kq0)), (4, (pz k1)), (5, (pz k2)), (10, v319.v), (11, (.int .i64 c320))] ∧ Ent cs' [cbox kq0 116 (.agg [v0_0.v, (.int .i64 c347), (.int .i64 c348)].toArray), crd (RdS 5 rdU8) v0_0.v a_c.b, cbox k1 27 (.agg [(.slice none 0 0), (.slice none 0 0)].toArray), cbox k2 27 (.agg [v350.v, v120.v].toArray), cown (OwnS 3 (roE rdInt)) F351 v350.v c349, cown (OwnS 78 ow78) F121 v120.v c119, crd (RdS 3 rdInt) v319.v c318]) ?_ ?_
   · replace hF := hio331
     refine CW_block (K_region (Cm (pz kq0) rfl rfl ?_))
     refine bnd hF fun r333 hx334 hF => Cx1 (s_l1Once_ok _ _ _ _ _ hx334) (fun p335 => ?_)
     refine au ?_
     refine Ci hF (fun hb346 hF => ?_) (fun hb346 hF => ?_)
     · refine CW_draw [0, 1, 2, 3, 4, 5, 6, 7, 8, 9] [0, 1, 0, 0, 12, 28, 60, 127, 255, 511] [7, 9] mixed (by decide +kernel) ?_
       refine du ?_
       refine D_atO rfl .no (.t (.t (.t .h))) (fun ha hp => V_load (v := v316.v) ag24.h (EN ha (.tmp rfl rfl) rfl) hp.2 rfl rfl) ?_
       iterate 2 refine du ?_
       refine bnd hF fun x336 hx337 hF => ?_
       obtain ⟨hp338, hx339⟩ := ix_some hx337
       refine Di hx339 (fun k340 j341 => ?_)
       refine Dl ls3_0 ?_
       refine D_new rfl .no rfl (fun ha => N_buildSliceT (g := true) (len := 1) (parts := [(0, .tmp 74)]) sl24.h ty3.h (.cons (EN ha (.tmp rfl rfl) rfl) .nil) (vs := [(.int .i64 x336)]) rfl rfl rfl (by intro v hv; simp at hv; rcases hv with rfl <;> rfl)) (fun k342 => ?_)
       refine Dv1 (.cons .h .nil) (own_lit (Ro := (roE rdInt)) (E := 3) (F := ([] ++ [])) (xs := ([x336] : List Int)) (MkL_cons (Mk_pure (fun _ => rfl)) MkL_nil apps) rfl rfl) ?_
       refine bnd hF fun z343 hx344 hF => D_act1 rfl rfl .no (.cons (.t (.t (.t (.t (.t (.t .h)))))) (.cons .h .nil)) (.dep rfl (.dep rfl .nil)) (fun ha => X_appendO (Ro := (roE rdInt)) sl24.h ni24 ty3.h rfl rfl rfl (EN ha (.tmp rfl rfl) rfl) (EN ha (.tmp rfl rfl) rfl) hx344 src_own) (fun p345 => ?_)
       refine du ?_
       refine D_act1 rfl rfl .no (.cons (.t (.t (.t (.t (.t .h))))) .nil) (.dep rfl (.dep rfl .nil)) (fun ha => X_storeB (e' := (.agg [p345.1.v, v120.v].toArray)) ty24.h.sz (EN ha (.tmp rfl rfl) rfl) (EN ha (.tmp rfl rfl) rfl) rfl rfl rfl rfl rfl) (fun _ => ?_)
       refine du ?_
       cases hF
       exact ⟨_, _, _, p345.1, p345.2, _, rfl, eqA, entA⟩
     refine au ?_
     cases hF
     exact ⟨_, _, _, v316, F317, _, rfl, eqA, entA⟩
   rintro _ _ ⟨c347, c348, c349, v350, F351, g352, rfl, rfl, hE⟩
   replace hF := hO332
   try dsimp only at hF
   refine K_ent hE ?_
   iterate 5 refine au ?_
   exact ⟨m321, Nat.lt_succ_self _, _, _, _, _, _, _, v350, F351, v319, eqA, entA, hF⟩
 iterate 6 refine au ?_
 refine As (.agg [v316.v, v120.v].toArray) ?_
 iterate 2 refine au ?_
 cases hF
 exact Er (v316, F317, v120, F121)
def s_l2Fact_L1 (a_c : l1Cur) (a_s : List Int) (a_wide : Int) (r2 : Int × l1Cur) : Nat → Int → Int → (List Int) → Int → Option (Fact × l1Cur)
 | 0, _, _, _, _ => none
 | m34 + 1, c28, c29, c30, c33 => (ix a_s r2.1).bind fun x42 =>
   if (decide ((c33 : Int) < x42)) then (
     (s_l1Below ({ b := a_c.b, i := c28, h := c29 } : l1Cur) a_wide).bind fun r48 =>
     (app c30 ([r48.1] : List Int)).bind fun z52 =>
     s_l2Fact_L1 a_c a_s a_wide r2 m34 r48.2.i r48.2.h z52 (IntKind.i64.wrap (c33 + 1)))
   else (
     some (({ Rel := r2.1, Values := c30 } : Fact), ({ b := a_c.b, i := c28, h := c29 } : l1Cur)))
def s_l2Fact (fuel : Nat) (a_c : l1Cur) (a_s : List Int) (a_wide : Int) : Option (Fact × l1Cur) :=
 (s_l1Below a_c (a_s.length : Int)).bind fun r2 =>
 s_l2Fact_L1 a_c a_s a_wide r2 fuel r2.2.i r2.2.h ([] : List Int) 0
theorem s_l2Fact_ok (fuel : Nat) (kq0 : Nat) (a_c : l1Cur) (v0_0 : Sv) (a_s : List Int) (v1_0 : Sv) (a_wide : Int) (R : Fact × l1Cur) (hF : s_l2Fact fuel a_c a_s a_wide = some R) :
   Fw.Spec Tryz.prog 145 [(.pointer (some ⟨kq0, 0, some 0⟩)), v1_0.v, (.int .i64 a_wide)] [cbox kq0 116 (.agg [v0_0.v, (.int .i64 a_c.i), (.int .i64 a_c.h)].toArray), crd (RdS 5 rdU8) v0_0.v a_c.b, crd (RdS 3 rdInt) v1_0.v a_s] (fun p : Sv × List Nat => (.agg [(.int .i64 R.1.Rel), p.1.v].toArray)) (fun p => [cown (OwnS 3 (roE rdInt)) p.2 p.1.v R.1.Values, cbox kq0 116 (.agg [v0_0.v, (.int .i64 R.2.i), (.int .i64 R.2.h)].toArray)]) := by
 refine Spec_enter (n := 34) Tryz.func145 rfl rfl (rs := [.cell 6 58]) rfl rfl rfl ?_
 intro H0 F0
 unfold s_l2Fact at hF
 refine K_region (C_new rfl (N_allocT (g := true) ty58.h rfl rfl) (fun k1 => ?_))
 refine C_nil (K_region (Cm (.pointer (some ⟨kq0, 0, some 0⟩)) rfl rfl ?_))
 refine Cm v1_0.v rfl rfl ?_
 refine C_at (.t (.t (.t .h))) (fun hp => V_lenR (l := a_s.length) sl24.h (.tmp rfl rfl) (crd_len hp)) ?_
 obtain ⟨r2, hx3, hF⟩ := bind_some hF
 refine C_x1 (.cons (.t .h) (.rd (.t .h) rfl .nil)) (X_callS cf75.h (.cons (.tmp rfl rfl) (.cons (.tmp rfl rfl) .nil)) (s_l1Below_ok kq0 a_c v0_0 (a_s.length : Int) _ hx3)) (fun p4 => ?_)
 refine C_val (V_build ty58.h rfl (vs := [(.int .i64 r2.1)]) (.cons (.tmp rfl rfl) .nil) (cells := [(.int .i64 r2.1), (.slice none 0 0)]) rfl) ?_
 refine C_new rfl (N_allocT (g := true) ty58.h rfl rfl) (fun k5 => ?_)
 refine C_x1 (.cons .h .nil) (X_storeB (e' := (.agg [(.int .i64 r2.1), (.slice none 0 0)].toArray)) (v := (.agg [(.int .i64 r2.1), (.slice none 0 0)].toArray)) ty58.h.sz (.tmp rfl rfl) (.tmp rfl rfl) rfl rfl rfl rfl rfl) (fun _ => ?_)
 refine C_nil (K_in (K_region (C_val (V_assign (v := (.int .i64 0)) (.int _ _)) ?_)))
 refine C_nil (CW_block (CW_loop (m := fuel) (fun m34 f' cs' => ∃ (g : Fr) (c28 : Int) (c29 : Int) (c30 : List Int) (c33 : Int) (v31 : Sv) (F32 : List Nat), f' = updL g [(0, (.pointer (some ⟨kq0, 0, some 0⟩))), (1, v1_0.v), (2, (.int .i64 a_wide)), (6, (.pointer (some ⟨k1, 0, some 0⟩))), (7, (.pointer (some ⟨k5, 0, some 0⟩))), (8, (.int .i64 c33))] ∧ Ent cs' [cbox kq0 116 (.agg [v0_0.v, (.int .i64 c28), (.int .i64 c29)].toArray), crd (RdS 5 rdU8) v0_0.v a_c.b, crd (RdS 3 rdInt) v1_0.v a_s, cbox k1 58 (.agg [(.int .i64 0), (.slice none 0 0)].toArray), cbox k5 58 (.agg [(.int .i64 r2.1), v31.v].toArray), cown (OwnS 3 (roE rdInt)) F32 v31.v c30] ∧ s_l2Fact_L1 a_c a_s a_wide r2 m34 c28 c29 c30 c33 = some R) ⟨_, _, _, _, _, ⟨none, 0, 0⟩, [], (EqL.cons rfl (EqL.cons rfl (EqL.cons rfl (EqL.cons rfl (EqL.cons rfl (EqL.cons rfl (EqL.nil))))))).eq, (.conv .nil (own_nil (Ro := (roE rdInt)) (E := 3)) (.cons .nil) (.sel (.cons (.t (.t .h)) (.rd (.t (.t (.t .h))) rfl (.rd (.t (.t (.t (.t .h)))) rfl (.cons (.t (.t .h)) (.cons (.t .h) (.cons .h .nil)))))))), hF⟩ ?_))
 clear hF
 rintro m34 _ _ ⟨g35, c28, c29, c30, c33, v31, F32, rfl, hE, hF⟩
 refine K_ent hE ?_
 clear hE
 rcases m34 with _ | m34
 · rw [s_l2Fact_L1] at hF
   exact absurd hF (by simp)
 rw [s_l2Fact_L1] at hF
 refine K_in (K_region (Cm (.int .i64 c33) rfl rfl ?_))
 refine Cm v1_0.v rfl rfl ?_
 refine C_val (V_fieldAddr (off := 0) fd58_0.h (.tmp rfl rfl)) ?_
 refine C_at (.t (.t (.t (.t .h)))) (fun hp => V_load (v := (.int .i64 r2.1)) ag3.h (.tmp rfl rfl) hp.2 rfl rfl) ?_
 obtain ⟨x42, hx43, hF⟩ := bind_some hF
 obtain ⟨hp44, hx45⟩ := ix_some hx43
 refine C_idx (a := x42) sl24.h ty3.h.sz (.tmp rfl rfl) (.tmp rfl rfl) (.t (.t .h)) hp44 hx45 (fun k46 j47 => ?_)
 refine C_ldS (w := (.int .i64 x42)) ag3.h (.tmp rfl rfl) .h ls3_0 ?_
 refine C_val (V_lss (i := c33) (j := x42) (.tmp rfl rfl) (.tmp rfl rfl)) ?_
 refine C_nil (CW_cond (b := (decide ((c33 : Int) < x42))) (.tmp rfl rfl) (fun hb55 => ?_) (fun hb55 => ?_))
 · rw [if_pos hb55] at hF
   refine CW_skip (K_block (K_region (Cm (.pointer (some ⟨kq0, 0, some 0⟩)) rfl rfl ?_)))
   refine Cm (.int .i64 a_wide) rfl rfl ?_
   obtain ⟨r48, hx49, hF⟩ := bind_some hF
   refine C_x1 (.cons (.t .h) (.rd (.t .h) rfl .nil)) (X_callS cf75.h (.cons (.tmp rfl rfl) (.cons (.tmp rfl rfl) .nil)) (s_l1Below_ok kq0 ({ b := a_c.b, i := c28, h := c29 } : l1Cur) v0_0 a_wide _ hx49)) (fun p50 => ?_)
   refine Ca (.int .i64 r48.1) rfl rfl ?_
   refine C_nil (CW_region (C_val (V_fieldAddr (off := 1) fd58_1.h (.tmp rfl rfl)) ?_))
   refine C_at (.t (.t (.t (.t (.t .h))))) (fun hp => V_load (v := v31.v) ag24.h (.tmp rfl rfl) hp.2 rfl rfl) ?_
   refine Cm (.int .i64 r48.1) rfl rfl ?_
   refine C_new rfl (N_buildSliceT (g := true) sl24.h ty3.h (.cons (.tmp rfl rfl) .nil) (vs := [(.int .i64 r48.1)]) rfl rfl rfl (by intro v hv; simp at hv; rcases hv with rfl <;> rfl)) (fun k51 => ?_)
   refine C_conv (.cons .h .nil) (own_lit (Ro := (roE rdInt)) (E := 3) (F := ([] ++ [])) (xs := ([r48.1] : List Int)) (MkL_cons (Mk_pure (fun _ => rfl)) MkL_nil apps) rfl rfl) apps ?_
   obtain ⟨z52, hx53, hF⟩ := bind_some hF
   refine C_x1 (.cons (.t (.t (.t (.t (.t (.t (.t .h))))))) (.cons .h .nil)) (X_appendO (Ro := (roE rdInt)) sl24.h ni24 ty3.h rfl rfl rfl (.tmp rfl rfl) (.tmp rfl rfl) hx53 src_own) (fun p54 => ?_)
   refine C_val (V_fieldAddr (off := 1) fd58_1.h (.tmp rfl rfl)) ?_
   refine C_x1 (.cons (.t (.t (.t (.t (.t (.t .h)))))) .nil) (X_storeB (e' := (.agg [(.int .i64 r2.1), p54.1.v].toArray)) ty24.h.sz (.tmp rfl rfl) (.tmp rfl rfl) rfl rfl rfl rfl rfl) (fun _ => ?_)
   refine C_nil (CW_region (Cm (.int .i64 c33) rfl rfl ?_))
   refine C_val (V_add (i := c33) (j := 1) (.tmp rfl rfl) (.int _ _)) ?_
   refine Ca (.int .i64 (IntKind.i64.wrap (c33 + 1))) rfl rfl ?_
   refine C_nil ?_
   exact ⟨m34, Nat.lt_succ_self _, _, _, _, _, _, p54.1, p54.2, (EqL.cons rfl (EqL.cons rfl (EqL.cons rfl (EqL.cons rfl (EqL.cons rfl (EqL.cons rfl (EqL.nil))))))).eq, (.sel (.cons (.t (.t .h)) (.rd (.t (.t (.t .h))) rfl (.rd (.t (.t (.t (.t .h)))) rfl (.cons (.t (.t (.t (.t (.t .h))))) (.cons .h (.cons .h .nil))))))), hF⟩
 rw [if_neg (by rw [hb55]; exact Bool.false_ne_true)] at hF
 refine CW_exit ?_
 iterate 2 refine CThen_exit ?_
 refine CIn_self (K_region (C_at (.t (.t (.t (.t (.t .h))))) (fun hp => V_loadBox ag58.h ty58.h.sz rfl (.tmp rfl rfl) hp.2 rfl) ?_))
 refine C_x1 (.cons (.t (.t (.t (.t .h)))) .nil) (X_storeB (e' := (.agg [(.int .i64 r2.1), v31.v].toArray)) (v := (.agg [(.int .i64 r2.1), v31.v].toArray)) ty58.h.sz (.tmp rfl rfl) (.tmp rfl rfl) rfl rfl rfl rfl rfl) (fun _ => ?_)
 refine C_nil (CW_ret ?_)
 obtain rfl := Option.some.inj hF
 exact End_ret (v31, F32) (.cellA rfl rfl .h rfl ag58.h ty58.h.sz rfl rfl .nil) rfl (.sel (.cons (.t (.t (.t (.t (.t (.t .h)))))) (.cons (.t (.t .h)) .nil)))
def s_CompareFacts_L1 (a_a : Fact) (a_b : Fact) : Nat → Int → Option (Int)
 | 0, _ => none
 | m5 + 1, c4 => if ((decide ((c4 : Int) < (a_a.Values.length : Int))) && (decide ((c4 : Int) < (a_b.Values.length : Int)))) then (
     (ix a_a.Values c4).bind fun x15 =>
     (ix a_b.Values c4).bind fun x21 =>
     if (decide ((x15 : Int) < x21)) then (
       some (-1))
     else (
       (ix a_a.Values c4).bind fun x27 =>
       (ix a_b.Values c4).bind fun x33 =>
       if (decide ((x33 : Int) < x27)) then (
         some 1)
       else (
         s_CompareFacts_L1 a_a a_b m5 (IntKind.i64.wrap (c4 + 1)))))
   else (
     if (decide (((a_a.Values.length : Int) : Int) < (a_b.Values.length : Int))) then (
       some (-1))
     else (
       if (decide (((a_b.Values.length : Int) : Int) < (a_a.Values.length : Int))) then (
         some 1)
       else (
         some 0)))
def s_CompareFacts (a_a : Fact) (a_b : Fact) : Option (Int) :=
 if ((a_a.Rel : Int) != a_b.Rel) then (
   if (decide ((a_a.Rel : Int) < a_b.Rel)) then (
     some (-1))
   else (
     some 1))
 else (
   s_CompareFacts_L1 a_a a_b (((a_a.Values.length : Int) - 0).toNat + 2) 0)
theorem s_CompareFacts_ok (a_a : Fact) (v0_1 : Sv) (a_b : Fact) (v1_1 : Sv) (R : Int) (hF : s_CompareFacts a_a a_b = some R) :
   Fw.Spec Tryz.prog 46 [(.agg [(.int .i64 a_a.Rel), v0_1.v].toArray), (.agg [(.int .i64 a_b.Rel), v1_1.v].toArray)] [crd (RdS 3 rdInt) v0_1.v a_a.Values, crd (RdS 3 rdInt) v1_1.v a_b.Values] (fun _ : Unit => (.int .i64 R)) (fun _ => []) := by
 refine Se 66 Tryz.func46 [.tmp 4] ?_
 intro H0 F0
 unfold s_CompareFacts at hF
 refine au ?_
 refine AbR (fun k1 => ?_)
 refine AbR (fun k2 => ?_)
 iterate 10 refine au ?_
 refine Ci hF (fun hb44 hF => ?_) (fun hb44 hF => ?_)
 · iterate 8 refine au ?_
   refine Ci hF (fun hb3 hF => ?_) (fun hb3 hF => ?_)
   · iterate 4 refine au ?_
     cases hF
     exact Er ()
   iterate 5 refine au ?_
   cases hF
   exact Er ()
 iterate 5 refine au ?_
 refine CW_block (CW_loop (m := (((a_a.Values.length : Int) - 0).toNat + 2)) (fun m5 f' cs' => ∃ (g : Fr) (c4 : Int), f' = updL g [(2, (pz k1)), (3, (pz k2)), (5, (.int .i64 c4))] ∧ Ent cs' [cboR k1 58 (.agg [(.int .i64 a_a.Rel), v0_1.v].toArray), crd (RdS 3 rdInt) v0_1.v a_a.Values, cboR k2 58 (.agg [(.int .i64 a_b.Rel), v1_1.v].toArray), crd (RdS 3 rdInt) v1_1.v a_b.Values] ∧ s_CompareFacts_L1 a_a a_b m5 c4 = some R) ⟨_, _, eqA, entA, hF⟩ ?_)
 rintro m5 _ _ ⟨g6, c4, rfl, hE, hF⟩
 refine K_ent hE ?_
 rcases m5 with _ | m5
 · rw [s_CompareFacts_L1] at hF
   exact absurd hF (by simp)
 rw [s_CompareFacts_L1] at hF
 iterate 2 refine au ?_
 refine C_cut (fun f' cs' => ∃ (g : Fr), f' = updL g [(2, (pz k1)), (3, (pz k2)), (5, (.int .i64 c4)), (27, (.bool ((decide ((c4 : Int) < (a_a.Values.length : Int))) && (decide ((c4 : Int) < (a_b.Values.length : Int))))))] ∧ Ent cs' [cboR k1 58 (.agg [(.int .i64 a_a.Rel), v0_1.v].toArray), crd (RdS 3 rdInt) v0_1.v a_a.Values, cboR k2 58 (.agg [(.int .i64 a_b.Rel), v1_1.v].toArray), crd (RdS 3 rdInt) v1_1.v a_b.Values]) ?_ ?_
 · iterate 6 refine au ?_
   rcases Bool.eq_false_or_eq_true (decide ((c4 : Int) < (a_a.Values.length : Int))) with hg13 | hg13
   · rw [hg13]
     try rw [hg13] at hF; dsimp only [cond_true, cond_false] at hF
     iterate 12 refine au ?_
     exact ⟨_, eqA, entA⟩
   rw [hg13]
   try rw [hg13] at hF; dsimp only [cond_true, cond_false] at hF
   iterate 7 refine au ?_
   exact ⟨_, eqA, entA⟩
 rintro _ _ ⟨g14, rfl, hE⟩
 refine K_ent hE ?_
 refine Ci hF (fun hb43 hF => ?_) (fun hb43 hF => ?_)
 · iterate 3 refine au ?_
   refine K_draw [0, 1, 2, 3, 4, 5, 6, 7, 8, 9, 10] [0, 1, 0, 7, 15, 0, 32, 0, 224, 480, 1023] [] mixed (by decide +kernel) ?_
   iterate 3 refine du ?_
   refine bnd hF fun x15 hx16 hF => ?_
   obtain ⟨hp17, hx18⟩ := ix_some hx16
   refine Di hx18 (fun k19 j20 => ?_)
   refine Dl ls3_0 ?_
   iterate 3 refine du ?_
   refine bnd hF fun x21 hx22 hF => ?_
   obtain ⟨hp23, hx24⟩ := ix_some hx22
   refine Di hx24 (fun k25 j26 => ?_)
   refine Dl ls3_0 ?_
   iterate 2 refine du ?_
   refine Ci hF (fun hb40 hF => ?_) (fun hb40 hF => ?_)
   · iterate 4 refine au ?_
     cases hF
     exact Er ()
   refine au ?_
   refine K_draw [0, 1, 2, 3, 4, 5, 6, 7, 8, 9, 10] [0, 1, 0, 7, 15, 0, 32, 0, 224, 480, 1023] [] mixed (by decide +kernel) ?_
   iterate 3 refine du ?_
   refine bnd hF fun x27 hx28 hF => ?_
   obtain ⟨hp29, hx30⟩ := ix_some hx28
   refine Di hx30 (fun k31 j32 => ?_)
   refine Dl ls3_0 ?_
   iterate 3 refine du ?_
   refine bnd hF fun x33 hx34 hF => ?_
   obtain ⟨hp35, hx36⟩ := ix_some hx34
   refine Di hx36 (fun k37 j38 => ?_)
   refine Dl ls3_0 ?_
   iterate 2 refine du ?_
   refine Ci hF (fun hb39 hF => ?_) (fun hb39 hF => ?_)
   · iterate 4 refine au ?_
     cases hF
     exact Er ()
   iterate 6 refine au ?_
   exact ⟨m5, Nat.lt_succ_self _, _, _, eqA, entA, hF⟩
 iterate 14 refine au ?_
 refine Ci hF (fun hb42 hF => ?_) (fun hb42 hF => ?_)
 · iterate 4 refine au ?_
   cases hF
   exact Er ()
 iterate 11 refine au ?_
 refine Ci hF (fun hb41 hF => ?_) (fun hb41 hF => ?_)
 · iterate 4 refine au ?_
   cases hF
   exact Er ()
 iterate 5 refine au ?_
 cases hF
 exact Er ()
def s_HasFact_L1 (a_f : Fact) : List Fact → Nat → Option (Bool)
 | [], k5 => some false
 | x7 :: rest6, k5 => (s_CompareFacts x7 a_f).bind fun r17 =>
   if ((r17 : Int) == 0) then (
     some true)
   else (
     s_HasFact_L1 a_f rest6 (k5 + 1))
def s_HasFact (a_l : List Fact) (a_f : Fact) : Option (Bool) :=
 s_HasFact_L1 a_f a_l 0
theorem s_HasFact_ok (a_l : List Fact) (v0_0 : Sv) (a_f : Fact) (v1_1 : Sv) (R : Bool) (hF : s_HasFact a_l a_f = some R) :
   Fw.Spec Tryz.prog 29 [v0_0.v, (.agg [(.int .i64 a_f.Rel), v1_1.v].toArray)] [crd (RdS 58 rd58) v0_0.v a_l, crd (RdS 3 rdInt) v1_1.v a_f.Values] (fun _ : Unit => (.bool R)) (fun _ => []) := by
 refine Se 19 Tryz.func29 [.tmp 4] ?_
 intro H0 F0
 unfold s_HasFact at hF
 refine au ?_
 refine AbR (fun k1 => ?_)
 iterate 6 refine au ?_
 refine CW_block (CW_loop (m := a_l.length) (fun m3 f' cs' => ∃ (g : Fr) (k5 : Nat) (rest6 : List Fact), m3 = rest6.length ∧ f' = updL g [(0, v0_0.v), (3, (pz k1)), (5, (.int .i64 (k5 : Int)))] ∧ List.drop k5 a_l = rest6 ∧ Ent cs' [crd (RdS 58 rd58) v0_0.v a_l, cboR k1 58 (.agg [(.int .i64 a_f.Rel), v1_1.v].toArray), crd (RdS 3 rdInt) v1_1.v a_f.Values] ∧ s_HasFact_L1 a_f rest6 k5 = some R) ⟨_, 0, _, rfl, eqA, rfl, entA, hF⟩ ?_)
 rintro m3 _ _ ⟨g4, k5, rest6, rfl, rfl, hd8, hE, hF⟩
 refine Kb hE a_l (fun hbd13 => ?_)
 rcases rest6 with _ | ⟨x7, rest6⟩
 · have hk9 := dn hd8
   rw [s_HasFact_L1] at hF
   iterate 7 refine au ?_
   refine CdF ?_
   iterate 8 refine au ?_
   cases hF
   exact Er ()
 obtain ⟨hk9, hx10, hd11⟩ := drop_cons hd8
 rw [s_HasFact_L1] at hF
 iterate 7 refine au ?_
 refine CdT ?_
 iterate 2 refine au ?_
 refine K_draw [0, 1, 2, 3, 4, 5, 6] [0, 0, 3, 7, 0, 31, 63] [5] mixed (by decide +kernel) ?_
 iterate 2 refine du ?_
 refine Di hx10 (fun k14 j15 => ?_)
 refine DlA1 (ul58_0_58 x7) la58_0_58 (fun p16 => ?_)
 refine du ?_
 refine bnd hF fun r17 hx18 hF => Dx0 (s_CompareFacts_ok _ _ _ _ _ hx18) (fun _ => ?_)
 iterate 2 refine du ?_
 refine Ci hF (fun hb21 hF => ?_) (fun hb21 hF => ?_)
 · iterate 4 refine au ?_
   cases hF
   exact Er ()
 iterate 6 refine au ?_
 rw [wk k5]
 exact ⟨_, Nat.lt_succ_self _, _, k5 + 1, rest6, rfl, eqA, hd11, entA, hF⟩
def s_l2One (a_rel : Int) (a_values : List Int) : Option (Fact) :=
 (app ([] : List Int) a_values).bind fun z3 =>
 some ({ Rel := a_rel, Values := z3 } : Fact)
theorem s_l2One_ok (a_rel : Int) (a_values : List Int) (v1_0 : Sv) (R : Fact) (hF : s_l2One a_rel a_values = some R) :
   Fw.Spec Tryz.prog 103 [(.int .i64 a_rel), v1_0.v] [crd (RdS 3 rdInt) v1_0.v a_values] (fun p : Sv × List Nat => (.agg [(.int .i64 R.Rel), p.1.v].toArray)) (fun p => [cown (OwnS 3 (roE rdInt)) p.2 p.1.v R.Values]) := by
 refine Se 10 Tryz.func103 [.cell 4 58] ?_
 intro H0 F0
 unfold s_l2One at hF
 refine au ?_
 refine AnW (fun k1 => ?_)
 iterate 3 refine au ?_
 refine C_new rfl (N_buildSliceT (g := true) sl24.h ty3.h .nil (vs := []) rfl rfl rfl (by simp)) (fun k2 => ?_)
 refine Cv1 (.cons .h .nil) (own_lit (Ro := (roE rdInt)) (E := 3) (F := []) (xs := ([] : List Int)) MkL_nil rfl rfl) ?_
 refine au ?_
 refine bnd hF fun z3 hx4 hF => C_x1 (.cons .h (.rd (.t .h) rfl .nil)) (X_appendO (Ro := (roE rdInt)) sl24.h ni24 ty3.h rfl rfl rfl (.tmp rfl rfl) (.tmp rfl rfl) hx4 src_rd) (fun p5 => ?_)
 refine C_val (V_build ty58.h rfl (vs := [(.int .i64 a_rel), p5.1.v]) (.cons (.tmp rfl rfl) (.cons (.tmp rfl rfl) .nil)) (cells := [(.int .i64 a_rel), p5.1.v]) rfl) ?_
 refine As (.agg [(.int .i64 a_rel), p5.1.v].toArray) ?_
 iterate 2 refine au ?_
 cases hF
 exact Er (p5.1, p5.2)
def s_AddFact_L1 (a_f : Fact) : List Fact → Nat → (List Fact) → Bool → Option ((List Fact))
 | [], k13, c6, c9 => if (!c9) then (
     (s_l2One a_f.Rel a_f.Values).bind fun r22 =>
     (app c6 ([r22] : List Fact)).bind fun z26 =>
     some z26)
   else (
     some c6)
 | x15 :: rest14, k13, c6, c9 => ((bif (!c9) then ((s_CompareFacts a_f x15).bind fun r38 =>
         some (decide ((r38 : Int) < 0)))
       else (some false)).bind fun o32 =>
     match o32 with
     | c41 => if c41 then (
         (s_l2One a_f.Rel a_f.Values).bind fun r42 =>
         (app c6 ([r42] : List Fact)).bind fun z46 =>
         (s_l2One x15.Rel x15.Values).bind fun r54 =>
         (app z46 ([r54] : List Fact)).bind fun z58 =>
         some (z58, true))
       else (
         (s_l2One x15.Rel x15.Values).bind fun r66 =>
         (app c6 ([r66] : List Fact)).bind fun z70 =>
         some (z70, c9))).bind fun o30 =>
   match o30 with
   | (c75, c78) => s_AddFact_L1 a_f rest14 (k13 + 1) c75 c78
def s_AddFact (a_l : List Fact) (a_f : Fact) : Option ((List Fact)) :=
 (s_HasFact a_l a_f).bind fun r3 =>
 s_AddFact_L1 a_f a_l 0 ([] : List Fact) r3
theorem s_AddFact_ok (a_l : List Fact) (v0_0 : Sv) (a_f : Fact) (v1_1 : Sv) (R : (List Fact)) (hF : s_AddFact a_l a_f = some R) :
   Fw.Spec Tryz.prog 48 [v0_0.v, (.agg [(.int .i64 a_f.Rel), v1_1.v].toArray)] [crd (RdS 58 rd58) v0_0.v a_l, crd (RdS 3 rdInt) v1_1.v a_f.Values] (fun p : Sv × List Nat => p.1.v) (fun p => [cown (OwnS 58 ow58) p.2 p.1.v R]) := by
 refine Se 62 Tryz.func48 [.tmp 4] ?_
 intro H0 F0
 unfold s_AddFact at hF
 refine au ?_
 refine AbR (fun k1 => ?_)
 iterate 3 refine au ?_
 refine C_new rfl (N_buildSliceT (g := true) sl28.h ty58.h .nil (vs := []) rfl rfl rfl (by simp)) (fun k2 => ?_)
 refine Cv1 (.cons .h .nil) (own_lit (Ro := ow58) (E := 58) (F := []) (xs := ([] : List Fact)) MkL_nil rfl rfl) ?_
 iterate 5 refine au ?_
 refine bnd hF fun r3 hx4 hF => Cx0 (s_HasFact_ok _ _ _ _ _ hx4) (fun _ => ?_)
 iterate 6 refine au ?_
 refine CW_block (CW_loop (m := a_l.length) (fun m11 f' cs' => ∃ (g : Fr) (k13 : Nat) (rest14 : List Fact) (c6 : List Fact) (c9 : Bool) (v7 : Sv) (F8 : List Nat), m11 = rest14.length ∧ f' = updL g [(0, v0_0.v), (3, (pz k1)), (5, v7.v), (6, (.bool c9)), (7, (.int .i64 (k13 : Int)))] ∧ List.drop k13 a_l = rest14 ∧ Ent cs' [crd (RdS 58 rd58) v0_0.v a_l, cboR k1 58 (.agg [(.int .i64 a_f.Rel), v1_1.v].toArray), crd (RdS 3 rdInt) v1_1.v a_f.Values, cown (OwnS 58 ow58) F8 v7.v c6] ∧ s_AddFact_L1 a_f rest14 k13 c6 c9 = some R) ⟨_, 0, _, _, _, ⟨(some ⟨k2, 0, none⟩), 0, 1⟩, (k2 :: []), rfl, eqA, rfl, entA, hF⟩ ?_)
 rintro m11 _ _ ⟨g12, k13, rest14, c6, c9, v7, F8, rfl, rfl, hd16, hE, hF⟩
 refine Kb hE a_l (fun hbd21 => ?_)
 rcases rest14 with _ | ⟨x15, rest14⟩
 · have hk17 := dn hd16
   rw [s_AddFact_L1] at hF
   iterate 7 refine au ?_
   refine CdF ?_
   iterate 9 refine au ?_
   refine Ci hF (fun hb29 hF => ?_) (fun hb29 hF => ?_)
   · iterate 6 refine au ?_
     refine bnd hF fun r22 hx23 hF => Cx1 (s_l2One_ok _ _ _ _ hx23) (fun p24 => ?_)
     refine C_new rfl (N_buildSliceT (g := true) sl28.h ty58.h (.cons (.tmp rfl rfl) .nil) (vs := [(.agg [(.int .i64 r22.Rel), p24.1.v].toArray)]) rfl rfl rfl (by intro v hv; simp at hv; rcases hv with rfl <;> rfl)) (fun k25 => ?_)
     refine Cv1 (.cons .h (.cons .h .nil)) (own_lit (Ro := ow58) (E := 58) (F := (p24.2 ++ [])) (xs := ([r22] : List Fact)) (MkL_cons mk58 MkL_nil apps) rfl rfl) ?_
     refine bnd hF fun z26 hx27 hF => C_x1 (.cons (.t (.t (.t (.t .h)))) (.cons .h .nil)) (X_appendO (Ro := ow58) sl28.h ni28 ty58.h rfl rfl rfl (.tmp rfl rfl) (.tmp rfl rfl) hx27 src_own) (fun p28 => ?_)
     iterate 7 refine au ?_
     cases hF
     exact Er (p28.1, p28.2)
   iterate 6 refine au ?_
   cases hF
   exact Er (v7, F8)
 obtain ⟨hk17, hx18, hd19⟩ := drop_cons hd16
 rw [s_AddFact_L1] at hF
 iterate 7 refine au ?_
 refine CdT ?_
 refine au ?_
 obtain ⟨o30, hio30, hO31⟩ := bind_some hF
 refine K_cut (fun f' cs' => ∃ (c75 : List Fact) (c78 : Bool) (v76 : Sv) (F77 : List Nat) (g : Fr), o30 = (c75, c78) ∧ f' = updL g [(0, v0_0.v), (3, (pz k1)), (5, v76.v), (6, (.bool c78)), (7, (.int .i64 (k13 : Int)))] ∧ Ent cs' [crd (RdS 58 rd58) v0_0.v a_l, cboR k1 58 (.agg [(.int .i64 a_f.Rel), v1_1.v].toArray), crd (RdS 3 rdInt) v1_1.v a_f.Values, cown (OwnS 58 ow58) F77 v76.v c75]) ?_ ?_
 · replace hF := hio30
   refine CW_block (K_in ?_)
   obtain ⟨o32, hio32, hO33⟩ := bind_some hF
   refine K_draw [0, 1, 2, 3, 4, 5, 6, 7, 8, 9, 10] [0, 1, 3, 7, 7, 7, 55, 119, 255, 511, 1023] [8] mixed (by decide +kernel) ?_
   refine D_cut (fun f' cs' => ∃ (c41 : Bool) (g : Fr), c41 = o32 ∧ f' = updL g [(0, v0_0.v), (3, (pz k1)), (5, v7.v), (6, (.bool c9)), (7, (.int .i64 (k13 : Int))), (28, (.bool c41))] ∧ Ent cs' [crd (RdS 58 rd58) v0_0.v a_l, cboR k1 58 (.agg [(.int .i64 a_f.Rel), v1_1.v].toArray), crd (RdS 3 rdInt) v1_1.v a_f.Values, cown (OwnS 58 ow58) F8 v7.v c6]) ?_ ?_
   · replace hF := hio32
     iterate 3 refine du ?_
     rcases Bool.eq_false_or_eq_true (!c9) with hg34 | hg34
     · rw [hg34]
       try rw [hg34] at hF; dsimp only [cond_true, cond_false] at hF
       iterate 3 refine du ?_
       refine Di hx18 (fun k35 j36 => ?_)
       refine DlA1 (ul58_0_58 x15) la58_0_58 (fun p37 => ?_)
       refine bnd hF fun r38 hx39 hF => Dx0 (s_CompareFacts_ok _ _ _ _ _ hx39) (fun _ => ?_)
       iterate 3 refine du ?_
       cases hF
       exact ⟨_, _, rfl, eqA, entA⟩
     rw [hg34]
     try rw [hg34] at hF; dsimp only [cond_true, cond_false] at hF
     iterate 9 refine du ?_
     cases hF
     exact ⟨_, _, rfl, eqA, entA⟩
   rintro _ _ ⟨c41, g74, rfl, rfl, hE⟩
   replace hF := hO33
   try dsimp only at hF
   refine K_ent hE ?_
   refine Ci hF (fun hb73 hF => ?_) (fun hb73 hF => ?_)
   · iterate 6 refine au ?_
     refine bnd hF fun r42 hx43 hF => Cx1 (s_l2One_ok _ _ _ _ hx43) (fun p44 => ?_)
     refine C_new rfl (N_buildSliceT (g := true) sl28.h ty58.h (.cons (.tmp rfl rfl) .nil) (vs := [(.agg [(.int .i64 r42.Rel), p44.1.v].toArray)]) rfl rfl rfl (by intro v hv; simp at hv; rcases hv with rfl <;> rfl)) (fun k45 => ?_)
     refine Cv1 (.cons .h (.cons .h .nil)) (own_lit (Ro := ow58) (E := 58) (F := (p44.2 ++ [])) (xs := ([r42] : List Fact)) (MkL_cons mk58 MkL_nil apps) rfl rfl) ?_
     refine bnd hF fun z46 hx47 hF => C_x1 (.cons (.t (.t (.t (.t .h)))) (.cons .h .nil)) (X_appendO (Ro := ow58) sl28.h ni28 ty58.h rfl rfl rfl (.tmp rfl rfl) (.tmp rfl rfl) hx47 src_own) (fun p48 => ?_)
     iterate 5 refine au ?_
     refine CW_draw [0, 1, 2, 3, 4, 5, 6, 7, 8, 9, 10, 11, 12, 13, 14] [0, 0, 0, 6, 14, 30, 0, 0, 192, 448, 960, 2046, 4094, 8191, 16383] [11, 13] mixed (by decide +kernel) ?_
     iterate 3 refine du ?_
     refine Di hx18 (fun k49 j50 => ?_)
     refine du ?_
     refine Dl ls58_0 ?_
     iterate 2 refine du ?_
     refine Di hx18 (fun k51 j52 => ?_)
     refine du ?_
     refine D_ldV (R' := (RdS 3 rdInt)) ag24.h rfl .no (.tmp rfl rfl) rfl .h lv58_1 (fun w53 => ?_)
     refine bnd hF fun r54 hx55 hF => Dx1 (s_l2One_ok _ _ _ _ hx55) (fun p56 => ?_)
     refine D_new rfl .no rfl (fun ha => N_buildSliceT (g := true) (len := 1) (parts := [(0, .tmp 48)]) sl28.h ty58.h (.cons (EN ha (.tmp rfl rfl) rfl) .nil) (vs := [(.agg [(.int .i64 r54.Rel), p56.1.v].toArray)]) rfl rfl rfl (by intro v hv; simp at hv; rcases hv with rfl <;> rfl)) (fun k57 => ?_)
     refine Dv1 (.cons .h (.cons .h .nil)) (own_lit (Ro := ow58) (E := 58) (F := (p56.2 ++ [])) (xs := ([r54] : List Fact)) (MkL_cons mk58 MkL_nil apps) rfl rfl) ?_
     refine bnd hF fun z58 hx59 hF => D_act1 rfl rfl .no (.cons (.t (.t (.t (.t .h)))) (.cons .h .nil)) (.dep rfl .nil) (fun ha => X_appendO (Ro := ow58) sl28.h ni28 ty58.h rfl rfl rfl (EN ha (.tmp rfl rfl) rfl) (EN ha (.tmp rfl rfl) rfl) hx59 src_own) (fun p60 => ?_)
     iterate 2 refine du ?_
     cases hF
     exact ⟨_, _, p60.1, p60.2, _, rfl, eqA, entA⟩
   refine au ?_
   refine CW_draw [0, 1, 2, 3, 4, 5, 6, 7, 8, 9, 10, 11, 12, 13, 14] [0, 0, 0, 6, 14, 30, 0, 0, 192, 448, 960, 2046, 4094, 8191, 16383] [11, 13] mixed (by decide +kernel) ?_
   iterate 3 refine du ?_
   refine Di hx18 (fun k61 j62 => ?_)
   refine du ?_
   refine Dl ls58_0 ?_
   iterate 2 refine du ?_
   refine Di hx18 (fun k63 j64 => ?_)
   refine du ?_
   refine D_ldV (R' := (RdS 3 rdInt)) ag24.h rfl .no (.tmp rfl rfl) rfl .h lv58_1 (fun w65 => ?_)
   refine bnd hF fun r66 hx67 hF => Dx1 (s_l2One_ok _ _ _ _ hx67) (fun p68 => ?_)
   refine D_new rfl .no rfl (fun ha => N_buildSliceT (g := true) (len := 1) (parts := [(0, .tmp 48)]) sl28.h ty58.h (.cons (EN ha (.tmp rfl rfl) rfl) .nil) (vs := [(.agg [(.int .i64 r66.Rel), p68.1.v].toArray)]) rfl rfl rfl (by intro v hv; simp at hv; rcases hv with rfl <;> rfl)) (fun k69 => ?_)
   refine Dv1 (.cons .h (.cons .h .nil)) (own_lit (Ro := ow58) (E := 58) (F := (p68.2 ++ [])) (xs := ([r66] : List Fact)) (MkL_cons mk58 MkL_nil apps) rfl rfl) ?_
   refine bnd hF fun z70 hx71 hF => D_act1 rfl rfl .no (.cons (.t (.t (.t (.t (.t (.t (.t .h))))))) (.cons .h .nil)) (.dep rfl .nil) (fun ha => X_appendO (Ro := ow58) sl28.h ni28 ty58.h rfl rfl rfl (EN ha (.tmp rfl rfl) rfl) (EN ha (.tmp rfl rfl) rfl) hx71 src_own) (fun p72 => ?_)
   iterate 2 refine du ?_
   cases hF
   exact ⟨_, _, p72.1, p72.2, _, rfl, eqA, entA⟩
 rintro _ _ ⟨c75, c78, v76, F77, g80, rfl, rfl, hE⟩
 replace hF := hO31
 try dsimp only at hF
 refine K_ent hE ?_
 iterate 5 refine au ?_
 rw [wk k13]
 exact ⟨_, Nat.lt_succ_self _, _, k13 + 1, rest14, _, _, v76, F77, rfl, eqA, hd19, entA, hF⟩
def s_l2Facts_L1 (a_c : l1Cur) (a_s : List Int) (fuel : Nat) : Nat → Int → Int → (List Fact) → Int → Option ((List Fact) × l1Cur)
 | 0, _, _, _, _ => none
 | m29 + 1, c23, c24, c25, c28 => if (decide ((0 : Int) < c28)) then (
     (s_l2Fact fuel ({ b := a_c.b, i := c23, h := c24 } : l1Cur) a_s 4).bind fun r37 =>
     (s_AddFact c25 r37.1).bind fun r40 =>
     s_l2Facts_L1 a_c a_s fuel m29 r37.2.i r37.2.h r40 (IntKind.i64.wrap (c28 - 1)))
   else (
     some (c25, ({ b := a_c.b, i := c23, h := c24 } : l1Cur)))
def s_l2Facts (fuel : Nat) (a_c : l1Cur) (a_s : List Int) (a_most : Int) : Option ((List Fact) × l1Cur) :=
 (s_l1Below a_c (IntKind.i64.wrap (a_most + 1))).bind fun r2 =>
 s_l2Facts_L1 a_c a_s fuel ((r2.1 - 0).toNat + 2) r2.2.i r2.2.h ([] : List Fact) r2.1
theorem s_l2Facts_ok (fuel : Nat) (kq0 : Nat) (a_c : l1Cur) (v0_0 : Sv) (a_s : List Int) (v1_0 : Sv) (a_most : Int) (R : (List Fact) × l1Cur) (hF : s_l2Facts fuel a_c a_s a_most = some R) :
   Fw.Spec Tryz.prog 92 [(pz kq0), v1_0.v, (.int .i64 a_most)] [cbox kq0 116 (.agg [v0_0.v, (.int .i64 a_c.i), (.int .i64 a_c.h)].toArray), crd (RdS 5 rdU8) v0_0.v a_c.b, crd (RdS 3 rdInt) v1_0.v a_s] (fun p : Sv × List Nat => p.1.v) (fun p => [cown (OwnS 58 ow58) p.2 p.1.v R.1, cbox kq0 116 (.agg [v0_0.v, (.int .i64 R.2.i), (.int .i64 R.2.h)].toArray)]) := by
 refine Se 24 Tryz.func92 [.tmp 6] ?_
 intro H0 F0
 unfold s_l2Facts at hF
 iterate 4 refine au ?_
 refine C_new rfl (N_buildSliceT (g := true) sl28.h ty58.h .nil (vs := []) rfl rfl rfl (by simp)) (fun k1 => ?_)
 refine Cv1 (.cons .h .nil) (own_lit (Ro := ow58) (E := 58) (F := []) (xs := ([] : List Fact)) MkL_nil rfl rfl) ?_
 iterate 7 refine au ?_
 refine bnd hF fun r2 hx3 hF => Cx1 (s_l1Below_ok _ _ _ _ _ hx3) (fun p4 => ?_)
 iterate 2 refine au ?_
 refine CW_block (CW_loop (m := ((r2.1 - 0).toNat + 2)) (fun m29 f' cs' => ∃ (g : Fr) (c23 : Int) (c24 : Int) (c25 : List Fact) (c28 : Int) (v26 : Sv) (F27 : List Nat), f' = updL g [(0, (pz kq0)), (1, v1_0.v), (7, v26.v), (8, (.int .i64 c28))] ∧ Ent cs' [cbox kq0 116 (.agg [v0_0.v, (.int .i64 c23), (.int .i64 c24)].toArray), crd (RdS 5 rdU8) v0_0.v a_c.b, crd (RdS 3 rdInt) v1_0.v a_s, cown (OwnS 58 ow58) F27 v26.v c25] ∧ s_l2Facts_L1 a_c a_s fuel m29 c23 c24 c25 c28 = some R) ⟨_, _, _, _, _, ⟨(some ⟨k1, 0, none⟩), 0, 1⟩, (k1 :: []), eqA, entA, hF⟩ ?_)
 rintro m29 _ _ ⟨g30, c23, c24, c25, c28, v26, F27, rfl, hE, hF⟩
 refine K_ent hE ?_
 rcases m29 with _ | m29
 · rw [s_l2Facts_L1] at hF
   exact absurd hF (by simp)
 rw [s_l2Facts_L1] at hF
 iterate 5 refine au ?_
 refine Ci hF (fun hb43 hF => ?_) (fun hb43 hF => ?_)
 · iterate 6 refine au ?_
   refine bnd hF fun r37 hx38 hF => Cx2 (s_l2Fact_ok _ _ _ _ _ _ _ _ hx38) (fun p39 => ?_)
   refine bnd hF fun r40 hx41 hF => C_x3 (.cons .h (.cons (.t (.t (.t .h))) .nil)) (XC_borL (pre := []) (.cons frz_own (.cons frz_own .nil)) (fun _ => (.cons .nil)) (X_callS cf48.h (.cons (.tmp rfl rfl) (.cons (.tmp rfl rfl) .nil)) (s_AddFact_ok c25 v26 r37.1 p39.1 _ hx41))) (fun p42 => ?_)
   iterate 7 refine au ?_
   exact ⟨m29, Nat.lt_succ_self _, _, _, _, _, _, p42.1, p42.2, eqA, entA, hF⟩
 iterate 9 refine au ?_
 cases hF
 exact Er (v26, F27)
def s_IsSchema_L1 (a_s : List Int) : List Int → Nat → Option (Bool)
 | [], k4 => (s_l1In (a_s.length : Int) 1 3).bind fun r13 =>
   some r13
 | x6 :: rest5, k4 => (s_l1In x6 1 3).bind fun r18 =>
   if (!r18) then (
     some false)
   else (
     s_IsSchema_L1 a_s rest5 (k4 + 1))
def s_IsSchema (a_s : List Int) : Option (Bool) :=
 s_IsSchema_L1 a_s a_s 0
theorem s_IsSchema_ok (a_s : List Int) (v0_0 : Sv) (R : Bool) (hF : s_IsSchema a_s = some R) :
   Fw.Spec Tryz.prog 55 [v0_0.v] [crd (RdS 3 rdInt) v0_0.v a_s] (fun _ : Unit => (.bool R)) (fun _ => []) := by
 refine Se 19 Tryz.func55 [.tmp 2] ?_
 intro H0 F0
 unfold s_IsSchema at hF
 iterate 7 refine au ?_
 refine CW_block (CW_loop (m := a_s.length) (fun m2 f' cs' => ∃ (g : Fr) (k4 : Nat) (rest5 : List Int), m2 = rest5.length ∧ f' = updL g [(0, v0_0.v), (3, (.int .i64 (k4 : Int)))] ∧ List.drop k4 a_s = rest5 ∧ Ent cs' [crd (RdS 3 rdInt) v0_0.v a_s] ∧ s_IsSchema_L1 a_s rest5 k4 = some R) ⟨_, 0, _, rfl, eqA, rfl, entA, hF⟩ ?_)
 rintro m2 _ _ ⟨g3, k4, rest5, rfl, rfl, hd7, hE, hF⟩
 refine Kb hE a_s (fun hbd12 => ?_)
 rcases rest5 with _ | ⟨x6, rest5⟩
 · have hk8 := dn hd7
   rw [s_IsSchema_L1] at hF
   iterate 7 refine au ?_
   refine CdF ?_
   iterate 7 refine au ?_
   refine bnd hF fun r13 hx14 hF => Cx0 (s_l1In_ok _ _ _ _ hx14) (fun _ => ?_)
   iterate 3 refine au ?_
   cases hF
   exact Er ()
 obtain ⟨hk8, hx9, hd10⟩ := drop_cons hd7
 rw [s_IsSchema_L1] at hF
 iterate 7 refine au ?_
 refine CdT ?_
 iterate 5 refine au ?_
 refine Ai hx9 (fun k16 j17 => ?_)
 refine Al ls3_0 ?_
 refine bnd hF fun r18 hx19 hF => Cx0 (s_l1In_ok _ _ _ _ hx19) (fun _ => ?_)
 iterate 2 refine au ?_
 refine Ci hF (fun hb22 hF => ?_) (fun hb22 hF => ?_)
 · iterate 4 refine au ?_
   cases hF
   exact Er ()
 iterate 6 refine au ?_
 rw [wk k4]
 exact ⟨_, Nat.lt_succ_self _, _, k4 + 1, rest5, rfl, eqA, hd10, entA, hF⟩
def s_l1PickInt (a_c : l1Cur) (a_list : List Int) : Option (Int × l1Cur) :=
 (s_l1Below a_c (a_list.length : Int)).bind fun r1 =>
 (ix a_list r1.1).bind fun x4 =>
 some (x4, ({ b := a_c.b, i := r1.2.i, h := r1.2.h } : l1Cur))
theorem s_l1PickInt_ok (kq0 : Nat) (a_c : l1Cur) (v0_0 : Sv) (a_list : List Int) (v1_0 : Sv) (R : Int × l1Cur) (hF : s_l1PickInt a_c a_list = some R) :
   Fw.Spec Tryz.prog 76 [(pz kq0), v1_0.v] [cbox kq0 116 (.agg [v0_0.v, (.int .i64 a_c.i), (.int .i64 a_c.h)].toArray), crd (RdS 5 rdU8) v0_0.v a_c.b, crd (RdS 3 rdInt) v1_0.v a_list] (fun _ : Unit => (.int .i64 R.1)) (fun _ => [cbox kq0 116 (.agg [v0_0.v, (.int .i64 R.2.i), (.int .i64 R.2.h)].toArray)]) := by
 refine Se 12 Tryz.func76 [.tmp 4] ?_
 intro H0 F0
 unfold s_l1PickInt at hF
 iterate 8 refine au ?_
 refine bnd hF fun r1 hx2 hF => Cx1 (s_l1Below_ok _ _ _ _ _ hx2) (fun p3 => ?_)
 refine bnd hF fun x4 hx5 hF => ?_
 obtain ⟨hp6, hx7⟩ := ix_some hx5
 refine Ai hx7 (fun k8 j9 => ?_)
 refine Al ls3_0 ?_
 iterate 3 refine au ?_
 cases hF
 exact Er ()
def s_l3Any (fuel : Nat) (a_c : l1Cur) (a_s : List Int) : Option (Query × l1Cur) :=
 (s_IsSchema a_s).bind fun r5 =>
 if r5 then (
   (s_l3Query fuel a_c a_s).bind fun r8 =>
   (s_l1Below ({ b := a_c.b, i := r8.2.i, h := r8.2.h } : l1Cur) 14).bind fun r11 =>
   if ((r11.1 : Int) == 0) then (
     (s_l1PickInt ({ b := a_c.b, i := r11.2.i, h := r11.2.h } : l1Cur) ([17, 18, 3, (-1)] : List Int)).bind fun r15 =>
     (app r8.1.Head ([r15.1] : List Int)).bind fun z19 =>
     some (({ Head := z19, Atoms := r8.1.Atoms } : Query), ({ b := a_c.b, i := r15.2.i, h := r15.2.h } : l1Cur)))
   else (
     if ((r11.1 : Int) == 1) then (
       (ix r8.1.Atoms 0).bind fun x22 =>
       (s_l1PickInt ({ b := a_c.b, i := r11.2.i, h := r11.2.h } : l1Cur) ([(-1), 9, 17, 18] : List Int)).bind fun r37 =>
       (chk (decide (0 ≤ 0) && decide (0 < (x22.Terms.length : Int)))).bind fun u43 =>
       (some (x22.Terms.set (0 : Int).toNat r37.1)).bind fun z45 =>
       (some (r8.1.Atoms.set (0 : Int).toNat ({ Rel := x22.Rel, Terms := z45 } : Atom))).bind fun z48 =>
       some (({ Head := r8.1.Head, Atoms := z48 } : Query), ({ b := a_c.b, i := r37.2.i, h := r37.2.h } : l1Cur)))
     else (
       if ((r11.1 : Int) == 2) then (
         (s_l1Below ({ b := a_c.b, i := r11.2.i, h := r11.2.h } : l1Cur) 5).bind fun r50 =>
         (ix r8.1.Atoms 0).bind fun x56 =>
         (some (r8.1.Atoms.set (0 : Int).toNat { x56 with Rel := (IntKind.i64.wrap (r50.1 - 1)) })).bind fun z60 =>
         some (({ Head := r8.1.Head, Atoms := z60 } : Query), ({ b := a_c.b, i := r50.2.i, h := r50.2.h } : l1Cur)))
       else (
         some (r8.1, ({ b := a_c.b, i := r11.2.i, h := r11.2.h } : l1Cur))))))
 else (
   (s_l1Below a_c 14).bind fun r65 =>
   if ((r65.1 : Int) == 0) then (
     (s_l1PickInt ({ b := a_c.b, i := r65.2.i, h := r65.2.h } : l1Cur) ([17, 18, 3, (-1)] : List Int)).bind fun r69 =>
     (app ([] : List Int) ([r69.1] : List Int)).bind fun z73 =>
     some (({ Head := z73, Atoms := ([({ Rel := 0, Terms := ([10] : List Int) } : Atom)] : List Atom) } : Query), ({ b := a_c.b, i := r69.2.i, h := r69.2.h } : l1Cur)))
   else (
     if ((r65.1 : Int) == 1) then (
       (ix ([({ Rel := 0, Terms := ([10] : List Int) } : Atom)] : List Atom) 0).bind fun x76 =>
       (s_l1PickInt ({ b := a_c.b, i := r65.2.i, h := r65.2.h } : l1Cur) ([(-1), 9, 17, 18] : List Int)).bind fun r91 =>
       (chk (decide (0 ≤ 0) && decide (0 < (x76.Terms.length : Int)))).bind fun u97 =>
       (some (x76.Terms.set (0 : Int).toNat r91.1)).bind fun z99 =>
       (some (([({ Rel := 0, Terms := ([10] : List Int) } : Atom)] : List Atom).set (0 : Int).toNat ({ Rel := x76.Rel, Terms := z99 } : Atom))).bind fun z102 =>
       some (({ Head := [], Atoms := z102 } : Query), ({ b := a_c.b, i := r91.2.i, h := r91.2.h } : l1Cur)))
     else (
       if ((r65.1 : Int) == 2) then (
         (s_l1Below ({ b := a_c.b, i := r65.2.i, h := r65.2.h } : l1Cur) 5).bind fun r104 =>
         (ix ([({ Rel := 0, Terms := ([10] : List Int) } : Atom)] : List Atom) 0).bind fun x110 =>
         (some (([({ Rel := 0, Terms := ([10] : List Int) } : Atom)] : List Atom).set (0 : Int).toNat { x110 with Rel := (IntKind.i64.wrap (r104.1 - 1)) })).bind fun z114 =>
         some (({ Head := [], Atoms := z114 } : Query), ({ b := a_c.b, i := r104.2.i, h := r104.2.h } : l1Cur)))
       else (
         some (({ Head := [], Atoms := ([({ Rel := 0, Terms := ([10] : List Int) } : Atom)] : List Atom) } : Query), ({ b := a_c.b, i := r65.2.i, h := r65.2.h } : l1Cur))))))
theorem s_l3Any_ok (fuel : Nat) (kq0 : Nat) (a_c : l1Cur) (v0_0 : Sv) (a_s : List Int) (v1_0 : Sv) (R : Query × l1Cur) (hF : s_l3Any fuel a_c a_s = some R) :
   Fw.Spec Tryz.prog 93 [(pz kq0), v1_0.v] [cbox kq0 116 (.agg [v0_0.v, (.int .i64 a_c.i), (.int .i64 a_c.h)].toArray), crd (RdS 5 rdU8) v0_0.v a_c.b, crd (RdS 3 rdInt) v1_0.v a_s] (fun p : Sv × List Nat × Sv × List Nat => (.agg [p.1.v, p.2.2.1.v].toArray)) (fun p => [cown (OwnS 3 (roE rdInt)) p.2.1 p.1.v R.1.Head, cown (OwnS 78 ow78) p.2.2.2 p.2.2.1.v R.1.Atoms, cbox kq0 116 (.agg [v0_0.v, (.int .i64 R.2.i), (.int .i64 R.2.h)].toArray)]) := by
 refine Se 48 Tryz.func93 [.cell 4 27] ?_
 intro H0 F0
 unfold s_l3Any at hF
 refine au ?_
 refine AnW (fun k1 => ?_)
 iterate 2 refine au ?_
 refine C_new rfl (N_buildSliceT (g := true) sl24.h ty3.h (.cons (.int _ _) .nil) (vs := [(.int .i64 10)]) rfl rfl rfl (by intro v hv; simp at hv; rcases hv with rfl <;> rfl)) (fun k2 => ?_)
 refine Cv1 (.cons .h .nil) (own_lit (Ro := (roE rdInt)) (E := 3) (F := ([] ++ [])) (xs := ([10] : List Int)) (MkL_cons (Mk_pure (fun _ => rfl)) MkL_nil apps) rfl rfl) ?_
 refine C_val (V_build ty78.h rfl (vs := [(.slice (some ⟨k2, 0, none⟩) 1 1)]) (.cons (.tmp rfl rfl) .nil) (cells := [(.int .i64 0), (.slice (some ⟨k2, 0, none⟩) 1 1)]) rfl) ?_
 refine C_new rfl (N_buildSliceT (g := true) sl25.h ty78.h (.cons (.tmp rfl rfl) .nil) (vs := [(.agg [(.int .i64 0), (.slice (some ⟨k2, 0, none⟩) 1 1)].toArray)]) rfl rfl rfl (by intro v hv; simp at hv; rcases hv with rfl <;> rfl)) (fun k3 => ?_)
 refine Cv1 (.cons .h (.cons .h .nil)) (own_lit (Ro := ow78) (E := 78) (F := ((k2 :: ([] ++ [])) ++ [])) (xs := ([({ Rel := 0, Terms := ([10] : List Int) } : Atom)] : List Atom)) (MkL_cons (mk78 (v0 := ⟨(some ⟨k2, 0, none⟩), 1, 1⟩) (a := ({ Rel := 0, Terms := ([10] : List Int) } : Atom))) MkL_nil apps) rfl rfl) ?_
 refine C_val (V_build ty27.h rfl (vs := [(.slice (some ⟨k3, 0, none⟩) 1 1)]) (.cons (.tmp rfl rfl) .nil) (cells := [(.slice none 0 0), (.slice (some ⟨k3, 0, none⟩) 1 1)]) rfl) ?_
 refine AnW (fun k4 => ?_)
 refine As (.agg [(.slice none 0 0), (.slice (some ⟨k3, 0, none⟩) 1 1)].toArray) ?_
 iterate 4 refine au ?_
 refine bnd hF fun r5 hx6 hF => Cx0 (s_IsSchema_ok _ _ _ hx6) (fun _ => ?_)
 refine au ?_
 refine Ci hF (fun hb119 hF => ?_) (fun hb119 hF => ?_)
 · iterate 3 refine au ?_
   refine bnd hF fun r8 hx9 hF => Cx3 (s_l3Query_ok _ _ _ _ _ _ _ hx9) (fun p10 => ?_)
   refine As (.agg [p10.1.v, p10.2.2.1.v].toArray) ?_
   iterate 4 refine au ?_
   refine bnd hF fun r11 hx12 hF => Cx1 (s_l1Below_ok _ _ _ _ _ hx12) (fun p13 => ?_)
   refine au ?_
   refine CW_block (K_region (C_val (V_eql (i := r11.1) (j := 0) (.tmp rfl rfl) (.int _ _)) ?_))
   iterate 2 refine au ?_
   refine Ci hF (fun hb64 hF => ?_) (fun hb64 hF => ?_)
   · refine CW_draw [0, 1, 2, 3, 4, 5, 6, 7, 8] [0, 1, 0, 0, 12, 28, 63, 127, 255] [4, 6, 8] mixed (by decide +kernel) ?_
     refine du ?_
     refine D_atO rfl .no (.t .h) (fun ha hp => V_load (v := p10.1.v) ag24.h (EN ha (.tmp rfl rfl) rfl) hp.2 rfl rfl) ?_
     refine du ?_
     refine D_new rfl .no rfl (fun ha => N_buildSliceT (g := true) (len := 4) (parts := [(0, .const (.int .i64 17)), (1, .const (.int .i64 18)), (2, .const (.int .i64 3)), (3, .const (.int .i64 (-1)))]) sl24.h ty3.h (.cons (EN ha (.int _ _) rfl) (.cons (EN ha (.int _ _) rfl) (.cons (EN ha (.int _ _) rfl) (.cons (EN ha (.int _ _) rfl) .nil)))) (vs := [(.int .i64 17), (.int .i64 18), (.int .i64 3), (.int .i64 (-1))]) rfl rfl rfl (by intro v hv; simp at hv; rcases hv with rfl | rfl | rfl | rfl <;> rfl)) (fun k14 => ?_)
     refine Dv1 (.cons .h .nil) (own_lit (Ro := (roE rdInt)) (E := 3) (F := ([] ++ ([] ++ ([] ++ ([] ++ []))))) (xs := ([17, 18, 3, (-1)] : List Int)) (MkL_cons (Mk_pure (fun _ => rfl)) (MkL_cons (Mk_pure (fun _ => rfl)) (MkL_cons (Mk_pure (fun _ => rfl)) (MkL_cons (Mk_pure (fun _ => rfl)) MkL_nil apps) apps) apps) apps) rfl rfl) ?_
     refine bnd hF fun r15 hx16 hF => D_act2 rfl rfl .no (.cons .h (.cons .h (.rd (.t (.t (.t (.t (.t .h))))) rfl .nil))) (.dep rfl (.own .h (fun _ h => h) .nil)) (fun ha => XC_bor frz_own (fun _ => (.cons .nil)) (XC_pre (.cons (.t .h) (.rd (.t .h) rfl (.rd .h rfl .nil))) (X_callS cf76.h (.cons (EN ha (.tmp rfl rfl) rfl) (.cons (EN ha (.tmp rfl rfl) rfl) .nil)) (s_l1PickInt_ok kq0 ({ b := a_c.b, i := r11.2.i, h := r11.2.h } : l1Cur) v0_0 ([17, 18, 3, (-1)] : List Int) (⟨(some ⟨k14, 0, none⟩), 4, 1⟩) _ hx16)))) (fun p17 => ?_)
     refine D_new rfl .no rfl (fun ha => N_buildSliceT (g := true) (len := 1) (parts := [(0, .tmp 23)]) sl24.h ty3.h (.cons (EN ha (.tmp rfl rfl) rfl) .nil) (vs := [(.int .i64 r15.1)]) rfl rfl rfl (by intro v hv; simp at hv; rcases hv with rfl <;> rfl)) (fun k18 => ?_)
     refine Dv1 (.cons .h .nil) (own_lit (Ro := (roE rdInt)) (E := 3) (F := ([] ++ [])) (xs := ([r15.1] : List Int)) (MkL_cons (Mk_pure (fun _ => rfl)) MkL_nil apps) rfl rfl) ?_
     refine bnd hF fun z19 hx20 hF => D_act1 rfl rfl .no (.cons (.t (.t (.t (.t .h)))) (.cons .h .nil)) (.dep rfl (.dep rfl (.dep rfl .nil))) (fun ha => X_appendO (Ro := (roE rdInt)) sl24.h ni24 ty3.h rfl rfl rfl (EN ha (.tmp rfl rfl) rfl) (EN ha (.tmp rfl rfl) rfl) hx20 src_own) (fun p21 => ?_)
     refine du ?_
     refine D_act1 rfl rfl .no (.cons (.t (.t (.t .h))) .nil) (.dep rfl (.dep rfl (.dep rfl .nil))) (fun ha => X_storeB (e' := (.agg [p21.1.v, p10.2.2.1.v].toArray)) ty24.h.sz (EN ha (.tmp rfl rfl) rfl) (EN ha (.tmp rfl rfl) rfl) rfl rfl rfl rfl rfl) (fun _ => ?_)
     refine du ?_
     iterate 2 refine au ?_
     refine As (.agg [p21.1.v, p10.2.2.1.v].toArray) ?_
     iterate 2 refine au ?_
     cases hF
     exact Er (p21.1, p21.2, p10.2.2.1, p10.2.2.2)
   iterate 4 refine au ?_
   refine Ci hF (fun hb63 hF => ?_) (fun hb63 hF => ?_)
   · refine CW_draw [0, 1, 2, 3, 4, 5, 6, 7, 8, 9] [0, 1, 3, 7, 15, 0, 0, 96, 255, 511] [7, 9] mixed (by decide +kernel) ?_
     refine du ?_
     refine D_atO rfl .no (.t .h) (fun ha hp => V_load (v := p10.2.2.1.v) ag25.h (EN ha (.tmp rfl rfl) rfl) hp.2 rfl rfl) ?_
     refine bnd hF fun x22 hx23 hF => ?_
     have hi26 := ix_chk hx23
     obtain ⟨hp24, hx25⟩ := ix_some hx23
     refine D_focus1 (s := 2) un78 hx25 (.t (.t (.t .h))) (fun p27 es28 F29 G30 G31 he32 hl33 => ?_)
     refine D_idxO sl25.h ty78.h.sz rfl .no (.tmp rfl rfl) (.int _ _) rfl rfl .h (idx_len hl33 hi26) (fun k34 hk35 => ?_)
     refine du ?_
     refine D_ldO (w := p27.1.v) ag24.h rfl .no (.tmp rfl rfl) rfl .h hk35 he32 (lo_rawO rfl) ?_
     refine du ?_
     refine D_new rfl .no rfl (fun ha => N_buildSliceT (g := true) (len := 4) (parts := [(0, .const (.int .i64 (-1))), (1, .const (.int .i64 9)), (2, .const (.int .i64 17)), (3, .const (.int .i64 18))]) sl24.h ty3.h (.cons (EN ha (.int _ _) rfl) (.cons (EN ha (.int _ _) rfl) (.cons (EN ha (.int _ _) rfl) (.cons (EN ha (.int _ _) rfl) .nil)))) (vs := [(.int .i64 (-1)), (.int .i64 9), (.int .i64 17), (.int .i64 18)]) rfl rfl rfl (by intro v hv; simp at hv; rcases hv with rfl | rfl | rfl | rfl <;> rfl)) (fun k36 => ?_)
     refine Dv1 (.cons .h .nil) (own_lit (Ro := (roE rdInt)) (E := 3) (F := ([] ++ ([] ++ ([] ++ ([] ++ []))))) (xs := ([(-1), 9, 17, 18] : List Int)) (MkL_cons (Mk_pure (fun _ => rfl)) (MkL_cons (Mk_pure (fun _ => rfl)) (MkL_cons (Mk_pure (fun _ => rfl)) (MkL_cons (Mk_pure (fun _ => rfl)) MkL_nil apps) apps) apps) apps) rfl rfl) ?_
     refine bnd hF fun r37 hx38 hF => D_act2 rfl rfl .no (.cons .h (.cons (.t (.t (.t (.t .h)))) (.rd (.t (.t (.t (.t (.t (.t (.t (.t .h)))))))) rfl .nil))) (.dep rfl (.own .h (fun _ h => h) (.own .h (fun _ h => h) (.own (.t (.t (.t (.t .h)))) (fun _ h => h) .nil)))) (fun ha => XC_bor frz_own (fun _ => (.cons .nil)) (XC_pre (.cons (.t .h) (.rd (.t .h) rfl (.rd .h rfl .nil))) (X_callS cf76.h (.cons (EN ha (.tmp rfl rfl) rfl) (.cons (EN ha (.tmp rfl rfl) rfl) .nil)) (s_l1PickInt_ok kq0 ({ b := a_c.b, i := r11.2.i, h := r11.2.h } : l1Cur) v0_0 ([(-1), 9, 17, 18] : List Int) (⟨(some ⟨k36, 0, none⟩), 4, 1⟩) _ hx38)))) (fun p39 => ?_)
     refine bnd hF fun u43 hx44 hF => ?_
     have hi42 := chk_some hx44
     refine D_idxO sl24.h ty3.h.sz rfl .no (.tmp rfl rfl) (.int _ _) rfl rfl (.t (.t (.t (.t .h)))) hi42 (fun k40 hk41 => ?_)
     refine bnd hF fun z45 hx46 hF => ?_
     replace hx46 := Option.some.inj hx46
     refine D_act1 rfl rfl .no (.cons (.t (.t (.t (.t .h)))) .nil) (.dep rfl (.dep rfl (.dep rfl (.dep rfl (.dep rfl .nil))))) (fun ha => X_storeO (Ro := (roE rdInt)) (a := r37.1) (i := 0) ty3.h.sz rfl (EN ha (.tmp rfl rfl) rfl) (EN ha (.tmp rfl rfl) rfl) hk41 hi42 (Mk_pure (fun _ => rfl)) (fun _ _ _ _ h => by obtain ⟨-, h⟩ := h; cases h; rfl)) (fun F47 => ?_)
     rw [hx46]
     refine bnd hF fun z48 hx49 hF => ?_
     replace hx49 := Option.some.inj hx49
     refine Dv1 (.cons (.t (.t (.t .h))) (.cons (.t (.t (.t .h))) (.cons .h (.cons (.t (.t .h)) .nil)))) (Cv_unfocus (mk78 (a := ({ Rel := x22.Rel, Terms := z45 } : Atom))) he32 hl33) ?_
     rw [hx49]
     refine du ?_
     iterate 2 refine au ?_
     refine As (.agg [p10.1.v, p10.2.2.1.v].toArray) ?_
     iterate 2 refine au ?_
     cases hF
     exact Er (p10.1, p10.2.1, p10.2.2.1, (F29 ++ (G30 ++ (F47 ++ G31))))
   iterate 4 refine au ?_
   refine Ci hF (fun hb62 hF => ?_) (fun hb62 hF => ?_)
   · refine CW_draw [0, 1, 2, 3, 4, 5, 6, 7] [0, 1, 0, 4, 12, 31, 63, 127] [3, 7] mixed (by decide +kernel) ?_
     refine du ?_
     refine D_atO rfl .no (.t .h) (fun ha hp => V_load (v := p10.2.2.1.v) ag25.h (EN ha (.tmp rfl rfl) rfl) hp.2 rfl rfl) ?_
     refine du ?_
     refine bnd hF fun r50 hx51 hF => D_act1 rfl rfl .no (.cons .h (.rd (.t (.t (.t (.t (.t .h))))) rfl .nil)) (.own .h (fun _ h => h) .nil) (fun ha => X_callS cf75.h (.cons (EN ha (.tmp rfl rfl) rfl) (.cons (EN ha (.int _ _) rfl) .nil)) (s_l1Below_ok kq0 ({ b := a_c.b, i := r11.2.i, h := r11.2.h } : l1Cur) v0_0 5 _ hx51)) (fun p52 => ?_)
     refine du ?_
     refine bnd hF fun x56 hx57 hF => ?_
     have hi55 := ix_chk hx57
     obtain ⟨hp58, hx59⟩ := ix_some hx57
     refine D_idxO sl25.h ty78.h.sz rfl .no (.tmp rfl rfl) (.int _ _) rfl rfl (.t (.t (.t .h))) hi55 (fun k53 hk54 => ?_)
     refine du ?_
     refine bnd hF fun z60 hx61 hF => ?_
     replace hx61 := Option.some.inj hx61
     refine D_act1 rfl rfl .no (.cons (.t (.t (.t .h))) .nil) (.dep rfl (.dep rfl .nil)) (fun ha => X_storeF (Ro := ow78) (i := 0) ty3.h.sz rfl (EN ha (.tmp rfl rfl) rfl) (EN ha (.tmp rfl rfl) rfl) hk54 hx59 rfl rfl fsf78_0 (sf78_0 (d := (IntKind.i64.wrap (r50.1 - 1))))) (fun _ => ?_)
     rw [hx61]
     refine du ?_
     iterate 2 refine au ?_
     refine As (.agg [p10.1.v, p10.2.2.1.v].toArray) ?_
     iterate 2 refine au ?_
     cases hF
     exact Er (p10.1, p10.2.1, p10.2.2.1, p10.2.2.2)
   iterate 3 refine au ?_
   refine As (.agg [p10.1.v, p10.2.2.1.v].toArray) ?_
   iterate 2 refine au ?_
   cases hF
   exact Er (p10.1, p10.2.1, p10.2.2.1, p10.2.2.2)
 iterate 4 refine au ?_
 refine bnd hF fun r65 hx66 hF => Cx1 (s_l1Below_ok _ _ _ _ _ hx66) (fun p67 => ?_)
 refine au ?_
 refine CW_block (K_region (C_val (V_eql (i := r65.1) (j := 0) (.tmp rfl rfl) (.int _ _)) ?_))
 iterate 2 refine au ?_
 refine Ci hF (fun hb118 hF => ?_) (fun hb118 hF => ?_)
 · refine CW_draw [0, 1, 2, 3, 4, 5, 6, 7, 8] [0, 1, 0, 0, 12, 28, 63, 127, 255] [4, 6, 8] mixed (by decide +kernel) ?_
   refine du ?_
   refine D_atO rfl .no (.t .h) (fun ha hp => V_load (v := (.slice none 0 0)) ag24.h (EN ha (.tmp rfl rfl) rfl) hp.2 rfl rfl) ?_
   refine du ?_
   refine D_new rfl .no rfl (fun ha => N_buildSliceT (g := true) (len := 4) (parts := [(0, .const (.int .i64 17)), (1, .const (.int .i64 18)), (2, .const (.int .i64 3)), (3, .const (.int .i64 (-1)))]) sl24.h ty3.h (.cons (EN ha (.int _ _) rfl) (.cons (EN ha (.int _ _) rfl) (.cons (EN ha (.int _ _) rfl) (.cons (EN ha (.int _ _) rfl) .nil)))) (vs := [(.int .i64 17), (.int .i64 18), (.int .i64 3), (.int .i64 (-1))]) rfl rfl rfl (by intro v hv; simp at hv; rcases hv with rfl | rfl | rfl | rfl <;> rfl)) (fun k68 => ?_)
   refine Dv1 (.cons .h .nil) (own_lit (Ro := (roE rdInt)) (E := 3) (F := ([] ++ ([] ++ ([] ++ ([] ++ []))))) (xs := ([17, 18, 3, (-1)] : List Int)) (MkL_cons (Mk_pure (fun _ => rfl)) (MkL_cons (Mk_pure (fun _ => rfl)) (MkL_cons (Mk_pure (fun _ => rfl)) (MkL_cons (Mk_pure (fun _ => rfl)) MkL_nil apps) apps) apps) apps) rfl rfl) ?_
   refine bnd hF fun r69 hx70 hF => D_act2 rfl rfl .no (.cons .h (.cons .h (.rd (.t (.t (.t .h))) rfl .nil))) (.dep rfl (.own .h (fun _ h => h) .nil)) (fun ha => XC_bor frz_own (fun _ => (.cons .nil)) (XC_pre (.cons (.t .h) (.rd (.t .h) rfl (.rd .h rfl .nil))) (X_callS cf76.h (.cons (EN ha (.tmp rfl rfl) rfl) (.cons (EN ha (.tmp rfl rfl) rfl) .nil)) (s_l1PickInt_ok kq0 ({ b := a_c.b, i := r65.2.i, h := r65.2.h } : l1Cur) v0_0 ([17, 18, 3, (-1)] : List Int) (⟨(some ⟨k68, 0, none⟩), 4, 1⟩) _ hx70)))) (fun p71 => ?_)
   refine D_new rfl .no rfl (fun ha => N_buildSliceT (g := true) (len := 1) (parts := [(0, .tmp 23)]) sl24.h ty3.h (.cons (EN ha (.tmp rfl rfl) rfl) .nil) (vs := [(.int .i64 r69.1)]) rfl rfl rfl (by intro v hv; simp at hv; rcases hv with rfl <;> rfl)) (fun k72 => ?_)
   refine Dv1 (.cons .h .nil) (own_lit (Ro := (roE rdInt)) (E := 3) (F := ([] ++ [])) (xs := ([r69.1] : List Int)) (MkL_cons (Mk_pure (fun _ => rfl)) MkL_nil apps) rfl rfl) ?_
   refine Dv1 .nil (own_nil (Ro := (roE rdInt)) (E := 3)) ?_
   refine bnd hF fun z73 hx74 hF => D_act1 rfl rfl .no (.cons .h (.cons .h .nil)) (.dep rfl (.dep rfl (.dep rfl .nil))) (fun ha => X_appendO (Ro := (roE rdInt)) sl24.h ni24 ty3.h rfl rfl rfl (EN ha (.tmp rfl rfl) rfl) (EN ha (.tmp rfl rfl) rfl) hx74 src_own) (fun p75 => ?_)
   refine du ?_
   refine D_act1 rfl rfl .no (.cons (.t (.t (.t .h))) .nil) (.dep rfl (.dep rfl (.dep rfl .nil))) (fun ha => X_storeB (e' := (.agg [p75.1.v, (.slice (some ⟨k3, 0, none⟩) 1 1)].toArray)) ty24.h.sz (EN ha (.tmp rfl rfl) rfl) (EN ha (.tmp rfl rfl) rfl) rfl rfl rfl rfl rfl) (fun _ => ?_)
   refine du ?_
   iterate 2 refine au ?_
   refine As (.agg [p75.1.v, (.slice (some ⟨k3, 0, none⟩) 1 1)].toArray) ?_
   iterate 2 refine au ?_
   cases hF
   exact Er (p75.1, p75.2, ⟨(some ⟨k3, 0, none⟩), 1, 1⟩, (k3 :: ((k2 :: ([] ++ [])) ++ [])))
 iterate 4 refine au ?_
 refine Ci hF (fun hb117 hF => ?_) (fun hb117 hF => ?_)
 · refine CW_draw [0, 1, 2, 3, 4, 5, 6, 7, 8, 9] [0, 1, 3, 7, 15, 0, 0, 96, 255, 511] [7, 9] mixed (by decide +kernel) ?_
   refine du ?_
   refine D_atO rfl .no (.t .h) (fun ha hp => V_load (v := (.slice (some ⟨k3, 0, none⟩) 1 1)) ag25.h (EN ha (.tmp rfl rfl) rfl) hp.2 rfl rfl) ?_
   refine bnd hF fun x76 hx77 hF => ?_
   have hi80 := ix_chk hx77
   obtain ⟨hp78, hx79⟩ := ix_some hx77
   refine D_focus1 (s := 2) un78 hx79 (.t (.t .h)) (fun p81 es82 F83 G84 G85 he86 hl87 => ?_)
   refine D_idxO sl25.h ty78.h.sz rfl .no (.tmp rfl rfl) (.int _ _) rfl rfl .h (idx_len hl87 hi80) (fun k88 hk89 => ?_)
   refine du ?_
   refine D_ldO (w := p81.1.v) ag24.h rfl .no (.tmp rfl rfl) rfl .h hk89 he86 (lo_rawO rfl) ?_
   refine du ?_
   refine D_new rfl .no rfl (fun ha => N_buildSliceT (g := true) (len := 4) (parts := [(0, .const (.int .i64 (-1))), (1, .const (.int .i64 9)), (2, .const (.int .i64 17)), (3, .const (.int .i64 18))]) sl24.h ty3.h (.cons (EN ha (.int _ _) rfl) (.cons (EN ha (.int _ _) rfl) (.cons (EN ha (.int _ _) rfl) (.cons (EN ha (.int _ _) rfl) .nil)))) (vs := [(.int .i64 (-1)), (.int .i64 9), (.int .i64 17), (.int .i64 18)]) rfl rfl rfl (by intro v hv; simp at hv; rcases hv with rfl | rfl | rfl | rfl <;> rfl)) (fun k90 => ?_)
   refine Dv1 (.cons .h .nil) (own_lit (Ro := (roE rdInt)) (E := 3) (F := ([] ++ ([] ++ ([] ++ ([] ++ []))))) (xs := ([(-1), 9, 17, 18] : List Int)) (MkL_cons (Mk_pure (fun _ => rfl)) (MkL_cons (Mk_pure (fun _ => rfl)) (MkL_cons (Mk_pure (fun _ => rfl)) (MkL_cons (Mk_pure (fun _ => rfl)) MkL_nil apps) apps) apps) apps) rfl rfl) ?_
   refine bnd hF fun r91 hx92 hF => D_act2 rfl rfl .no (.cons .h (.cons (.t (.t (.t (.t .h)))) (.rd (.t (.t (.t (.t (.t (.t .h)))))) rfl .nil))) (.dep rfl (.own .h (fun _ h => h) (.own .h (fun _ h => h) (.own (.t (.t (.t (.t .h)))) (fun _ h => h) .nil)))) (fun ha => XC_bor frz_own (fun _ => (.cons .nil)) (XC_pre (.cons (.t .h) (.rd (.t .h) rfl (.rd .h rfl .nil))) (X_callS cf76.h (.cons (EN ha (.tmp rfl rfl) rfl) (.cons (EN ha (.tmp rfl rfl) rfl) .nil)) (s_l1PickInt_ok kq0 ({ b := a_c.b, i := r65.2.i, h := r65.2.h } : l1Cur) v0_0 ([(-1), 9, 17, 18] : List Int) (⟨(some ⟨k90, 0, none⟩), 4, 1⟩) _ hx92)))) (fun p93 => ?_)
   refine bnd hF fun u97 hx98 hF => ?_
   have hi96 := chk_some hx98
   refine D_idxO sl24.h ty3.h.sz rfl .no (.tmp rfl rfl) (.int _ _) rfl rfl (.t (.t (.t (.t .h)))) hi96 (fun k94 hk95 => ?_)
   refine bnd hF fun z99 hx100 hF => ?_
   replace hx100 := Option.some.inj hx100
   refine D_act1 rfl rfl .no (.cons (.t (.t (.t (.t .h)))) .nil) (.dep rfl (.dep rfl (.dep rfl (.dep rfl (.dep rfl .nil))))) (fun ha => X_storeO (Ro := (roE rdInt)) (a := r91.1) (i := 0) ty3.h.sz rfl (EN ha (.tmp rfl rfl) rfl) (EN ha (.tmp rfl rfl) rfl) hk95 hi96 (Mk_pure (fun _ => rfl)) (fun _ _ _ _ h => by obtain ⟨-, h⟩ := h; cases h; rfl)) (fun F101 => ?_)
   rw [hx100]
   refine bnd hF fun z102 hx103 hF => ?_
   replace hx103 := Option.some.inj hx103
   refine Dv1 (.cons (.t (.t (.t .h))) (.cons (.t (.t (.t .h))) (.cons .h (.cons (.t (.t .h)) .nil)))) (Cv_unfocus (mk78 (a := ({ Rel := x76.Rel, Terms := z99 } : Atom))) he86 hl87) ?_
   rw [hx103]
   refine du ?_
   iterate 2 refine au ?_
   refine As (.agg [(.slice none 0 0), (.slice (some ⟨k3, 0, none⟩) 1 1)].toArray) ?_
   iterate 2 refine au ?_
   cases hF
   exact End_ret (⟨none, 0, 0⟩, [], ⟨(some ⟨k3, 0, none⟩), 1, 1⟩, (F83 ++ (G84 ++ (F101 ++ G85)))) (.cellA rfl rfl .h rfl ag27.h ty27.h.sz rfl rfl .nil) rfl (.conv .nil (own_nil (Ro := (roE rdInt)) (E := 3)) (.cons .nil) (.sel (.cons .h (.cons (.t .h) (.cons (.t (.t .h)) .nil)))))
 iterate 4 refine au ?_
 refine Ci hF (fun hb116 hF => ?_) (fun hb116 hF => ?_)
 · refine CW_draw [0, 1, 2, 3, 4, 5, 6, 7] [0, 1, 0, 4, 12, 31, 63, 127] [3, 7] mixed (by decide +kernel) ?_
   refine du ?_
   refine D_atO rfl .no (.t .h) (fun ha hp => V_load (v := (.slice (some ⟨k3, 0, none⟩) 1 1)) ag25.h (EN ha (.tmp rfl rfl) rfl) hp.2 rfl rfl) ?_
   refine du ?_
   refine bnd hF fun r104 hx105 hF => D_act1 rfl rfl .no (.cons .h (.rd (.t (.t (.t .h))) rfl .nil)) (.own .h (fun _ h => h) .nil) (fun ha => X_callS cf75.h (.cons (EN ha (.tmp rfl rfl) rfl) (.cons (EN ha (.int _ _) rfl) .nil)) (s_l1Below_ok kq0 ({ b := a_c.b, i := r65.2.i, h := r65.2.h } : l1Cur) v0_0 5 _ hx105)) (fun p106 => ?_)
   refine du ?_
   refine bnd hF fun x110 hx111 hF => ?_
   have hi109 := ix_chk hx111
   obtain ⟨hp112, hx113⟩ := ix_some hx111
   refine D_idxO sl25.h ty78.h.sz rfl .no (.tmp rfl rfl) (.int _ _) rfl rfl (.t (.t .h)) hi109 (fun k107 hk108 => ?_)
   refine du ?_
   refine bnd hF fun z114 hx115 hF => ?_
   replace hx115 := Option.some.inj hx115
   refine D_act1 rfl rfl .no (.cons (.t (.t .h)) .nil) (.dep rfl (.dep rfl .nil)) (fun ha => X_storeF (Ro := ow78) (i := 0) ty3.h.sz rfl (EN ha (.tmp rfl rfl) rfl) (EN ha (.tmp rfl rfl) rfl) hk108 hx113 rfl rfl fsf78_0 (sf78_0 (d := (IntKind.i64.wrap (r104.1 - 1))))) (fun _ => ?_)
   rw [hx115]
   refine du ?_
   iterate 2 refine au ?_
   refine As (.agg [(.slice none 0 0), (.slice (some ⟨k3, 0, none⟩) 1 1)].toArray) ?_
   iterate 2 refine au ?_
   cases hF
   exact End_ret (⟨none, 0, 0⟩, [], ⟨(some ⟨k3, 0, none⟩), 1, 1⟩, (k3 :: ((k2 :: ([] ++ [])) ++ []))) (.cellA rfl rfl .h rfl ag27.h ty27.h.sz rfl rfl .nil) rfl (.conv .nil (own_nil (Ro := (roE rdInt)) (E := 3)) (.cons .nil) (.sel (.cons .h (.cons (.t .h) (.cons (.t .h) .nil)))))
 iterate 3 refine au ?_
 refine As (.agg [(.slice none 0 0), (.slice (some ⟨k3, 0, none⟩) 1 1)].toArray) ?_
 iterate 2 refine au ?_
 cases hF
 exact End_ret (⟨none, 0, 0⟩, [], ⟨(some ⟨k3, 0, none⟩), 1, 1⟩, (k3 :: ((k2 :: ([] ++ [])) ++ []))) (.cellA rfl rfl .h rfl ag27.h ty27.h.sz rfl rfl .nil) rfl (.conv .nil (own_nil (Ro := (roE rdInt)) (E := 3)) (.cons .nil) (.sel (.cons .h (.cons (.t (.t (.t .h))) (.cons (.t .h) .nil)))))
def s_l2AnyFact (fuel : Nat) (a_c : l1Cur) (a_s : List Int) : Option (Fact × l1Cur) :=
 (s_IsSchema a_s).bind fun r4 =>
 if r4 then (
   (s_l2Fact fuel a_c a_s 10).bind fun r7 =>
   (s_l1Below ({ b := a_c.b, i := r7.2.i, h := r7.2.h } : l1Cur) 8).bind fun r10 =>
   if ((r10.1 : Int) == 0) then (
     (s_l1Below ({ b := a_c.b, i := r10.2.i, h := r10.2.h } : l1Cur) 5).bind fun r13 =>
     some (({ Rel := (IntKind.i64.wrap (r13.1 - 1)), Values := r7.1.Values } : Fact), ({ b := a_c.b, i := r13.2.i, h := r13.2.h } : l1Cur)))
   else (
     if ((r10.1 : Int) == 1) then (
       (s_l1PickInt ({ b := a_c.b, i := r10.2.i, h := r10.2.h } : l1Cur) ([(-1), 9, 10] : List Int)).bind fun r17 =>
       (chk (decide (0 ≤ 0) && decide (0 < (r7.1.Values.length : Int)))).bind fun u23 =>
       (some (r7.1.Values.set (0 : Int).toNat r17.1)).bind fun z25 =>
       some (({ Rel := r7.1.Rel, Values := z25 } : Fact), ({ b := a_c.b, i := r17.2.i, h := r17.2.h } : l1Cur)))
     else (
       if ((r10.1 : Int) == 2) then (
         (app r7.1.Values ([1] : List Int)).bind fun z29 =>
         some (({ Rel := r7.1.Rel, Values := z29 } : Fact), ({ b := a_c.b, i := r10.2.i, h := r10.2.h } : l1Cur)))
       else (
         some (r7.1, ({ b := a_c.b, i := r10.2.i, h := r10.2.h } : l1Cur))))))
 else (
   (s_l1Below a_c 8).bind fun r35 =>
   if ((r35.1 : Int) == 0) then (
     (s_l1Below ({ b := a_c.b, i := r35.2.i, h := r35.2.h } : l1Cur) 5).bind fun r38 =>
     some (({ Rel := (IntKind.i64.wrap (r38.1 - 1)), Values := ([1] : List Int) } : Fact), ({ b := a_c.b, i := r38.2.i, h := r38.2.h } : l1Cur)))
   else (
     if ((r35.1 : Int) == 1) then (
       (s_l1PickInt ({ b := a_c.b, i := r35.2.i, h := r35.2.h } : l1Cur) ([(-1), 9, 10] : List Int)).bind fun r42 =>
       (chk (decide (0 ≤ 0) && decide (0 < (([1] : List Int).length : Int)))).bind fun u48 =>
       (some (([1] : List Int).set (0 : Int).toNat r42.1)).bind fun z50 =>
       some (({ Rel := 0, Values := z50 } : Fact), ({ b := a_c.b, i := r42.2.i, h := r42.2.h } : l1Cur)))
     else (
       if ((r35.1 : Int) == 2) then (
         (app ([1] : List Int) ([1] : List Int)).bind fun z54 =>
         some (({ Rel := 0, Values := z54 } : Fact), ({ b := a_c.b, i := r35.2.i, h := r35.2.h } : l1Cur)))
       else (
         some (({ Rel := 0, Values := ([1] : List Int) } : Fact), ({ b := a_c.b, i := r35.2.i, h := r35.2.h } : l1Cur))))))
theorem s_l2AnyFact_ok (fuel : Nat) (kq0 : Nat) (a_c : l1Cur) (v0_0 : Sv) (a_s : List Int) (v1_0 : Sv) (R : Fact × l1Cur) (hF : s_l2AnyFact fuel a_c a_s = some R) :
   Fw.Spec Tryz.prog 146 [(pz kq0), v1_0.v] [cbox kq0 116 (.agg [v0_0.v, (.int .i64 a_c.i), (.int .i64 a_c.h)].toArray), crd (RdS 5 rdU8) v0_0.v a_c.b, crd (RdS 3 rdInt) v1_0.v a_s] (fun p : Sv × List Nat => (.agg [(.int .i64 R.1.Rel), p.1.v].toArray)) (fun p => [cown (OwnS 3 (roE rdInt)) p.2 p.1.v R.1.Values, cbox kq0 116 (.agg [v0_0.v, (.int .i64 R.2.i), (.int .i64 R.2.h)].toArray)]) := by
 refine Se 37 Tryz.func146 [.cell 4 58] ?_
 intro H0 F0
 unfold s_l2AnyFact at hF
 refine au ?_
 refine AnW (fun k1 => ?_)
 iterate 2 refine au ?_
 refine C_new rfl (N_buildSliceT (g := true) sl24.h ty3.h (.cons (.int _ _) .nil) (vs := [(.int .i64 1)]) rfl rfl rfl (by intro v hv; simp at hv; rcases hv with rfl <;> rfl)) (fun k2 => ?_)
 refine Cv1 (.cons .h .nil) (own_lit (Ro := (roE rdInt)) (E := 3) (F := ([] ++ [])) (xs := ([1] : List Int)) (MkL_cons (Mk_pure (fun _ => rfl)) MkL_nil apps) rfl rfl) ?_
 refine C_val (V_build ty58.h rfl (vs := [(.slice (some ⟨k2, 0, none⟩) 1 1)]) (.cons (.tmp rfl rfl) .nil) (cells := [(.int .i64 0), (.slice (some ⟨k2, 0, none⟩) 1 1)]) rfl) ?_
 refine AnW (fun k3 => ?_)
 refine As (.agg [(.int .i64 0), (.slice (some ⟨k2, 0, none⟩) 1 1)].toArray) ?_
 iterate 4 refine au ?_
 refine bnd hF fun r4 hx5 hF => Cx0 (s_IsSchema_ok _ _ _ hx5) (fun _ => ?_)
 refine au ?_
 refine Ci hF (fun hb60 hF => ?_) (fun hb60 hF => ?_)
 · iterate 3 refine au ?_
   refine bnd hF fun r7 hx8 hF => Cx2 (s_l2Fact_ok _ _ _ _ _ _ _ _ hx8) (fun p9 => ?_)
   refine As (.agg [(.int .i64 r7.1.Rel), p9.1.v].toArray) ?_
   iterate 4 refine au ?_
   refine bnd hF fun r10 hx11 hF => Cx1 (s_l1Below_ok _ _ _ _ _ hx11) (fun p12 => ?_)
   refine au ?_
   refine CW_block (K_region (C_val (V_eql (i := r10.1) (j := 0) (.tmp rfl rfl) (.int _ _)) ?_))
   iterate 2 refine au ?_
   refine Ci hF (fun hb34 hF => ?_) (fun hb34 hF => ?_)
   · iterate 2 refine au ?_
     refine bnd hF fun r13 hx14 hF => Cx1 (s_l1Below_ok _ _ _ _ _ hx14) (fun p15 => ?_)
     iterate 2 refine au ?_
     refine As (.agg [(.int .i64 (IntKind.i64.wrap (r13.1 - 1))), p9.1.v].toArray) ?_
     iterate 3 refine au ?_
     refine As (.agg [(.int .i64 (IntKind.i64.wrap (r13.1 - 1))), p9.1.v].toArray) ?_
     iterate 2 refine au ?_
     cases hF
     exact Er (p9.1, p9.2)
   iterate 4 refine au ?_
   refine Ci hF (fun hb33 hF => ?_) (fun hb33 hF => ?_)
   · refine CW_draw [0, 1, 2, 3, 4, 5, 6] [0, 1, 0, 0, 12, 31, 63] [4, 6] mixed (by decide +kernel) ?_
     refine du ?_
     refine D_atO rfl .no (.t .h) (fun ha hp => V_load (v := p9.1.v) ag24.h (EN ha (.tmp rfl rfl) rfl) hp.2 rfl rfl) ?_
     refine du ?_
     refine D_new rfl .no rfl (fun ha => N_buildSliceT (g := true) (len := 3) (parts := [(0, .const (.int .i64 (-1))), (1, .const (.int .i64 9)), (2, .const (.int .i64 10))]) sl24.h ty3.h (.cons (EN ha (.int _ _) rfl) (.cons (EN ha (.int _ _) rfl) (.cons (EN ha (.int _ _) rfl) .nil))) (vs := [(.int .i64 (-1)), (.int .i64 9), (.int .i64 10)]) rfl rfl rfl (by intro v hv; simp at hv; rcases hv with rfl | rfl | rfl <;> rfl)) (fun k16 => ?_)
     refine Dv1 (.cons .h .nil) (own_lit (Ro := (roE rdInt)) (E := 3) (F := ([] ++ ([] ++ ([] ++ [])))) (xs := ([(-1), 9, 10] : List Int)) (MkL_cons (Mk_pure (fun _ => rfl)) (MkL_cons (Mk_pure (fun _ => rfl)) (MkL_cons (Mk_pure (fun _ => rfl)) MkL_nil apps) apps) apps) rfl rfl) ?_
     refine bnd hF fun r17 hx18 hF => D_act2 rfl rfl .no (.cons .h (.cons .h (.rd (.t (.t (.t (.t .h)))) rfl .nil))) (.dep rfl (.own .h (fun _ h => h) .nil)) (fun ha => XC_bor frz_own (fun _ => (.cons .nil)) (XC_pre (.cons (.t .h) (.rd (.t .h) rfl (.rd .h rfl .nil))) (X_callS cf76.h (.cons (EN ha (.tmp rfl rfl) rfl) (.cons (EN ha (.tmp rfl rfl) rfl) .nil)) (s_l1PickInt_ok kq0 ({ b := a_c.b, i := r10.2.i, h := r10.2.h } : l1Cur) v0_0 ([(-1), 9, 10] : List Int) (⟨(some ⟨k16, 0, none⟩), 3, 1⟩) _ hx18)))) (fun p19 => ?_)
     refine bnd hF fun u23 hx24 hF => ?_
     have hi22 := chk_some hx24
     refine D_idxO sl24.h ty3.h.sz rfl .no (.tmp rfl rfl) (.int _ _) rfl rfl (.t (.t (.t .h))) hi22 (fun k20 hk21 => ?_)
     refine bnd hF fun z25 hx26 hF => ?_
     replace hx26 := Option.some.inj hx26
     refine D_act1 rfl rfl .no (.cons (.t (.t (.t .h))) .nil) (.dep rfl (.dep rfl (.dep rfl .nil))) (fun ha => X_storeO (Ro := (roE rdInt)) (a := r17.1) (i := 0) ty3.h.sz rfl (EN ha (.tmp rfl rfl) rfl) (EN ha (.tmp rfl rfl) rfl) hk21 hi22 (Mk_pure (fun _ => rfl)) (fun _ _ _ _ h => by obtain ⟨-, h⟩ := h; cases h; rfl)) (fun F27 => ?_)
     rw [hx26]
     refine du ?_
     iterate 2 refine au ?_
     refine As (.agg [(.int .i64 r7.1.Rel), p9.1.v].toArray) ?_
     iterate 2 refine au ?_
     cases hF
     exact Er (p9.1, F27)
   iterate 4 refine au ?_
   refine Ci hF (fun hb32 hF => ?_) (fun hb32 hF => ?_)
   · iterate 3 refine au ?_
     refine C_new rfl (N_buildSliceT (g := true) sl24.h ty3.h (.cons (.int _ _) .nil) (vs := [(.int .i64 1)]) rfl rfl rfl (by intro v hv; simp at hv; rcases hv with rfl <;> rfl)) (fun k28 => ?_)
     refine Cv1 (.cons .h .nil) (own_lit (Ro := (roE rdInt)) (E := 3) (F := ([] ++ [])) (xs := ([1] : List Int)) (MkL_cons (Mk_pure (fun _ => rfl)) MkL_nil apps) rfl rfl) ?_
     refine bnd hF fun z29 hx30 hF => C_x1 (.cons (.t (.t (.t .h))) (.cons .h .nil)) (X_appendO (Ro := (roE rdInt)) sl24.h ni24 ty3.h rfl rfl rfl (.tmp rfl rfl) (.tmp rfl rfl) hx30 src_own) (fun p31 => ?_)
     refine au ?_
     refine As (.agg [(.int .i64 r7.1.Rel), p31.1.v].toArray) ?_
     iterate 3 refine au ?_
     refine As (.agg [(.int .i64 r7.1.Rel), p31.1.v].toArray) ?_
     iterate 2 refine au ?_
     cases hF
     exact Er (p31.1, p31.2)
   iterate 3 refine au ?_
   refine As (.agg [(.int .i64 r7.1.Rel), p9.1.v].toArray) ?_
   iterate 2 refine au ?_
   cases hF
   exact Er (p9.1, p9.2)
 iterate 4 refine au ?_
 refine bnd hF fun r35 hx36 hF => Cx1 (s_l1Below_ok _ _ _ _ _ hx36) (fun p37 => ?_)
 refine au ?_
 refine CW_block (K_region (C_val (V_eql (i := r35.1) (j := 0) (.tmp rfl rfl) (.int _ _)) ?_))
 iterate 2 refine au ?_
 refine Ci hF (fun hb59 hF => ?_) (fun hb59 hF => ?_)
 · iterate 2 refine au ?_
   refine bnd hF fun r38 hx39 hF => Cx1 (s_l1Below_ok _ _ _ _ _ hx39) (fun p40 => ?_)
   iterate 2 refine au ?_
   refine As (.agg [(.int .i64 (IntKind.i64.wrap (r38.1 - 1))), (.slice (some ⟨k2, 0, none⟩) 1 1)].toArray) ?_
   iterate 3 refine au ?_
   refine As (.agg [(.int .i64 (IntKind.i64.wrap (r38.1 - 1))), (.slice (some ⟨k2, 0, none⟩) 1 1)].toArray) ?_
   iterate 2 refine au ?_
   cases hF
   exact Er (⟨(some ⟨k2, 0, none⟩), 1, 1⟩, (k2 :: ([] ++ [])))
 iterate 4 refine au ?_
 refine Ci hF (fun hb58 hF => ?_) (fun hb58 hF => ?_)
 · refine CW_draw [0, 1, 2, 3, 4, 5, 6] [0, 1, 0, 0, 12, 31, 63] [4, 6] mixed (by decide +kernel) ?_
   refine du ?_
   refine D_atO rfl .no (.t .h) (fun ha hp => V_load (v := (.slice (some ⟨k2, 0, none⟩) 1 1)) ag24.h (EN ha (.tmp rfl rfl) rfl) hp.2 rfl rfl) ?_
   refine du ?_
   refine D_new rfl .no rfl (fun ha => N_buildSliceT (g := true) (len := 3) (parts := [(0, .const (.int .i64 (-1))), (1, .const (.int .i64 9)), (2, .const (.int .i64 10))]) sl24.h ty3.h (.cons (EN ha (.int _ _) rfl) (.cons (EN ha (.int _ _) rfl) (.cons (EN ha (.int _ _) rfl) .nil))) (vs := [(.int .i64 (-1)), (.int .i64 9), (.int .i64 10)]) rfl rfl rfl (by intro v hv; simp at hv; rcases hv with rfl | rfl | rfl <;> rfl)) (fun k41 => ?_)
   refine Dv1 (.cons .h .nil) (own_lit (Ro := (roE rdInt)) (E := 3) (F := ([] ++ ([] ++ ([] ++ [])))) (xs := ([(-1), 9, 10] : List Int)) (MkL_cons (Mk_pure (fun _ => rfl)) (MkL_cons (Mk_pure (fun _ => rfl)) (MkL_cons (Mk_pure (fun _ => rfl)) MkL_nil apps) apps) apps) rfl rfl) ?_
   refine bnd hF fun r42 hx43 hF => D_act2 rfl rfl .no (.cons .h (.cons .h (.rd (.t (.t (.t .h))) rfl .nil))) (.dep rfl (.own .h (fun _ h => h) .nil)) (fun ha => XC_bor frz_own (fun _ => (.cons .nil)) (XC_pre (.cons (.t .h) (.rd (.t .h) rfl (.rd .h rfl .nil))) (X_callS cf76.h (.cons (EN ha (.tmp rfl rfl) rfl) (.cons (EN ha (.tmp rfl rfl) rfl) .nil)) (s_l1PickInt_ok kq0 ({ b := a_c.b, i := r35.2.i, h := r35.2.h } : l1Cur) v0_0 ([(-1), 9, 10] : List Int) (⟨(some ⟨k41, 0, none⟩), 3, 1⟩) _ hx43)))) (fun p44 => ?_)
   refine bnd hF fun u48 hx49 hF => ?_
   have hi47 := chk_some hx49
   refine D_idxO sl24.h ty3.h.sz rfl .no (.tmp rfl rfl) (.int _ _) rfl rfl (.t (.t (.t .h))) hi47 (fun k45 hk46 => ?_)
   refine bnd hF fun z50 hx51 hF => ?_
   replace hx51 := Option.some.inj hx51
   refine D_act1 rfl rfl .no (.cons (.t (.t (.t .h))) .nil) (.dep rfl (.dep rfl (.dep rfl .nil))) (fun ha => X_storeO (Ro := (roE rdInt)) (a := r42.1) (i := 0) ty3.h.sz rfl (EN ha (.tmp rfl rfl) rfl) (EN ha (.tmp rfl rfl) rfl) hk46 hi47 (Mk_pure (fun _ => rfl)) (fun _ _ _ _ h => by obtain ⟨-, h⟩ := h; cases h; rfl)) (fun F52 => ?_)
   rw [hx51]
   refine du ?_
   iterate 2 refine au ?_
   refine As (.agg [(.int .i64 0), (.slice (some ⟨k2, 0, none⟩) 1 1)].toArray) ?_
   iterate 2 refine au ?_
   cases hF
   exact Er (⟨(some ⟨k2, 0, none⟩), 1, 1⟩, F52)
 iterate 4 refine au ?_
 refine Ci hF (fun hb57 hF => ?_) (fun hb57 hF => ?_)
 · iterate 3 refine au ?_
   refine C_new rfl (N_buildSliceT (g := true) sl24.h ty3.h (.cons (.int _ _) .nil) (vs := [(.int .i64 1)]) rfl rfl rfl (by intro v hv; simp at hv; rcases hv with rfl <;> rfl)) (fun k53 => ?_)
   refine Cv1 (.cons .h .nil) (own_lit (Ro := (roE rdInt)) (E := 3) (F := ([] ++ [])) (xs := ([1] : List Int)) (MkL_cons (Mk_pure (fun _ => rfl)) MkL_nil apps) rfl rfl) ?_
   refine bnd hF fun z54 hx55 hF => C_x1 (.cons (.t (.t (.t .h))) (.cons .h .nil)) (X_appendO (Ro := (roE rdInt)) sl24.h ni24 ty3.h rfl rfl rfl (.tmp rfl rfl) (.tmp rfl rfl) hx55 src_own) (fun p56 => ?_)
   refine au ?_
   refine As (.agg [(.int .i64 0), p56.1.v].toArray) ?_
   iterate 3 refine au ?_
   refine As (.agg [(.int .i64 0), p56.1.v].toArray) ?_
   iterate 2 refine au ?_
   cases hF
   exact Er (p56.1, p56.2)
 iterate 3 refine au ?_
 refine As (.agg [(.int .i64 0), (.slice (some ⟨k2, 0, none⟩) 1 1)].toArray) ?_
 iterate 2 refine au ?_
 cases hF
 exact Er (⟨(some ⟨k2, 0, none⟩), 1, 1⟩, (k2 :: ([] ++ [])))
def s_l2AnyFacts (fuel : Nat) (a_c : l1Cur) (a_s : List Int) : Option ((List Fact) × l1Cur) :=
 (s_IsSchema a_s).bind fun r2 =>
 if r2 then (
   (s_l2Facts fuel a_c a_s 8).bind fun r5 =>
   (s_l1Once ({ b := a_c.b, i := r5.2.i, h := r5.2.h } : l1Cur) 10).bind fun r8 =>
   if r8.1 then (
     (s_l2AnyFact fuel ({ b := a_c.b, i := r8.2.i, h := r8.2.h } : l1Cur) a_s).bind fun r11 =>
     (app r5.1 ([r11.1] : List Fact)).bind fun z15 =>
     some (z15, ({ b := a_c.b, i := r11.2.i, h := r11.2.h } : l1Cur)))
   else (
     some (r5.1, ({ b := a_c.b, i := r8.2.i, h := r8.2.h } : l1Cur))))
 else (
   (s_l1Once a_c 10).bind fun r19 =>
   if r19.1 then (
     (s_l2AnyFact fuel ({ b := a_c.b, i := r19.2.i, h := r19.2.h } : l1Cur) a_s).bind fun r22 =>
     (app ([] : List Fact) ([r22.1] : List Fact)).bind fun z26 =>
     some (z26, ({ b := a_c.b, i := r22.2.i, h := r22.2.h } : l1Cur)))
   else (
     some (([] : List Fact), ({ b := a_c.b, i := r19.2.i, h := r19.2.h } : l1Cur))))
theorem s_l2AnyFacts_ok (fuel : Nat) (kq0 : Nat) (a_c : l1Cur) (v0_0 : Sv) (a_s : List Int) (v1_0 : Sv) (R : (List Fact) × l1Cur) (hF : s_l2AnyFacts fuel a_c a_s = some R) :
   Fw.Spec Tryz.prog 94 [(pz kq0), v1_0.v] [cbox kq0 116 (.agg [v0_0.v, (.int .i64 a_c.i), (.int .i64 a_c.h)].toArray), crd (RdS 5 rdU8) v0_0.v a_c.b, crd (RdS 3 rdInt) v1_0.v a_s] (fun p : Sv × List Nat => p.1.v) (fun p => [cown (OwnS 58 ow58) p.2 p.1.v R.1, cbox kq0 116 (.agg [v0_0.v, (.int .i64 R.2.i), (.int .i64 R.2.h)].toArray)]) := by
 refine Se 21 Tryz.func94 [.tmp 4] ?_
 intro H0 F0
 unfold s_l2AnyFacts at hF
 iterate 4 refine au ?_
 refine C_new rfl (N_buildSliceT (g := true) sl28.h ty58.h .nil (vs := []) rfl rfl rfl (by simp)) (fun k1 => ?_)
 refine Cv1 (.cons .h .nil) (own_lit (Ro := ow58) (E := 58) (F := []) (xs := ([] : List Fact)) MkL_nil rfl rfl) ?_
 iterate 5 refine au ?_
 refine bnd hF fun r2 hx3 hF => Cx0 (s_IsSchema_ok _ _ _ hx3) (fun _ => ?_)
 refine au ?_
 refine Ci hF (fun hb30 hF => ?_) (fun hb30 hF => ?_)
 · iterate 3 refine au ?_
   refine bnd hF fun r5 hx6 hF => Cx2 (s_l2Facts_ok _ _ _ _ _ _ _ _ hx6) (fun p7 => ?_)
   iterate 5 refine au ?_
   refine bnd hF fun r8 hx9 hF => Cx1 (s_l1Once_ok _ _ _ _ _ hx9) (fun p10 => ?_)
   refine au ?_
   refine Ci hF (fun hb18 hF => ?_) (fun hb18 hF => ?_)
   · iterate 4 refine au ?_
     refine bnd hF fun r11 hx12 hF => Cx2 (s_l2AnyFact_ok _ _ _ _ _ _ _ hx12) (fun p13 => ?_)
     refine C_new rfl (N_buildSliceT (g := true) sl28.h ty58.h (.cons (.tmp rfl rfl) .nil) (vs := [(.agg [(.int .i64 r11.1.Rel), p13.1.v].toArray)]) rfl rfl rfl (by intro v hv; simp at hv; rcases hv with rfl <;> rfl)) (fun k14 => ?_)
     refine Cv1 (.cons .h (.cons .h .nil)) (own_lit (Ro := ow58) (E := 58) (F := (p13.2 ++ [])) (xs := ([r11.1] : List Fact)) (MkL_cons mk58 MkL_nil apps) rfl rfl) ?_
     refine bnd hF fun z15 hx16 hF => C_x1 (.cons (.t (.t .h)) (.cons .h .nil)) (X_appendO (Ro := ow58) sl28.h ni28 ty58.h rfl rfl rfl (.tmp rfl rfl) (.tmp rfl rfl) hx16 src_own) (fun p17 => ?_)
     iterate 7 refine au ?_
     cases hF
     exact Er (p17.1, p17.2)
   iterate 6 refine au ?_
   cases hF
   exact Er (p7.1, p7.2)
 iterate 4 refine au ?_
 refine bnd hF fun r19 hx20 hF => Cx1 (s_l1Once_ok _ _ _ _ _ hx20) (fun p21 => ?_)
 refine au ?_
 refine Ci hF (fun hb29 hF => ?_) (fun hb29 hF => ?_)
 · iterate 4 refine au ?_
   refine bnd hF fun r22 hx23 hF => Cx2 (s_l2AnyFact_ok _ _ _ _ _ _ _ hx23) (fun p24 => ?_)
   refine C_new rfl (N_buildSliceT (g := true) sl28.h ty58.h (.cons (.tmp rfl rfl) .nil) (vs := [(.agg [(.int .i64 r22.1.Rel), p24.1.v].toArray)]) rfl rfl rfl (by intro v hv; simp at hv; rcases hv with rfl <;> rfl)) (fun k25 => ?_)
   refine Cv1 (.cons .h (.cons .h .nil)) (own_lit (Ro := ow58) (E := 58) (F := (p24.2 ++ [])) (xs := ([r22.1] : List Fact)) (MkL_cons mk58 MkL_nil apps) rfl rfl) ?_
   refine bnd hF fun z26 hx27 hF => C_x1 (.cons (.t (.t .h)) (.cons .h .nil)) (X_appendO (Ro := ow58) sl28.h ni28 ty58.h rfl rfl rfl (.tmp rfl rfl) (.tmp rfl rfl) hx27 src_own) (fun p28 => ?_)
   iterate 7 refine au ?_
   cases hF
   exact Er (p28.1, p28.2)
 iterate 6 refine au ?_
 cases hF
 exact Er (⟨(some ⟨k1, 0, none⟩), 0, 1⟩, (k1 :: []))
def s_l2AnySchema (a_c : l1Cur) : Option ((List Int) × l1Cur) :=
 (s_l2Schema a_c).bind fun r1 =>
 (s_l1Once ({ b := a_c.b, i := r1.2.i, h := r1.2.h } : l1Cur) 14).bind fun r4 =>
 if r4.1 then (
   (s_l1PickInt ({ b := a_c.b, i := r4.2.i, h := r4.2.h } : l1Cur) ([0, 1, 4] : List Int)).bind fun r8 =>
   (app r1.1 ([r8.1] : List Int)).bind fun z12 =>
   some (z12, ({ b := a_c.b, i := r8.2.i, h := r8.2.h } : l1Cur)))
 else (
   some (r1.1, ({ b := a_c.b, i := r4.2.i, h := r4.2.h } : l1Cur)))
theorem s_l2AnySchema_ok (kq0 : Nat) (a_c : l1Cur) (v0_0 : Sv) (R : (List Int) × l1Cur) (hF : s_l2AnySchema a_c = some R) :
   Fw.Spec Tryz.prog 95 [(pz kq0)] [cbox kq0 116 (.agg [v0_0.v, (.int .i64 a_c.i), (.int .i64 a_c.h)].toArray), crd (RdS 5 rdU8) v0_0.v a_c.b] (fun p : Sv × List Nat => p.1.v) (fun p => [cown (OwnS 3 (roE rdInt)) p.2 p.1.v R.1, cbox kq0 116 (.agg [v0_0.v, (.int .i64 R.2.i), (.int .i64 R.2.h)].toArray)]) := by
 refine Se 15 Tryz.func95 [.tmp 2] ?_
 intro H0 F0
 unfold s_l2AnySchema at hF
 iterate 5 refine au ?_
 refine bnd hF fun r1 hx2 hF => Cx2 (s_l2Schema_ok _ _ _ _ hx2) (fun p3 => ?_)
 iterate 5 refine au ?_
 refine bnd hF fun r4 hx5 hF => Cx1 (s_l1Once_ok _ _ _ _ _ hx5) (fun p6 => ?_)
 refine au ?_
 refine Ci hF (fun hb15 hF => ?_) (fun hb15 hF => ?_)
 · iterate 3 refine au ?_
   refine C_new rfl (N_buildSliceT (g := true) sl24.h ty3.h (.cons (.int _ _) (.cons (.int _ _) (.cons (.int _ _) .nil))) (vs := [(.int .i64 0), (.int .i64 1), (.int .i64 4)]) rfl rfl rfl (by intro v hv; simp at hv; rcases hv with rfl | rfl | rfl <;> rfl)) (fun k7 => ?_)
   refine Cv1 (.cons .h .nil) (own_lit (Ro := (roE rdInt)) (E := 3) (F := ([] ++ ([] ++ ([] ++ [])))) (xs := ([0, 1, 4] : List Int)) (MkL_cons (Mk_pure (fun _ => rfl)) (MkL_cons (Mk_pure (fun _ => rfl)) (MkL_cons (Mk_pure (fun _ => rfl)) MkL_nil apps) apps) apps) rfl rfl) ?_
   refine bnd hF fun r8 hx9 hF => C_x2 (.cons .h (.cons .h (.rd (.t .h) rfl .nil))) (XC_bor frz_own (fun _ => (.cons .nil)) (XC_pre (.cons (.t .h) (.rd (.t .h) rfl (.rd .h rfl .nil))) (X_callS cf76.h (.cons (.tmp rfl rfl) (.cons (.tmp rfl rfl) .nil)) (s_l1PickInt_ok kq0 ({ b := a_c.b, i := r4.2.i, h := r4.2.h } : l1Cur) v0_0 ([0, 1, 4] : List Int) (⟨(some ⟨k7, 0, none⟩), 3, 1⟩) _ hx9)))) (fun p10 => ?_)
   refine C_new rfl (N_buildSliceT (g := true) sl24.h ty3.h (.cons (.tmp rfl rfl) .nil) (vs := [(.int .i64 r8.1)]) rfl rfl rfl (by intro v hv; simp at hv; rcases hv with rfl <;> rfl)) (fun k11 => ?_)
   refine Cv1 (.cons .h .nil) (own_lit (Ro := (roE rdInt)) (E := 3) (F := ([] ++ [])) (xs := ([r8.1] : List Int)) (MkL_cons (Mk_pure (fun _ => rfl)) MkL_nil apps) rfl rfl) ?_
   refine bnd hF fun z12 hx13 hF => C_x1 (.cons (.t (.t (.t .h))) (.cons .h .nil)) (X_appendO (Ro := (roE rdInt)) sl24.h ni24 ty3.h rfl rfl rfl (.tmp rfl rfl) (.tmp rfl rfl) hx13 src_own) (fun p14 => ?_)
   iterate 7 refine au ?_
   cases hF
   exact Er (p14.1, p14.2)
 iterate 6 refine au ?_
 cases hF
 exact Er (p3.1, p3.2)
def s_l4Draw (fuel : Nat) (a_c : l1Cur) : Option ((List Int) × Query × (List Fact) × l1Cur) :=
 (s_l2Schema a_c).bind fun r2 =>
 (s_l3Query fuel ({ b := a_c.b, i := r2.2.i, h := r2.2.h } : l1Cur) r2.1).bind fun r5 =>
 (s_l2Facts fuel ({ b := a_c.b, i := r5.2.i, h := r5.2.h } : l1Cur) r2.1 8).bind fun r9 =>
 (s_l1Below ({ b := a_c.b, i := r9.2.i, h := r9.2.h } : l1Cur) 16).bind fun r12 =>
 if ((r12.1 : Int) == 0) then (
   (s_l3Any fuel ({ b := a_c.b, i := r12.2.i, h := r12.2.h } : l1Cur) r2.1).bind fun r15 =>
   some (r2.1, r15.1, r9.1, ({ b := a_c.b, i := r15.2.i, h := r15.2.h } : l1Cur)))
 else (
   if ((r12.1 : Int) == 1) then (
     (s_l2AnyFacts fuel ({ b := a_c.b, i := r12.2.i, h := r12.2.h } : l1Cur) r2.1).bind fun r18 =>
     some (r2.1, r5.1, r18.1, ({ b := a_c.b, i := r18.2.i, h := r18.2.h } : l1Cur)))
   else (
     if ((r12.1 : Int) == 2) then (
       (s_l2AnySchema ({ b := a_c.b, i := r12.2.i, h := r12.2.h } : l1Cur)).bind fun r21 =>
       some (r21.1, r5.1, r9.1, ({ b := a_c.b, i := r21.2.i, h := r21.2.h } : l1Cur)))
     else (
       some (r2.1, r5.1, r9.1, ({ b := a_c.b, i := r12.2.i, h := r12.2.h } : l1Cur)))))
theorem s_l4Draw_ok (fuel : Nat) (kq0 : Nat) (a_c : l1Cur) (v0_0 : Sv) (R : (List Int) × Query × (List Fact) × l1Cur) (hF : s_l4Draw fuel a_c = some R) :
   Fw.Spec Tryz.prog 40 [(pz kq0)] [cbox kq0 116 (.agg [v0_0.v, (.int .i64 a_c.i), (.int .i64 a_c.h)].toArray), crd (RdS 5 rdU8) v0_0.v a_c.b] (fun p : Sv × List Nat × Sv × List Nat × Sv × List Nat × Sv × List Nat => (.tuple [p.1.v, (.agg [p.2.2.1.v, p.2.2.2.2.1.v].toArray), p.2.2.2.2.2.2.1.v].toArray)) (fun p => [cown (OwnS 3 (roE rdInt)) p.2.1 p.1.v R.1, cown (OwnS 3 (roE rdInt)) p.2.2.2.1 p.2.2.1.v R.2.1.Head, cown (OwnS 78 ow78) p.2.2.2.2.2.1 p.2.2.2.2.1.v R.2.1.Atoms, cown (OwnS 58 ow58) p.2.2.2.2.2.2.2 p.2.2.2.2.2.2.1.v R.2.2.1, cbox kq0 116 (.agg [v0_0.v, (.int .i64 R.2.2.2.i), (.int .i64 R.2.2.2.h)].toArray)]) := by
 refine Se 35 Tryz.func40 [.tmp 2, .cell 3 27, .tmp 4] ?_
 intro H0 F0
 unfold s_l4Draw at hF
 iterate 2 refine au ?_
 refine AnW (fun k1 => ?_)
 iterate 4 refine au ?_
 refine bnd hF fun r2 hx3 hF => Cx2 (s_l2Schema_ok _ _ _ _ hx3) (fun p4 => ?_)
 iterate 5 refine au ?_
 refine bnd hF fun r5 hx6 hF => C_x4 (.cons .h (.cons .h (.rd (.t .h) rfl .nil))) (XC_bor frz_own (fun _ => (.cons (.cons (.cons .nil)))) (XC_pre (.cons (.t .h) (.rd (.t .h) rfl (.rd .h rfl .nil))) (X_callS cf91.h (.cons (.tmp rfl rfl) (.cons (.tmp rfl rfl) .nil)) (s_l3Query_ok fuel kq0 ({ b := a_c.b, i := r2.2.i, h := r2.2.h } : l1Cur) v0_0 r2.1 p4.1 _ hx6)))) (fun p7 => ?_)
 refine AnW (fun k8 => ?_)
 refine As (.agg [p7.1.v, p7.2.2.1.v].toArray) ?_
 iterate 4 refine au ?_
 refine bnd hF fun r9 hx10 hF => C_x3 (.cons (.t .h) (.cons (.t (.t (.t .h))) (.rd (.t (.t (.t (.t .h)))) rfl .nil))) (XC_bor frz_own (fun _ => (.cons (.cons .nil))) (XC_pre (.cons (.t .h) (.rd (.t .h) rfl (.rd .h rfl .nil))) (X_callS cf92.h (.cons (.tmp rfl rfl) (.cons (.tmp rfl rfl) (.cons (.int _ _) .nil))) (s_l2Facts_ok fuel kq0 ({ b := a_c.b, i := r5.2.i, h := r5.2.h } : l1Cur) v0_0 r2.1 p4.1 8 _ hx10)))) (fun p11 => ?_)
 iterate 5 refine au ?_
 refine bnd hF fun r12 hx13 hF => Cx1 (s_l1Below_ok _ _ _ _ _ hx13) (fun p14 => ?_)
 refine au ?_
 refine CW_block (K_region (C_val (V_eql (i := r12.1) (j := 0) (.tmp rfl rfl) (.int _ _)) ?_))
 iterate 2 refine au ?_
 refine Ci hF (fun hb26 hF => ?_) (fun hb26 hF => ?_)
 · iterate 3 refine au ?_
   refine bnd hF fun r15 hx16 hF => C_x4 (.cons (.t .h) (.cons .h (.rd (.t (.t (.t (.t (.t .h))))) rfl .nil))) (XC_bor frz_own (fun _ => (.cons (.cons (.cons .nil)))) (XC_pre (.cons (.t .h) (.rd (.t .h) rfl (.rd .h rfl .nil))) (X_callS cf93.h (.cons (.tmp rfl rfl) (.cons (.tmp rfl rfl) .nil)) (s_l3Any_ok fuel kq0 ({ b := a_c.b, i := r12.2.i, h := r12.2.h } : l1Cur) v0_0 r2.1 p4.1 _ hx16)))) (fun p17 => ?_)
   refine As (.agg [p17.1.v, p17.2.2.1.v].toArray) ?_
   refine au ?_
   refine K_draw [0, 1, 2, 3, 4, 5] [0, 0, 0, 1, 11, 31] [4] mixed (by decide +kernel) ?_
   refine du ?_
   refine D_atO rfl .no .h (fun ha hp => V_loadBox ag27.h ty27.h.sz rfl (EN ha (.tmp rfl rfl) rfl) hp.2 rfl) ?_
   iterate 2 refine du ?_
   refine D_act1 rfl rfl .no (.cons (.t (.t (.t (.t (.t (.t (.t (.t .h)))))))) .nil) (.dep rfl .nil) (fun ha => X_storeB (e' := (.agg [p17.1.v, p17.2.2.1.v].toArray)) (v := (.agg [p17.1.v, p17.2.2.1.v].toArray)) ty27.h.sz (EN ha (.tmp rfl rfl) rfl) (EN ha (.tmp rfl rfl) rfl) rfl rfl rfl rfl rfl) (fun _ => ?_)
   iterate 2 refine du ?_
   refine au ?_
   cases hF
   exact End_ret (p4.1, p4.2, p17.1, p17.2.1, p17.2.2.1, p17.2.2.2, p11.1, p11.2) (.tmp rfl rfl (.cellA rfl rfl .h rfl ag27.h ty27.h.sz rfl rfl (.tmp rfl rfl .nil))) rfl (.sel (.cons (.t (.t .h)) (.cons (.t (.t .h)) (.cons (.t (.t .h)) (.cons (.t (.t (.t .h))) (.cons (.t (.t .h)) .nil))))))
 iterate 4 refine au ?_
 refine Ci hF (fun hb25 hF => ?_) (fun hb25 hF => ?_)
 · iterate 3 refine au ?_
   refine bnd hF fun r18 hx19 hF => C_x3 (.cons (.t .h) (.cons .h (.rd (.t (.t (.t (.t (.t .h))))) rfl .nil))) (XC_bor frz_own (fun _ => (.cons (.cons .nil))) (XC_pre (.cons (.t .h) (.rd (.t .h) rfl (.rd .h rfl .nil))) (X_callS cf94.h (.cons (.tmp rfl rfl) (.cons (.tmp rfl rfl) .nil)) (s_l2AnyFacts_ok fuel kq0 ({ b := a_c.b, i := r12.2.i, h := r12.2.h } : l1Cur) v0_0 r2.1 p4.1 _ hx19)))) (fun p20 => ?_)
   iterate 2 refine au ?_
   refine K_draw [0, 1, 2, 3, 4, 5] [0, 0, 0, 1, 11, 31] [4] mixed (by decide +kernel) ?_
   refine du ?_
   refine D_atO rfl .no (.t (.t (.t (.t .h)))) (fun ha hp => V_loadBox ag27.h ty27.h.sz rfl (EN ha (.tmp rfl rfl) rfl) hp.2 rfl) ?_
   iterate 2 refine du ?_
   refine D_act1 rfl rfl .no (.cons (.t (.t (.t (.t (.t (.t (.t .h))))))) .nil) (.dep rfl .nil) (fun ha => X_storeB (e' := (.agg [p7.1.v, p7.2.2.1.v].toArray)) (v := (.agg [p7.1.v, p7.2.2.1.v].toArray)) ty27.h.sz (EN ha (.tmp rfl rfl) rfl) (EN ha (.tmp rfl rfl) rfl) rfl rfl rfl rfl rfl) (fun _ => ?_)
   iterate 2 refine du ?_
   refine au ?_
   cases hF
   exact End_ret (p4.1, p4.2, p7.1, p7.2.1, p7.2.2.1, p7.2.2.2, p20.1, p20.2) (.tmp rfl rfl (.cellA rfl rfl .h rfl ag27.h ty27.h.sz rfl rfl (.tmp rfl rfl .nil))) rfl (.sel (.cons (.t .h) (.cons (.t (.t (.t (.t (.t .h))))) (.cons (.t (.t (.t (.t (.t .h))))) (.cons (.t .h) (.cons (.t .h) .nil))))))
 iterate 4 refine au ?_
 refine Ci hF (fun hb24 hF => ?_) (fun hb24 hF => ?_)
 · iterate 2 refine au ?_
   refine bnd hF fun r21 hx22 hF => Cx2 (s_l2AnySchema_ok _ _ _ _ hx22) (fun p23 => ?_)
   iterate 2 refine au ?_
   refine K_draw [0, 1, 2, 3, 4, 5] [0, 0, 0, 1, 11, 31] [4] mixed (by decide +kernel) ?_
   refine du ?_
   refine D_atO rfl .no (.t (.t (.t (.t .h)))) (fun ha hp => V_loadBox ag27.h ty27.h.sz rfl (EN ha (.tmp rfl rfl) rfl) hp.2 rfl) ?_
   iterate 2 refine du ?_
   refine D_act1 rfl rfl .no (.cons (.t (.t (.t (.t (.t (.t (.t .h))))))) .nil) (.dep rfl .nil) (fun ha => X_storeB (e' := (.agg [p7.1.v, p7.2.2.1.v].toArray)) (v := (.agg [p7.1.v, p7.2.2.1.v].toArray)) ty27.h.sz (EN ha (.tmp rfl rfl) rfl) (EN ha (.tmp rfl rfl) rfl) rfl rfl rfl rfl rfl) (fun _ => ?_)
   iterate 2 refine du ?_
   refine au ?_
   cases hF
   exact End_ret (p23.1, p23.2, p7.1, p7.2.1, p7.2.2.1, p7.2.2.2, p11.1, p11.2) (.tmp rfl rfl (.cellA rfl rfl .h rfl ag27.h ty27.h.sz rfl rfl (.tmp rfl rfl .nil))) rfl (.sel (.cons (.t .h) (.cons (.t (.t (.t (.t (.t .h))))) (.cons (.t (.t (.t (.t (.t .h))))) (.cons (.t (.t (.t .h))) (.cons (.t .h) .nil))))))
 refine au ?_
 refine K_draw [0, 1, 2, 3, 4, 5] [0, 0, 0, 1, 11, 31] [4] mixed (by decide +kernel) ?_
 refine du ?_
 refine D_atO rfl .no (.t (.t (.t .h))) (fun ha hp => V_loadBox ag27.h ty27.h.sz rfl (EN ha (.tmp rfl rfl) rfl) hp.2 rfl) ?_
 iterate 2 refine du ?_
 refine D_act1 rfl rfl .no (.cons (.t (.t (.t (.t (.t (.t .h)))))) .nil) (.dep rfl .nil) (fun ha => X_storeB (e' := (.agg [p7.1.v, p7.2.2.1.v].toArray)) (v := (.agg [p7.1.v, p7.2.2.1.v].toArray)) ty27.h.sz (EN ha (.tmp rfl rfl) rfl) (EN ha (.tmp rfl rfl) rfl) rfl rfl rfl rfl rfl) (fun _ => ?_)
 iterate 2 refine du ?_
 refine au ?_
 cases hF
 exact End_ret (p4.1, p4.2, p7.1, p7.2.1, p7.2.2.1, p7.2.2.2, p11.1, p11.2) (.tmp rfl rfl (.cellA rfl rfl .h rfl ag27.h ty27.h.sz rfl rfl (.tmp rfl rfl .nil))) rfl (.sel (.cons (.t (.t .h)) (.cons (.t (.t (.t (.t .h)))) (.cons (.t (.t (.t (.t .h)))) (.cons (.t (.t .h)) (.cons (.t .h) .nil))))))
def s_DrawAnswersOf (fuel : Nat) (a_code : List UInt8) : Option ((List Int) × Query × (List Fact)) :=
 (s_l1New a_code).bind fun r2 =>
 (s_l4Draw fuel r2).bind fun r5 =>
 some (r5.1, r5.2.1, r5.2.2.1)
theorem s_DrawAnswersOf_ok (fuel : Nat) (a_code : List UInt8) (v0_0 : Sv) (R : (List Int) × Query × (List Fact)) (hF : s_DrawAnswersOf fuel a_code = some R) :
   Fw.Spec Tryz.prog 6 [v0_0.v] [crd (RdS 5 rdU8) v0_0.v a_code] (fun p : Sv × List Nat × Sv × List Nat × Sv × List Nat × Sv × List Nat => (.tuple [p.1.v, (.agg [p.2.2.1.v, p.2.2.2.2.1.v].toArray), p.2.2.2.2.2.2.1.v].toArray)) (fun p => [cown (OwnS 3 (roE rdInt)) p.2.1 p.1.v R.1, cown (OwnS 3 (roE rdInt)) p.2.2.2.1 p.2.2.1.v R.2.1.Head, cown (OwnS 78 ow78) p.2.2.2.2.2.1 p.2.2.2.2.1.v R.2.1.Atoms, cown (OwnS 58 ow58) p.2.2.2.2.2.2.2 p.2.2.2.2.2.2.1.v R.2.2]) := by
 refine Se 18 Tryz.func6 [.tmp 2, .cell 3 27, .tmp 4] ?_
 intro H0 F0
 unfold s_DrawAnswersOf at hF
 iterate 2 refine au ?_
 refine AnW (fun k1 => ?_)
 iterate 4 refine au ?_
 refine bnd hF fun r2 hx3 hF => Cx2 (s_l1New_ok _ _ _ hx3) (fun p4 => ?_)
 refine bnd hF fun r5 hx6 hF => Cx5 (s_l4Draw_ok _ _ _ _ _ hx6) (fun p7 => ?_)
 refine au ?_
 refine C_val (V_extract (l := [p7.1.v, (.agg [p7.2.2.1.v, p7.2.2.2.2.1.v].toArray), p7.2.2.2.2.2.2.1.v]) (v := p7.1.v) (.tmp rfl rfl) rfl) ?_
 refine C_val (V_extract (l := [p7.1.v, (.agg [p7.2.2.1.v, p7.2.2.2.2.1.v].toArray), p7.2.2.2.2.2.2.1.v]) (v := (.agg [p7.2.2.1.v, p7.2.2.2.2.1.v].toArray)) (.tmp rfl rfl) rfl) ?_
 refine C_val (V_extract (l := [p7.1.v, (.agg [p7.2.2.1.v, p7.2.2.2.2.1.v].toArray), p7.2.2.2.2.2.2.1.v]) (v := p7.2.2.2.2.2.2.1.v) (.tmp rfl rfl) rfl) ?_
 refine AnW (fun k8 => ?_)
 refine au ?_
 refine As (.agg [p7.2.2.1.v, p7.2.2.2.2.1.v].toArray) ?_
 iterate 2 refine au ?_
 refine K_draw [0, 1, 2, 3, 4, 5] [0, 0, 0, 1, 11, 31] [4] mixed (by decide +kernel) ?_
 refine du ?_
 refine D_atO rfl .no .h (fun ha hp => V_loadBox ag27.h ty27.h.sz rfl (EN ha (.tmp rfl rfl) rfl) hp.2 rfl) ?_
 iterate 2 refine du ?_
 refine D_act1 rfl rfl .no (.cons (.t (.t (.t (.t (.t (.t (.t .h))))))) .nil) (.dep rfl .nil) (fun ha => X_storeB (e' := (.agg [p7.2.2.1.v, p7.2.2.2.2.1.v].toArray)) (v := (.agg [p7.2.2.1.v, p7.2.2.2.2.1.v].toArray)) ty27.h.sz (EN ha (.tmp rfl rfl) rfl) (EN ha (.tmp rfl rfl) rfl) rfl rfl rfl rfl rfl) (fun _ => ?_)
 iterate 2 refine du ?_
 refine au ?_
 cases hF
 exact End_ret (p7.1, p7.2.1, p7.2.2.1, p7.2.2.2.1, p7.2.2.2.2.1, p7.2.2.2.2.2.1, p7.2.2.2.2.2.2.1, p7.2.2.2.2.2.2.2) (.tmp rfl rfl (.cellA rfl rfl .h rfl ag27.h ty27.h.sz rfl rfl (.tmp rfl rfl .nil))) rfl (.sel (.cons (.t (.t .h)) (.cons (.t (.t .h)) (.cons (.t (.t .h)) (.cons (.t (.t .h)) .nil)))))
def l_at (a_code : List UInt8) (a_i : Int) : Option (Int) :=
 if (decide ((a_i : Int) < (a_code.length : Int))) then (
   (ix a_code a_i).bind fun x1 =>
   some (x1.toNat : Int))
 else (
   some (Int.tmod (IntKind.i64.wrap ((IntKind.i64.wrap (a_i * 37)) + (IntKind.i64.wrap ((a_code.length : Int) * 11)))) 256))
theorem l_at_ok (a_code : List UInt8) (v0_0 : Sv) (a_i : Int) (R : Int) (hF : l_at a_code a_i = some R) :
   Fw.Spec Tryz.prog 7 [v0_0.v, (.int .i64 a_i)] [crd (RdS 5 rdU8) v0_0.v a_code] (fun _ : Unit => (.int .i64 R)) (fun _ => []) := by
 refine Se 21 Tryz.func7 [.tmp 4] ?_
 intro H0 F0
 unfold l_at at hF
 iterate 10 refine au ?_
 refine Ci hF (fun hb7 hF => ?_) (fun hb7 hF => ?_)
 · iterate 3 refine au ?_
   refine bnd hF fun x1 hx2 hF => ?_
   obtain ⟨hp3, hx4⟩ := ix_some hx2
   refine Ai hx4 (fun k5 j6 => ?_)
   refine Al ls5_0 ?_
   refine C_val (V_convFromU8 (u := x1) ik5 ik3 (.tmp rfl rfl)) ?_
   iterate 3 refine au ?_
   cases hF
   exact Er ()
 iterate 8 refine au ?_
 refine C_val (V_rem (i := (IntKind.i64.wrap ((IntKind.i64.wrap (a_i * 37)) + (IntKind.i64.wrap ((a_code.length : Int) * 11))))) (j := 256) (.tmp rfl rfl) (.int _ _) (by decide)) ?_
 iterate 3 refine au ?_
 cases hF
 exact Er ()
def g_slices_Clone_int_int (a_s : List Int) : Option ((List Int)) :=
 (app ([] : List Int) a_s).bind fun z5 =>
 some z5
theorem g_slices_Clone_int_int_ok (a_s : List Int) (v0_0 : Sv) (R : (List Int)) (hF : g_slices_Clone_int_int a_s = some R) :
   Fw.Spec Tryz.prog 101 [v0_0.v] [crd (RdS 3 rdInt) v0_0.v a_s] (fun p : Sv × List Nat => p.1.v) (fun p => [cown (OwnS 3 (roE rdInt)) p.2 p.1.v R]) := by
 refine Se 8 Tryz.func101 [.tmp 2] ?_
 intro H0 F0
 unfold g_slices_Clone_int_int at hF
 iterate 6 refine au ?_
 refine C_eqNil (xs := a_s) sl24.h (.tmp rfl rfl) .h crd_nilc (fun bn1 hn2 => ?_)
 refine au ?_
 refine Cc (fun hb3 => ?_) (fun hb3 => ?_)
 · have hnil := hn2 hb3
   replace hF : some [] = some R := by rw [hnil] at hF; simpa [app] using hF
   iterate 4 refine au ?_
   cases hF
   exact End_ret (⟨none, 0, 0⟩, []) (.tmp rfl rfl .nil) rfl (.conv .nil (own_nil (Ro := (roE rdInt)) (E := 3)) (.cons .nil) (.sel (.cons .h .nil)))
 iterate 2 refine au ?_
 refine C_new rfl (N_buildSliceT (g := true) sl24.h ty3.h .nil (vs := []) rfl rfl rfl (by simp)) (fun k4 => ?_)
 refine Cv1 (.cons .h .nil) (own_lit (Ro := (roE rdInt)) (E := 3) (F := []) (xs := ([] : List Int)) MkL_nil rfl rfl) ?_
 refine au ?_
 refine bnd hF fun z5 hx6 hF => C_x1 (.cons .h (.rd .h rfl .nil)) (X_appendO (Ro := (roE rdInt)) sl24.h ni24 ty3.h rfl rfl rfl (.tmp rfl rfl) (.tmp rfl rfl) hx6 src_rd) (fun p7 => ?_)
 iterate 3 refine au ?_
 cases hF
 exact Er (p7.1, p7.2)
def i_swapped_L1 (a_a : Int) (a_b : Int) : List Int → Nat → (List Int) → Option ((List Int))
 | [], k45, c40 => some c40
 | x47 :: rest46, k45, c40 => (if ((x47 : Int) == a_a) then (
       (chk (decide (0 ≤ (k45 : Int)) && decide ((k45 : Int) < (c40.length : Int)))).bind fun u61 =>
       (some (c40.set ((k45 : Int)).toNat a_b)).bind fun z63 =>
       some z63)
     else (
       if ((x47 : Int) == a_b) then (
         (chk (decide (0 ≤ (k45 : Int)) && decide ((k45 : Int) < (c40.length : Int)))).bind fun u69 =>
         (some (c40.set ((k45 : Int)).toNat a_a)).bind fun z71 =>
         some z71)
       else (
         some c40))).bind fun o54 =>
   match o54 with
   | c77 => i_swapped_L1 a_a a_b rest46 (k45 + 1) c77
def i_swapped (a_l : List Int) (a_a : Int) (a_b : Int) : Option ((List Int)) :=
 (g_slices_Clone_int_int a_l).bind fun r1 =>
 i_swapped_L1 a_a a_b a_l 0 r1
theorem i_swapped_ok (a_l : List Int) (v0_0 : Sv) (a_a : Int) (a_b : Int) (R : (List Int)) (hF : i_swapped a_l a_a a_b = some R) :
   Fw.Spec Tryz.prog 43 [v0_0.v, (.int .i64 a_a), (.int .i64 a_b)] [crd (RdS 3 rdInt) v0_0.v a_l] (fun p : Sv × List Nat => p.1.v) (fun p => [cown (OwnS 3 (roE rdInt)) p.2 p.1.v R]) := by
 refine Se 36 Tryz.func43 [.tmp 6] ?_
 intro H0 F0
 unfold i_swapped at hF
 iterate 5 refine au ?_
 refine bnd hF fun r1 hx2 hF => Cx1 (g_slices_Clone_int_int_ok _ _ _ hx2) (fun p3 => ?_)
 iterate 8 refine au ?_
 refine CW_block (CW_loop (m := a_l.length) (fun m43 f' cs' => ∃ (g : Fr) (k45 : Nat) (rest46 : List Int) (c40 : List Int) (F41 : List Nat), m43 = rest46.length ∧ f' = updL g [(1, (.int .i64 a_a)), (2, (.int .i64 a_b)), (7, p3.1.v), (12, v0_0.v), (13, (.int .i64 (a_l.length : Int))), (14, (.int .i64 (k45 : Int)))] ∧ List.drop k45 a_l = rest46 ∧ Ent cs' [cown (OwnS 3 (roE rdInt)) F41 p3.1.v c40, crd (RdS 3 rdInt) v0_0.v a_l] ∧ i_swapped_L1 a_a a_b rest46 k45 c40 = some R) ⟨_, 0, _, _, p3.2, rfl, eqA, rfl, entA, hF⟩ ?_)
 rintro m43 _ _ ⟨g44, k45, rest46, c40, F41, rfl, rfl, hd48, hE, hF⟩
 refine Kb hE a_l (fun hbd53 => ?_)
 rcases rest46 with _ | ⟨x47, rest46⟩
 · have hk49 := dn hd48
   rw [i_swapped_L1] at hF
   iterate 4 refine au ?_
   refine CdF ?_
   iterate 9 refine au ?_
   cases hF
   exact Er (p3.1, F41)
 obtain ⟨hk49, hx50, hd51⟩ := drop_cons hd48
 rw [i_swapped_L1] at hF
 iterate 4 refine au ?_
 refine CdT ?_
 refine au ?_
 obtain ⟨o54, hio54, hO55⟩ := bind_some hF
 refine K_cut (fun f' cs' => ∃ (c77 : List Int) (F76 : List Nat) (g : Fr), c77 = o54 ∧ f' = updL g [(1, (.int .i64 a_a)), (2, (.int .i64 a_b)), (7, p3.1.v), (12, v0_0.v), (13, (.int .i64 (a_l.length : Int))), (14, (.int .i64 (k45 : Int)))] ∧ Ent cs' [cown (OwnS 3 (roE rdInt)) F76 p3.1.v c77, crd (RdS 3 rdInt) v0_0.v a_l]) ?_ ?_
 · replace hF := hio54
   refine CW_block (K_region (Cm (.int .i64 (k45 : Int)) rfl rfl ?_))
   refine Ai hx50 (fun k56 j57 => ?_)
   refine Al ls3_0 ?_
   iterate 6 refine au ?_
   refine CW_block (K_region (Cm (.int .i64 a_a) rfl rfl ?_))
   iterate 3 refine au ?_
   refine Ci hF (fun hb75 hF => ?_) (fun hb75 hF => ?_)
   · iterate 4 refine au ?_
     refine bnd hF fun u61 hx62 hF => ?_
     have hi60 := chk_some hx62
     refine C_idxO sl24.h ty3.h.sz (.tmp rfl rfl) (.tmp rfl rfl) (.t .h) hi60 (fun k58 hk59 => ?_)
     refine bnd hF fun z63 hx64 hF => ?_
     replace hx64 := Option.some.inj hx64
     refine C_x1 (.cons (.t .h) .nil) (X_storeO (Ro := (roE rdInt)) (a := a_b) (i := (k45 : Int)) ty3.h.sz rfl (.tmp rfl rfl) (.tmp rfl rfl) hk59 hi60 (Mk_pure (fun _ => rfl)) (fun _ _ _ _ h => by obtain ⟨-, h⟩ := h; cases h; rfl)) (fun F65 => ?_)
     rw [hx64]
     refine au ?_
     cases hF
     exact ⟨_, F65, _, rfl, eqA, entA⟩
   iterate 5 refine au ?_
   refine Ci hF (fun hb74 hF => ?_) (fun hb74 hF => ?_)
   · iterate 4 refine au ?_
     refine bnd hF fun u69 hx70 hF => ?_
     have hi68 := chk_some hx70
     refine C_idxO sl24.h ty3.h.sz (.tmp rfl rfl) (.tmp rfl rfl) (.t .h) hi68 (fun k66 hk67 => ?_)
     refine bnd hF fun z71 hx72 hF => ?_
     replace hx72 := Option.some.inj hx72
     refine C_x1 (.cons (.t .h) .nil) (X_storeO (Ro := (roE rdInt)) (a := a_a) (i := (k45 : Int)) ty3.h.sz rfl (.tmp rfl rfl) (.tmp rfl rfl) hk67 hi68 (Mk_pure (fun _ => rfl)) (fun _ _ _ _ h => by obtain ⟨-, h⟩ := h; cases h; rfl)) (fun F73 => ?_)
     rw [hx72]
     refine au ?_
     cases hF
     exact ⟨_, F73, _, rfl, eqA, entA⟩
   refine au ?_
   cases hF
   exact ⟨_, F41, _, rfl, eqA, entA⟩
 rintro _ _ ⟨c77, F76, g79, rfl, rfl, hE⟩
 replace hF := hO55
 try dsimp only at hF
 refine K_ent hE ?_
 iterate 4 refine au ?_
 rw [wk k45]
 exact ⟨_, Nat.lt_succ_self _, _, k45 + 1, rest46, _, F76, rfl, eqA, hd51, entA, hF⟩
def g_cmp_isNaN_int (a_x : Int) : Option (Bool) :=
 some ((a_x : Int) != a_x)
theorem g_cmp_isNaN_int_ok (a_x : Int) (R : Bool) (hF : g_cmp_isNaN_int a_x = some R) :
   Fw.Spec Tryz.prog 180 [(.int .i64 a_x)] [] (fun _ : Unit => (.bool R)) (fun _ => []) := by
 refine Se 6 Tryz.func180 [.tmp 2] ?_
 intro H0 F0
 unfold g_cmp_isNaN_int at hF
 iterate 10 refine au ?_
 cases hF
 exact Er ()
def g_cmp_Compare_int (a_x : Int) (a_y : Int) : Option (Int) :=
 (g_cmp_isNaN_int a_x).bind fun r1 =>
 (g_cmp_isNaN_int a_y).bind fun r4 =>
 if r1 then (
   if r4 then (
     some 0)
   else (
     some (-1)))
 else (
   if r4 then (
     some 1)
   else (
     if (decide ((a_x : Int) < a_y)) then (
       some (-1))
     else (
       if (decide ((a_y : Int) < a_x)) then (
         some 1)
       else (
         some 0))))
theorem g_cmp_Compare_int_ok (a_x : Int) (a_y : Int) (R : Int) (hF : g_cmp_Compare_int a_x a_y = some R) :
   Fw.Spec Tryz.prog 148 [(.int .i64 a_x), (.int .i64 a_y)] [] (fun _ : Unit => (.int .i64 R)) (fun _ => []) := by
 refine Se 20 Tryz.func148 [.tmp 4] ?_
 intro H0 F0
 unfold g_cmp_Compare_int at hF
 iterate 5 refine au ?_
 refine bnd hF fun r1 hx2 hF => Cx0 (g_cmp_isNaN_int_ok _ _ hx2) (fun _ => ?_)
 iterate 4 refine au ?_
 refine bnd hF fun r4 hx5 hF => Cx0 (g_cmp_isNaN_int_ok _ _ hx5) (fun _ => ?_)
 iterate 6 refine au ?_
 refine Ci hF (fun hb11 hF => ?_) (fun hb11 hF => ?_)
 · iterate 4 refine au ?_
   refine Ci hF (fun hb7 hF => ?_) (fun hb7 hF => ?_)
   · iterate 4 refine au ?_
     cases hF
     exact Er ()
   iterate 5 refine au ?_
   cases hF
   exact Er ()
 iterate 5 refine au ?_
 refine Ci hF (fun hb10 hF => ?_) (fun hb10 hF => ?_)
 · iterate 4 refine au ?_
   cases hF
   exact Er ()
 iterate 7 refine au ?_
 refine Ci hF (fun hb9 hF => ?_) (fun hb9 hF => ?_)
 · iterate 4 refine au ?_
   cases hF
   exact Er ()
 iterate 7 refine au ?_
 refine Ci hF (fun hb8 hF => ?_) (fun hb8 hF => ?_)
 · iterate 4 refine au ?_
   cases hF
   exact Er ()
 iterate 5 refine au ?_
 cases hF
 exact Er ()
def g_slices_Compare_int_int_L1 (a_s1 : List Int) (a_s2 : List Int) : List Int → Nat → Option (Int)
 | [], k4 => if (decide (((a_s1.length : Int) : Int) < (a_s2.length : Int))) then (
     some (-1))
   else (
     some 0)
 | x6 :: rest5, k4 => if (decide (((a_s2.length : Int) : Int) ≤ (k4 : Int))) then (
     some 1)
   else (
     (ix a_s2 (k4 : Int)).bind fun x16 =>
     (g_cmp_Compare_int x6 x16).bind fun r22 =>
     if ((r22 : Int) != 0) then (
       some r22)
     else (
       g_slices_Compare_int_int_L1 a_s1 a_s2 rest5 (k4 + 1)))
def g_slices_Compare_int_int (a_s1 : List Int) (a_s2 : List Int) : Option (Int) :=
 g_slices_Compare_int_int_L1 a_s1 a_s2 a_s1 0
theorem g_slices_Compare_int_int_ok (a_s1 : List Int) (v0_0 : Sv) (a_s2 : List Int) (v1_0 : Sv) (R : Int) (hF : g_slices_Compare_int_int a_s1 a_s2 = some R) :
   Fw.Spec Tryz.prog 149 [v0_0.v, v1_0.v] [crd (RdS 3 rdInt) v0_0.v a_s1, crd (RdS 3 rdInt) v1_0.v a_s2] (fun _ : Unit => (.int .i64 R)) (fun _ => []) := by
 refine Se 36 Tryz.func149 [.tmp 4] ?_
 intro H0 F0
 unfold g_slices_Compare_int_int at hF
 iterate 9 refine au ?_
 refine CW_block (CW_loop (m := a_s1.length) (fun m2 f' cs' => ∃ (g : Fr) (k4 : Nat) (rest5 : List Int), m2 = rest5.length ∧ f' = updL g [(0, v0_0.v), (1, v1_0.v), (9, v0_0.v), (10, (.int .i64 (a_s1.length : Int))), (11, (.int .i64 (k4 : Int)))] ∧ List.drop k4 a_s1 = rest5 ∧ Ent cs' [crd (RdS 3 rdInt) v0_0.v a_s1, crd (RdS 3 rdInt) v1_0.v a_s2] ∧ g_slices_Compare_int_int_L1 a_s1 a_s2 rest5 k4 = some R) ⟨_, 0, _, rfl, eqA, rfl, entA, hF⟩ ?_)
 rintro m2 _ _ ⟨g3, k4, rest5, rfl, rfl, hd7, hE, hF⟩
 refine Kb hE a_s1 (fun hbd12 => ?_)
 rcases rest5 with _ | ⟨x6, rest5⟩
 · have hk8 := dn hd7
   rw [g_slices_Compare_int_int_L1] at hF
   iterate 4 refine au ?_
   refine CdF ?_
   iterate 12 refine au ?_
   refine Ci hF (fun hb13 hF => ?_) (fun hb13 hF => ?_)
   · iterate 4 refine au ?_
     cases hF
     exact Er ()
   iterate 5 refine au ?_
   cases hF
   exact Er ()
 obtain ⟨hk8, hx9, hd10⟩ := drop_cons hd7
 rw [g_slices_Compare_int_int_L1] at hF
 iterate 4 refine au ?_
 refine CdT ?_
 iterate 4 refine au ?_
 refine Ai hx9 (fun k14 j15 => ?_)
 refine Al ls3_0 ?_
 iterate 10 refine au ?_
 refine Ci hF (fun hb27 hF => ?_) (fun hb27 hF => ?_)
 · iterate 4 refine au ?_
   cases hF
   exact Er ()
 iterate 4 refine au ?_
 refine bnd hF fun x16 hx17 hF => ?_
 obtain ⟨hp18, hx19⟩ := ix_some hx17
 refine Ai hx19 (fun k20 j21 => ?_)
 refine Al ls3_0 ?_
 iterate 5 refine au ?_
 refine bnd hF fun r22 hx23 hF => Cx0 (g_cmp_Compare_int_ok _ _ _ hx23) (fun _ => ?_)
 iterate 6 refine au ?_
 refine Ci hF (fun hb26 hF => ?_) (fun hb26 hF => ?_)
 · iterate 5 refine au ?_
   cases hF
   exact Er ()
 iterate 5 refine au ?_
 rw [wk k4]
 exact ⟨_, Nat.lt_succ_self _, _, k4 + 1, rest5, rfl, eqA, hd10, entA, hF⟩
def g_cmp_Or_int_L1 : List Int → Nat → Option (Int)
 | [], k4 => some 0
 | x6 :: rest5, k4 => if ((x6 : Int) != 0) then (
     some x6)
   else (
     g_cmp_Or_int_L1 rest5 (k4 + 1))
def g_cmp_Or_int (a_vals : List Int) : Option (Int) :=
 g_cmp_Or_int_L1 a_vals 0
theorem g_cmp_Or_int_ok (a_vals : List Int) (v0_0 : Sv) (R : Int) (hF : g_cmp_Or_int a_vals = some R) :
   Fw.Spec Tryz.prog 147 [v0_0.v] [crd (RdS 3 rdInt) v0_0.v a_vals] (fun _ : Unit => (.int .i64 R)) (fun _ => []) := by
 refine Se 18 Tryz.func147 [.tmp 2] ?_
 intro H0 F0
 unfold g_cmp_Or_int at hF
 iterate 12 refine au ?_
 refine CW_block (CW_loop (m := a_vals.length) (fun m2 f' cs' => ∃ (g : Fr) (k4 : Nat) (rest5 : List Int), m2 = rest5.length ∧ f' = updL g [(3, (.int .i64 0)), (6, v0_0.v), (7, (.int .i64 (a_vals.length : Int))), (8, (.int .i64 (k4 : Int)))] ∧ List.drop k4 a_vals = rest5 ∧ Ent cs' [crd (RdS 3 rdInt) v0_0.v a_vals] ∧ g_cmp_Or_int_L1 rest5 k4 = some R) ⟨_, 0, _, rfl, eqA, rfl, entA, hF⟩ ?_)
 rintro m2 _ _ ⟨g3, k4, rest5, rfl, rfl, hd7, hE, hF⟩
 refine Kb hE a_vals (fun hbd12 => ?_)
 rcases rest5 with _ | ⟨x6, rest5⟩
 · have hk8 := dn hd7
   rw [g_cmp_Or_int_L1] at hF
   iterate 4 refine au ?_
   refine CdF ?_
   iterate 9 refine au ?_
   cases hF
   exact Er ()
 obtain ⟨hk8, hx9, hd10⟩ := drop_cons hd7
 rw [g_cmp_Or_int_L1] at hF
 iterate 4 refine au ?_
 refine CdT ?_
 iterate 3 refine au ?_
 refine Ai hx9 (fun k13 j14 => ?_)
 refine Al ls3_0 ?_
 iterate 7 refine au ?_
 refine Ci hF (fun hb16 hF => ?_) (fun hb16 hF => ?_)
 · iterate 5 refine au ?_
   cases hF
   exact Er ()
 iterate 5 refine au ?_
 rw [wk k4]
 exact ⟨_, Nat.lt_succ_self _, _, k4 + 1, rest5, rfl, eqA, hd10, entA, hF⟩
def i_CompareFacts (a_a : Fact) (a_b : Fact) : Option (Int) :=
 (g_cmp_Compare_int a_a.Rel a_b.Rel).bind fun r3 =>
 (g_slices_Compare_int_int a_a.Values a_b.Values).bind fun r6 =>
 (g_cmp_Or_int ([r3, r6] : List Int)).bind fun r10 =>
 some r10
theorem i_CompareFacts_ok (a_a : Fact) (v0_1 : Sv) (a_b : Fact) (v1_1 : Sv) (R : Int) (hF : i_CompareFacts a_a a_b = some R) :
   Fw.Spec Tryz.prog 98 [(.agg [(.int .i64 a_a.Rel), v0_1.v].toArray), (.agg [(.int .i64 a_b.Rel), v1_1.v].toArray)] [crd (RdS 3 rdInt) v0_1.v a_a.Values, crd (RdS 3 rdInt) v1_1.v a_b.Values] (fun _ : Unit => (.int .i64 R)) (fun _ => []) := by
 refine Se 17 Tryz.func98 [.tmp 4] ?_
 intro H0 F0
 unfold i_CompareFacts at hF
 refine au ?_
 refine AbR (fun k1 => ?_)
 refine AbR (fun k2 => ?_)
 iterate 2 refine au ?_
 refine K_draw [0, 1, 2, 3, 5, 6, 7, 8, 4, 9, 10, 11, 12] [0, 1, 0, 4, 15, 0, 32, 0, 128, 511, 1023, 2047, 4095] [4, 9, 11] mixed (by decide +kernel) ?_
 iterate 8 refine du ?_
 refine bnd hF fun r3 hx4 hF => Dx0 (g_cmp_Compare_int_ok _ _ _ hx4) (fun _ => ?_)
 refine bnd hF fun r6 hx7 hF => Dx0 (g_slices_Compare_int_int_ok _ _ _ _ _ hx7) (fun _ => ?_)
 refine D_new rfl .no rfl (fun ha => N_buildSliceT (g := true) (len := 2) (parts := [(0, .tmp 9), (1, .tmp 14)]) sl24.h ty3.h (.cons (EN ha (.tmp rfl rfl) rfl) (.cons (EN ha (.tmp rfl rfl) rfl) .nil)) (vs := [(.int .i64 r3), (.int .i64 r6)]) rfl rfl rfl (by intro v hv; simp at hv; rcases hv with rfl | rfl <;> rfl)) (fun k9 => ?_)
 refine Dv1 (.cons .h .nil) (own_lit (Ro := (roE rdInt)) (E := 3) (F := ([] ++ ([] ++ []))) (xs := ([r3, r6] : List Int)) (MkL_cons (Mk_pure (fun _ => rfl)) (MkL_cons (Mk_pure (fun _ => rfl)) MkL_nil apps) apps) rfl rfl) ?_
 refine bnd hF fun r10 hx11 hF => D_act1 rfl rfl .no (.cons .h .nil) (.dep rfl .nil) (fun ha => XC_bor frz_own (fun _ => .nil) (X_callS cf147.h (.cons (EN ha (.tmp rfl rfl) rfl) .nil) (g_cmp_Or_int_ok ([r3, r6] : List Int) (⟨(some ⟨k9, 0, none⟩), 2, 1⟩) _ hx11))) (fun _ => ?_)
 iterate 2 refine du ?_
 refine au ?_
 cases hF
 exact Er ()
def i_HasFact_1 (a_x : Fact) (a_e1 : Fact) : Option (Bool) :=
 (i_CompareFacts a_x a_e1).bind fun r2 =>
 some ((r2 : Int) == 0)
theorem i_HasFact_1_ok (a_x : Fact) (v0_1 : Sv) (kc1 : Nat) (a_e1 : Fact) (vc1_1 : Sv) (R : Bool) (hF : i_HasFact_1 a_x a_e1 = some R) :
   Fw.Spec Tryz.prog 129 [(.agg [(.int .i64 a_x.Rel), v0_1.v].toArray), (pz kc1)] [crd (RdS 3 rdInt) v0_1.v a_x.Values, cboR kc1 58 (.agg [(.int .i64 a_e1.Rel), vc1_1.v].toArray), crd (RdS 3 rdInt) vc1_1.v a_e1.Values] (fun _ : Unit => (.bool R)) (fun _ => []) := by
 refine Se 8 Tryz.func129 [.tmp 3] ?_
 intro H0 F0
 unfold i_HasFact_1 at hF
 refine au ?_
 refine AbR (fun k1 => ?_)
 iterate 5 refine au ?_
 refine bnd hF fun r2 hx3 hF => Cx0 (i_CompareFacts_ok _ _ _ _ _ hx3) (fun _ => ?_)
 iterate 4 refine au ?_
 cases hF
 exact Er ()
def g_slices_IndexFunc_impl_Fact_impl_Fact_iHasFact1_L1 (a_e1 : Fact) : List Fact → Nat → Option (Int)
 | [], k4 => some (-1)
 | x6 :: rest5, k4 => (i_HasFact_1 x6 a_e1).bind fun r16 =>
   if r16 then (
     some (k4 : Int))
   else (
     g_slices_IndexFunc_impl_Fact_impl_Fact_iHasFact1_L1 a_e1 rest5 (k4 + 1))
def g_slices_IndexFunc_impl_Fact_impl_Fact_iHasFact1 (a_s : List Fact) (a_e1 : Fact) : Option (Int) :=
 g_slices_IndexFunc_impl_Fact_impl_Fact_iHasFact1_L1 a_e1 a_s 0
theorem g_slices_IndexFunc_impl_Fact_impl_Fact_iHasFact1_ok (a_s : List Fact) (v0_0 : Sv) (kc1 : Nat) (a_e1 : Fact) (vc1_1 : Sv) (R : Int) (hF : g_slices_IndexFunc_impl_Fact_impl_Fact_iHasFact1 a_s a_e1 = some R) :
   Fw.Spec Tryz.prog 96 [v0_0.v, (.func (.func 129) [].toArray [(pz kc1)].toArray)] [crd (RdS 58 rd58) v0_0.v a_s, cboR kc1 58 (.agg [(.int .i64 a_e1.Rel), vc1_1.v].toArray), crd (RdS 3 rdInt) vc1_1.v a_e1.Values] (fun _ : Unit => (.int .i64 R)) (fun _ => []) := by
 refine Se 19 Tryz.func96 [.tmp 4] ?_
 intro H0 F0
 unfold g_slices_IndexFunc_impl_Fact_impl_Fact_iHasFact1 at hF
 iterate 9 refine au ?_
 refine CW_block (CW_loop (m := a_s.length) (fun m2 f' cs' => ∃ (g : Fr) (k4 : Nat) (rest5 : List Fact), m2 = rest5.length ∧ f' = updL g [(0, v0_0.v), (1, (.func (.func 129) [].toArray [(pz kc1)].toArray)), (7, (.int .i64 (a_s.length : Int))), (8, (.int .i64 (k4 : Int)))] ∧ List.drop k4 a_s = rest5 ∧ Ent cs' [crd (RdS 58 rd58) v0_0.v a_s, cboR kc1 58 (.agg [(.int .i64 a_e1.Rel), vc1_1.v].toArray), crd (RdS 3 rdInt) vc1_1.v a_e1.Values] ∧ g_slices_IndexFunc_impl_Fact_impl_Fact_iHasFact1_L1 a_e1 rest5 k4 = some R) ⟨_, 0, _, rfl, eqA, rfl, entA, hF⟩ ?_)
 rintro m2 _ _ ⟨g3, k4, rest5, rfl, rfl, hd7, hE, hF⟩
 refine Kb hE a_s (fun hbd12 => ?_)
 rcases rest5 with _ | ⟨x6, rest5⟩
 · have hk8 := dn hd7
   rw [g_slices_IndexFunc_impl_Fact_impl_Fact_iHasFact1_L1] at hF
   iterate 4 refine au ?_
   refine CdF ?_
   iterate 8 refine au ?_
   cases hF
   exact Er ()
 obtain ⟨hk8, hx9, hd10⟩ := drop_cons hd7
 rw [g_slices_IndexFunc_impl_Fact_impl_Fact_iHasFact1_L1] at hF
 iterate 4 refine au ?_
 refine CdT ?_
 iterate 10 refine au ?_
 refine Ai hx9 (fun k13 j14 => ?_)
 refine AlA1 (ul58_0_58 x6) la58_0_58 (fun p15 => ?_)
 refine bnd hF fun r16 hx17 hF => C_x0 (.rd .h rfl (.rd (.t (.t (.t .h))) rfl (.rd (.t (.t (.t (.t .h)))) rfl .nil))) (X_callCS cf129.h (.tmp rfl rfl) (.cons (.tmp rfl rfl) .nil) (i_HasFact_1_ok x6 p15 kc1 a_e1 vc1_1 _ hx17)) (fun _ => ?_)
 refine au ?_
 refine Ci hF (fun hb20 hF => ?_) (fun hb20 hF => ?_)
 · iterate 5 refine au ?_
   cases hF
   exact Er ()
 iterate 5 refine au ?_
 rw [wk k4]
 exact ⟨_, Nat.lt_succ_self _, _, k4 + 1, rest5, rfl, eqA, hd10, entA, hF⟩
def g_slices_ContainsFunc_impl_Fact_impl_Fact_iHasFact1 (a_s : List Fact) (a_e1 : Fact) : Option (Bool) :=
 (g_slices_IndexFunc_impl_Fact_impl_Fact_iHasFact1 a_s a_e1).bind fun r1 =>
 some (decide ((0 : Int) ≤ r1))
theorem g_slices_ContainsFunc_impl_Fact_impl_Fact_iHasFact1_ok (a_s : List Fact) (v0_0 : Sv) (kc1 : Nat) (a_e1 : Fact) (vc1_1 : Sv) (R : Bool) (hF : g_slices_ContainsFunc_impl_Fact_impl_Fact_iHasFact1 a_s a_e1 = some R) :
   Fw.Spec Tryz.prog 128 [v0_0.v, (.func (.func 129) [].toArray [(pz kc1)].toArray)] [crd (RdS 58 rd58) v0_0.v a_s, cboR kc1 58 (.agg [(.int .i64 a_e1.Rel), vc1_1.v].toArray), crd (RdS 3 rdInt) vc1_1.v a_e1.Values] (fun _ : Unit => (.bool R)) (fun _ => []) := by
 refine Se 9 Tryz.func128 [.tmp 4] ?_
 intro H0 F0
 unfold g_slices_ContainsFunc_impl_Fact_impl_Fact_iHasFact1 at hF
 iterate 6 refine au ?_
 refine bnd hF fun r1 hx2 hF => Cx0 (g_slices_IndexFunc_impl_Fact_impl_Fact_iHasFact1_ok _ _ _ _ _ _ hx2) (fun _ => ?_)
 iterate 4 refine au ?_
 cases hF
 exact Er ()
def i_HasFact (a_l : List Fact) (a_f : Fact) : Option (Bool) :=
 (g_slices_ContainsFunc_impl_Fact_impl_Fact_iHasFact1 a_l a_f).bind fun r2 =>
 some r2
theorem i_HasFact_ok (a_l : List Fact) (v0_0 : Sv) (a_f : Fact) (v1_1 : Sv) (R : Bool) (hF : i_HasFact a_l a_f = some R) :
   Fw.Spec Tryz.prog 71 [v0_0.v, (.agg [(.int .i64 a_f.Rel), v1_1.v].toArray)] [crd (RdS 58 rd58) v0_0.v a_l, crd (RdS 3 rdInt) v1_1.v a_f.Values] (fun _ : Unit => (.bool R)) (fun _ => []) := by
 refine Se 8 Tryz.func71 [.tmp 4] ?_
 intro H0 F0
 unfold i_HasFact at hF
 refine au ?_
 refine AbR (fun k1 => ?_)
 iterate 4 refine au ?_
 refine C_val (V_makeFunc (fn := .func 129) (vs := []) (us := [(pz k1)]) .nil (.cons (.tmp rfl rfl) .nil)) ?_
 refine bnd hF fun r2 hx3 hF => Cx0 (g_slices_ContainsFunc_impl_Fact_impl_Fact_iHasFact1_ok _ _ _ _ _ _ hx3) (fun _ => ?_)
 iterate 3 refine au ?_
 cases hF
 exact Er ()
def i_added_1 (a_x : Fact) (a_e1 : Fact) : Option (Bool) :=
 (i_CompareFacts a_x a_e1).bind fun r2 =>
 some (decide ((0 : Int) < r2))
theorem i_added_1_ok (a_x : Fact) (v0_1 : Sv) (kc1 : Nat) (a_e1 : Fact) (vc1_1 : Sv) (R : Bool) (hF : i_added_1 a_x a_e1 = some R) :
   Fw.Spec Tryz.prog 97 [(.agg [(.int .i64 a_x.Rel), v0_1.v].toArray), (pz kc1)] [crd (RdS 3 rdInt) v0_1.v a_x.Values, cboR kc1 58 (.agg [(.int .i64 a_e1.Rel), vc1_1.v].toArray), crd (RdS 3 rdInt) vc1_1.v a_e1.Values] (fun _ : Unit => (.bool R)) (fun _ => []) := by
 refine Se 8 Tryz.func97 [.tmp 3] ?_
 intro H0 F0
 unfold i_added_1 at hF
 refine au ?_
 refine AbR (fun k1 => ?_)
 iterate 5 refine au ?_
 refine bnd hF fun r2 hx3 hF => Cx0 (i_CompareFacts_ok _ _ _ _ _ hx3) (fun _ => ?_)
 iterate 4 refine au ?_
 cases hF
 exact Er ()
def g_slices_IndexFunc_impl_Fact_impl_Fact_iadded1_L1 (a_e1 : Fact) : List Fact → Nat → Option (Int)
 | [], k4 => some (-1)
 | x6 :: rest5, k4 => (i_added_1 x6 a_e1).bind fun r16 =>
   if r16 then (
     some (k4 : Int))
   else (
     g_slices_IndexFunc_impl_Fact_impl_Fact_iadded1_L1 a_e1 rest5 (k4 + 1))
def g_slices_IndexFunc_impl_Fact_impl_Fact_iadded1 (a_s : List Fact) (a_e1 : Fact) : Option (Int) :=
 g_slices_IndexFunc_impl_Fact_impl_Fact_iadded1_L1 a_e1 a_s 0
theorem g_slices_IndexFunc_impl_Fact_impl_Fact_iadded1_ok (a_s : List Fact) (v0_0 : Sv) (kc1 : Nat) (a_e1 : Fact) (vc1_1 : Sv) (R : Int) (hF : g_slices_IndexFunc_impl_Fact_impl_Fact_iadded1 a_s a_e1 = some R) :
   Fw.Spec Tryz.prog 96 [v0_0.v, (.func (.func 97) [].toArray [(pz kc1)].toArray)] [crd (RdS 58 rd58) v0_0.v a_s, cboR kc1 58 (.agg [(.int .i64 a_e1.Rel), vc1_1.v].toArray), crd (RdS 3 rdInt) vc1_1.v a_e1.Values] (fun _ : Unit => (.int .i64 R)) (fun _ => []) := by
 refine Se 19 Tryz.func96 [.tmp 4] ?_
 intro H0 F0
 unfold g_slices_IndexFunc_impl_Fact_impl_Fact_iadded1 at hF
 iterate 9 refine au ?_
 refine CW_block (CW_loop (m := a_s.length) (fun m2 f' cs' => ∃ (g : Fr) (k4 : Nat) (rest5 : List Fact), m2 = rest5.length ∧ f' = updL g [(0, v0_0.v), (1, (.func (.func 97) [].toArray [(pz kc1)].toArray)), (7, (.int .i64 (a_s.length : Int))), (8, (.int .i64 (k4 : Int)))] ∧ List.drop k4 a_s = rest5 ∧ Ent cs' [crd (RdS 58 rd58) v0_0.v a_s, cboR kc1 58 (.agg [(.int .i64 a_e1.Rel), vc1_1.v].toArray), crd (RdS 3 rdInt) vc1_1.v a_e1.Values] ∧ g_slices_IndexFunc_impl_Fact_impl_Fact_iadded1_L1 a_e1 rest5 k4 = some R) ⟨_, 0, _, rfl, eqA, rfl, entA, hF⟩ ?_)
 rintro m2 _ _ ⟨g3, k4, rest5, rfl, rfl, hd7, hE, hF⟩
 refine Kb hE a_s (fun hbd12 => ?_)
 rcases rest5 with _ | ⟨x6, rest5⟩
 · have hk8 := dn hd7
   rw [g_slices_IndexFunc_impl_Fact_impl_Fact_iadded1_L1] at hF
   iterate 4 refine au ?_
   refine CdF ?_
   iterate 8 refine au ?_
   cases hF
   exact Er ()
 obtain ⟨hk8, hx9, hd10⟩ := drop_cons hd7
 rw [g_slices_IndexFunc_impl_Fact_impl_Fact_iadded1_L1] at hF
 iterate 4 refine au ?_
 refine CdT ?_
 iterate 10 refine au ?_
 refine Ai hx9 (fun k13 j14 => ?_)
 refine AlA1 (ul58_0_58 x6) la58_0_58 (fun p15 => ?_)
 refine bnd hF fun r16 hx17 hF => C_x0 (.rd .h rfl (.rd (.t (.t (.t .h))) rfl (.rd (.t (.t (.t (.t .h)))) rfl .nil))) (X_callCS cf97.h (.tmp rfl rfl) (.cons (.tmp rfl rfl) .nil) (i_added_1_ok x6 p15 kc1 a_e1 vc1_1 _ hx17)) (fun _ => ?_)
 refine au ?_
 refine Ci hF (fun hb20 hF => ?_) (fun hb20 hF => ?_)
 · iterate 5 refine au ?_
   cases hF
   exact Er ()
 iterate 5 refine au ?_
 rw [wk k4]
 exact ⟨_, Nat.lt_succ_self _, _, k4 + 1, rest5, rfl, eqA, hd10, entA, hF⟩
def i_copyFact (a_f : Fact) : Option (Fact) :=
 (g_slices_Clone_int_int a_f.Values).bind fun r3 =>
 some ({ Rel := a_f.Rel, Values := r3 } : Fact)
theorem i_copyFact_ok (a_f : Fact) (v0_1 : Sv) (R : Fact) (hF : i_copyFact a_f = some R) :
   Fw.Spec Tryz.prog 100 [(.agg [(.int .i64 a_f.Rel), v0_1.v].toArray)] [crd (RdS 3 rdInt) v0_1.v a_f.Values] (fun p : Sv × List Nat => (.agg [(.int .i64 R.Rel), p.1.v].toArray)) (fun p => [cown (OwnS 3 (roE rdInt)) p.2 p.1.v R.Values]) := by
 refine Se 9 Tryz.func100 [.cell 2 58] ?_
 intro H0 F0
 unfold i_copyFact at hF
 refine au ?_
 refine AbR (fun k1 => ?_)
 refine AnW (fun k2 => ?_)
 refine au ?_
 refine K_draw [0, 1, 2, 3, 4, 5, 6] [0, 1, 0, 4, 12, 31, 63] [4, 6] mixed (by decide +kernel) ?_
 iterate 4 refine du ?_
 refine bnd hF fun r3 hx4 hF => Dx1 (g_slices_Clone_int_int_ok _ _ _ hx4) (fun p5 => ?_)
 refine D_val rfl .no (fun ha => V_build ty58.h rfl (vs := [(.int .i64 a_f.Rel), p5.1.v]) (.cons (EN ha (.tmp rfl rfl) rfl) (.cons (EN ha (.tmp rfl rfl) rfl) .nil)) (cells := [(.int .i64 a_f.Rel), p5.1.v]) rfl) ?_
 refine D_act1 rfl rfl .no (.cons (.t .h) .nil) .nil (fun ha => X_storeB (e' := (.agg [(.int .i64 a_f.Rel), p5.1.v].toArray)) (v := (.agg [(.int .i64 a_f.Rel), p5.1.v].toArray)) ty58.h.sz (EN ha (.tmp rfl rfl) rfl) (EN ha (.tmp rfl rfl) rfl) rfl rfl rfl rfl rfl) (fun _ => ?_)
 refine du ?_
 refine au ?_
 cases hF
 exact Er (p5.1, p5.2)
def g_slices_Insert_impl_Fact_impl_Fact (a_s : List Fact) (a_i : Int) (a_v : List Fact) : Option (List Fact) :=
 match a_v with
 | [a] => if 0 ≤ a_i ∧ a_i.toNat ≤ a_s.length ∧ a_s.length + 1 < 4294967296 then some (a_s.take a_i.toNat ++ a :: a_s.drop a_i.toNat) else none
 | _ => none
set_option maxHeartbeats 4000000 in
theorem g_slices_Insert_impl_Fact_impl_Fact_raw (es : List Value) (e : Value) (v u : Sv) (F F2 : List Nat) (i : Nat) (hi : i ≤ es.length) (hb : es.length + 1 < 4294967296) : Fw.Spec Tryz.prog 99 [v.v, .int .i64 (i : Int), u.v] [cown (OwnS 58 (roE (rvs 2))) F v.v es, cown (OwnS 58 (roE (rvs 2))) F2 u.v [e]] (fun q : Sv × List Nat => q.1.v) (fun q => [cown (OwnS 58 (roE (rvs 2))) q.2 q.1.v (es.take i ++ e :: es.drop i)]) := by
 refine Spec_enter (n := 95) Tryz.func99 rfl rfl (rs := [.tmp 6]) rfl rfl rfl ?_
 intro H0 F0
 refine K_region ?_
 refine C_val (V_assign (v := (.slice none 0 0)) EV.nilSlice) ?_
 refine C_nil ?_
 refine K_region ?_
 refine C_val (V_move (v := v.v) (.tmp rfl rfl)) ?_
 refine C_val (V_move (v := (.int .i64 (i : Int))) (.tmp rfl rfl)) ?_
 refine C_x1 (.cons .h .nil) (X_sliceLoE sl28.h ty58.h.sz (.tmp rfl rfl) (.tmp rfl rfl) hi) (fun w0 => ?_)
 refine C_nil ?_
 refine K_region ?_
 refine C_val (V_move (v := u.v) (.tmp rfl rfl)) ?_
 refine C_at (.t .h) (fun hp => V_lenR (l := 1) sl28.h (.tmp rfl rfl) (cown_len hp)) ?_
 refine C_val (V_assign (v := (.int .i64 ((1 : Nat) : Int))) (.tmp rfl rfl)) ?_
 refine C_nil ?_
 refine K_in ?_
 refine K_region ?_
 refine C_val (V_move (v := (.int .i64 ((1 : Nat) : Int))) (.tmp rfl rfl)) ?_
 refine C_val (V_eql (i := ((1 : Nat) : Int)) (j := 0) (.tmp rfl rfl) (.int _ _)) ?_
 refine C_nil ?_
 refine CW_cond (b := (((1 : Nat) : Int) == 0)) (.tmp rfl rfl) (fun hb0 => absurd hb0 (by decide)) (fun _ => ?_)
 refine CW_skip ?_
 refine K_region ?_
 refine C_val (V_move (v := v.v) (.tmp rfl rfl)) ?_
 refine C_at .h (fun hp => V_lenR (l := es.length) sl28.h (.tmp rfl rfl) (cown_len hp)) ?_
 refine C_val (V_assign (v := (.int .i64 (es.length : Int))) (.tmp rfl rfl)) ?_
 refine C_nil ?_
 refine K_in ?_
 refine K_region ?_
 refine C_val (V_move (v := (.int .i64 (i : Int))) (.tmp rfl rfl)) ?_
 refine C_val (V_move (v := (.int .i64 (es.length : Int))) (.tmp rfl rfl)) ?_
 refine C_val (V_eql (i := (i : Int)) (j := (es.length : Int)) (.tmp rfl rfl) (.tmp rfl rfl)) ?_
 refine C_nil ?_
 refine CW_cond (b := ((i : Int) == (es.length : Int))) (.tmp rfl rfl) (fun hb1 => ?_) (fun hb1 => ?_)
 · have hie : i = es.length := by simp only [beq_iff_eq] at hb1; omega
   refine K_region ?_
   refine C_val (V_move (v := v.v) (.tmp rfl rfl)) ?_
   refine C_val (V_move (v := u.v) (.tmp rfl rfl)) ?_
   refine C_x1 (.cons .h (.cons .h .nil)) (X_appendO (Ro := (roE (rvs 2))) sl28.h ni28 ty58.h rfl rfl rfl (.tmp rfl rfl) (.tmp rfl rfl) (app_ok (xs := es) (ys := [e]) (by simpa using hb)) src_own) (fun p => ?_)
   refine C_val (V_assign (v := p.1.v) (.tmp rfl rfl)) ?_
   refine C_nil ?_
   refine CW_ret ?_
   rw [hie, List.take_length, List.drop_length]
   exact End_ret p (.tmp rfl rfl .nil) rfl (.sel (.cons .h .nil))
 refine CW_skip ?_
 have hlt : i < es.length := by simp at hb1; omega
 refine K_pure .h (own_form (by intro h; rw [h] at hlt; simp at hlt)) (fun hv => ?_)
 obtain ⟨k0, m0, rfl, hm0⟩ := hv
 refine K_pure (.t .h) (own_form (by simp)) (fun hu => ?_)
 obtain ⟨k1, m1, rfl, hm1⟩ := hu
 refine K_cap (t := 0) (k := k0) (l := es.length) (m := m0) rfl rfl hm0 (by omega) .h rfl (fun c hc => ?_)
 have w1 : IntKind.i64.wrap ((es.length : Int) + ((1 : Nat) : Int)) = ((es.length + 1 : Nat) : Int) := by rw [wrap_in (by omega) (by omega)]; rfl
 have w2 : IntKind.i64.wrap ((i : Int) + ((1 : Nat) : Int)) = ((i + 1 : Nat) : Int) := by rw [wrap_in (by omega) (by omega)]; rfl
 have w3 : IntKind.i64.wrap (((es.length + 1 : Nat) : Int) - (i : Int)) = ((es.length + 1 - i : Nat) : Int) := by rw [wrap_in (by omega) (by omega)]; omega
 have hel : (es.take i ++ e :: es.drop i).length = es.length + 1 := ins_len hi
 refine K_in ?_
 refine K_region ?_
 refine C_val (V_move (v := (.int .i64 (es.length : Int))) (.tmp rfl rfl)) ?_
 refine C_val (V_move (v := (.int .i64 ((1 : Nat) : Int))) (.tmp rfl rfl)) ?_
 refine C_val (V_add (i := (es.length : Int)) (j := ((1 : Nat) : Int)) (.tmp rfl rfl) (.tmp rfl rfl)) ?_
 rw [w1]
 refine C_val (V_move (v := (.slice (some ⟨k0, 0, none⟩) es.length (c + 3))) (.tmp rfl rfl)) ?_
 refine C_at .h (fun hp => V_capO sl28.h hp rfl (.tmp rfl rfl)) ?_
 refine C_val (V_gtr (i := ((es.length + 1 : Nat) : Int)) (j := (c : Int)) (.tmp rfl rfl) (.tmp rfl rfl)) ?_
 refine C_nil ?_
 refine CW_cond (b := (decide ((c : Int) < ((es.length + 1 : Nat) : Int)))) (.tmp rfl rfl) (fun hb2 => ?_) (fun hb2 => ?_)
 · have hcl : c < es.length + 1 := by simp only [decide_eq_true_eq] at hb2; omega
   refine K_region ?_
   refine C_val (V_move (v := (.slice (some ⟨k0, 0, none⟩) es.length (c + 3))) (.tmp rfl rfl)) ?_
   refine C_val (V_move (v := (.int .i64 (i : Int))) (.tmp rfl rfl)) ?_
   refine C_at .h (fun hp => V_sliceCapO (j := i) sl28.h ty58.h.sz hp rfl (.tmp rfl rfl) (.tmp rfl rfl) (by omega)) ?_
   refine C_val (V_move (v := (.int .i64 (es.length : Int))) (.tmp rfl rfl)) ?_
   refine C_val (V_move (v := (.int .i64 ((1 : Nat) : Int))) (.tmp rfl rfl)) ?_
   refine C_val (V_add (i := (es.length : Int)) (j := ((1 : Nat) : Int)) (.tmp rfl rfl) (.tmp rfl rfl)) ?_
   rw [w1]
   refine C_val (V_move (v := (.int .i64 (i : Int))) (.tmp rfl rfl)) ?_
   refine C_val (V_sub (i := ((es.length + 1 : Nat) : Int)) (j := (i : Int)) (.tmp rfl rfl) (.tmp rfl rfl)) ?_
   rw [w3]
   refine C_x2 (.cons .h .nil) (X_appendMake (c := c) (q := es.length + 1 - i) sl28.h ik3 ty58.h rfl rfl rfl rfl rfl rfl (.tmp rfl rfl) (.tmp rfl rfl) (by omega) (by omega) (by omega) (by omega)) (fun k2 => ?_)
   rw [show i + (es.length + 1 - i) = es.length + 1 from by omega]
   refine C_val (V_assign (v := (.slice (some ⟨k2, 0, none⟩) (es.length + 1) 2)) (.tmp rfl rfl)) ?_
   refine C_nil ?_
   refine K_region ?_
   refine C_val (V_move (v := (.slice (some ⟨k2, 0, none⟩) (es.length + 1) 2)) (.tmp rfl rfl)) ?_
   refine C_val (V_move (v := (.int .i64 (i : Int))) (.tmp rfl rfl)) ?_
   refine C_at .h (fun hp => V_sliceLoO (j := i) sl28.h ty58.h.sz hp rfl (.tmp rfl rfl) (.tmp rfl rfl) (by omega)) ?_
   refine C_val (V_move (v := (.slice (some ⟨k1, 0, none⟩) 1 m1)) (.tmp rfl rfl)) ?_
   refine C_x2 (.cons .h (.cons (.t .h) .nil)) (X_copy2 (m1 := 0) (m2 := m1) (ia := i) (ja := 0) (ld := es.length + 1 - i) (ls := 1) (es2 := [e]) (es' := es.take i ++ e :: List.replicate (es.length - i) (.agg [(.int .i64 0), (.slice none 0 0)].toArray)) sl28.h ty58.h.sz rfl rfl rfl (by exact .tmp rfl rfl) (by exact .tmp rfl rfl) (by omega) (by omega) (by rw [List.length_singleton]; omega) (by simp; omega) (ins_l1 (e := e) (z := (.agg [(.int .i64 0), (.slice none 0 0)].toArray)) hlt) (by simp; omega)) (fun _ => ?_)
   refine C_nil ?_
   refine K_draw [0, 1, 2, 3, 4, 5, 6, 7, 8] [0, 0, 0, 6, 15, 0, 0, 96, 255] [8] mixed (by decide +kernel) ?_
   refine D_val rfl .no (fun ha => V_move (v := (.slice (some ⟨k2, 0, none⟩) (es.length + 1) 2)) (EN ha (.tmp rfl rfl) rfl)) ?_
   refine D_val rfl .no (fun ha => V_move (v := (.int .i64 (i : Int))) (EN ha (.tmp rfl rfl) rfl)) ?_
   refine D_val rfl .no (fun ha => V_move (v := (.int .i64 ((1 : Nat) : Int))) (EN ha (.tmp rfl rfl) rfl)) ?_
   refine D_val rfl .no (fun ha => V_add (i := (i : Int)) (j := ((1 : Nat) : Int)) (EN ha (.tmp rfl rfl) rfl) (EN ha (.tmp rfl rfl) rfl)) ?_
   rw [w2]
   refine D_atO rfl .no .h (fun ha hp => V_sliceLoO (j := i + 1) sl28.h ty58.h.sz hp rfl (EN ha (.tmp rfl rfl) rfl) (EN ha (.tmp rfl rfl) rfl) (by omega)) ?_
   refine D_val rfl .no (fun ha => V_move (v := (.slice (some ⟨k0, 0, none⟩) es.length (c + 3))) (EN ha (.tmp rfl rfl) rfl)) ?_
   refine D_val rfl .no (fun ha => V_move (v := (.int .i64 (i : Int))) (EN ha (.tmp rfl rfl) rfl)) ?_
   refine D_atO rfl .no (.t (.t .h)) (fun ha hp => V_sliceLoO (j := i) sl28.h ty58.h.sz hp rfl (EN ha (.tmp rfl rfl) rfl) (EN ha (.tmp rfl rfl) rfl) (by omega)) ?_
   refine D_act2 rfl rfl .no (.cons .h (.cons (.t .h) .nil)) (.dep rfl (.dep rfl .nil)) (fun ha => X_copy2 sl28.h ty58.h.sz rfl rfl rfl (EN ha (.tmp rfl rfl) rfl) (EN ha (.tmp rfl rfl) rfl) (by omega) (by omega) (by omega) (by simp; omega) (ins_l2 (e := e) (z := (.agg [(.int .i64 0), (.slice none 0 0)].toArray)) hlt) (by omega)) (fun _ => ?_)
   refine D_nil ?_
   refine K_region ?_
   refine C_val (V_move (v := (.slice (some ⟨k2, 0, none⟩) (es.length + 1) 2)) (.tmp rfl rfl)) ?_
   refine C_val (V_assign (v := (.slice (some ⟨k2, 0, none⟩) (es.length + 1) 2)) (.tmp rfl rfl)) ?_
   refine C_nil ?_
   refine CW_ret ?_
   rw [hel]
   exact End_ret (⟨some ⟨k2, 0, none⟩, es.length + 1, 2⟩, [k2]) (.tmp rfl rfl .nil) rfl (.sel (.cons .h .nil))
 refine CW_skip ?_
 have hcl : es.length + 1 ≤ c := by simp only [decide_eq_false_iff_not] at hb2; omega
 refine K_region ?_
 refine C_val (V_move (v := (.slice (some ⟨k0, 0, none⟩) es.length (c + 3))) (.tmp rfl rfl)) ?_
 refine C_val (V_move (v := (.int .i64 (es.length : Int))) (.tmp rfl rfl)) ?_
 refine C_val (V_move (v := (.int .i64 ((1 : Nat) : Int))) (.tmp rfl rfl)) ?_
 refine C_val (V_add (i := (es.length : Int)) (j := ((1 : Nat) : Int)) (.tmp rfl rfl) (.tmp rfl rfl)) ?_
 rw [w1]
 refine C_at .h (fun hp => V_sliceCapO (j := es.length + 1) sl28.h ty58.h.sz hp rfl (.tmp rfl rfl) (.tmp rfl rfl) hcl) ?_
 refine C_val (V_assign (v := (.slice (some ⟨k0, 0, none⟩) (es.length + 1) (c + 3))) (.tmp rfl rfl)) ?_
 refine C_nil ?_
 refine K_in ?_
 refine K_region ?_
 refine C_val (V_move (v := (.slice (some ⟨k1, 0, none⟩) 1 m1)) (.tmp rfl rfl)) ?_
 refine C_val (V_move (v := (.slice (some ⟨k0, 0, none⟩) (es.length + 1) (c + 3))) (.tmp rfl rfl)) ?_
 refine C_val (V_move (v := (.int .i64 (i : Int))) (.tmp rfl rfl)) ?_
 refine C_val (V_move (v := (.int .i64 ((1 : Nat) : Int))) (.tmp rfl rfl)) ?_
 refine C_val (V_add (i := (i : Int)) (j := ((1 : Nat) : Int)) (.tmp rfl rfl) (.tmp rfl rfl)) ?_
 rw [w2]
 refine C_at .h (fun hp => V_sliceLoO (j := i + 1) sl28.h ty58.h.sz hp rfl (.tmp rfl rfl) (.tmp rfl rfl) (by omega)) ?_
 refine C_x2 (.cons (.t .h) (.cons .h .nil)) (X_overlaps sl28.h ty58.h.sz rfl hov150 rfl rfl (.tmp rfl rfl) (.tmp rfl rfl) (by omega) (by omega)) (fun _ => ?_)
 refine C_val (V_not (b := false) (.tmp rfl rfl)) ?_
 refine C_nil ?_
 refine CW_cond (b := (!false)) (.tmp rfl rfl) (fun _ => ?_) (fun h => absurd h (by decide))
 refine K_draw [0, 1, 2, 3, 4, 5, 6, 7, 8] [0, 0, 0, 6, 15, 0, 0, 96, 255] [8] mixed (by decide +kernel) ?_
 refine D_val rfl .no (fun ha => V_move (v := (.slice (some ⟨k0, 0, none⟩) (es.length + 1) (c + 3))) (EN ha (.tmp rfl rfl) rfl)) ?_
 refine D_val rfl .no (fun ha => V_move (v := (.int .i64 (i : Int))) (EN ha (.tmp rfl rfl) rfl)) ?_
 refine D_val rfl .no (fun ha => V_move (v := (.int .i64 ((1 : Nat) : Int))) (EN ha (.tmp rfl rfl) rfl)) ?_
 refine D_val rfl .no (fun ha => V_add (i := (i : Int)) (j := ((1 : Nat) : Int)) (EN ha (.tmp rfl rfl) rfl) (EN ha (.tmp rfl rfl) rfl)) ?_
 rw [w2]
 refine D_atO rfl .no (.t .h) (fun ha hp => V_sliceLoO (j := i + 1) sl28.h ty58.h.sz hp rfl (EN ha (.tmp rfl rfl) rfl) (EN ha (.tmp rfl rfl) rfl) (by omega)) ?_
 refine D_val rfl .no (fun ha => V_move (v := (.slice (some ⟨k0, 0, none⟩) (es.length + 1) (c + 3))) (EN ha (.tmp rfl rfl) rfl)) ?_
 refine D_val rfl .no (fun ha => V_move (v := (.int .i64 (i : Int))) (EN ha (.tmp rfl rfl) rfl)) ?_
 refine D_atO rfl .no (.t .h) (fun ha hp => V_sliceLoO (j := i) sl28.h ty58.h.sz hp rfl (EN ha (.tmp rfl rfl) rfl) (EN ha (.tmp rfl rfl) rfl) (by omega)) ?_
 refine D_act1 rfl rfl .no (.cons (.t .h) .nil) (.dep rfl (.dep rfl .nil)) (fun ha => X_copyS sl28.h ty58.h.sz rfl rfl (EN ha (.tmp rfl rfl) rfl) (EN ha (.tmp rfl rfl) rfl) (by omega) (by omega) (by omega) (by omega) (ins_l3 hlt) (by simp; omega)) (fun _ => ?_)
 refine D_nil ?_
 refine K_region ?_
 refine C_val (V_move (v := (.slice (some ⟨k0, 0, none⟩) (es.length + 1) (c + 3))) (.tmp rfl rfl)) ?_
 refine C_val (V_move (v := (.int .i64 (i : Int))) (.tmp rfl rfl)) ?_
 refine C_at .h (fun hp => V_sliceLoO (j := i) sl28.h ty58.h.sz hp rfl (.tmp rfl rfl) (.tmp rfl rfl) (by omega)) ?_
 refine C_val (V_move (v := (.slice (some ⟨k1, 0, none⟩) 1 m1)) (.tmp rfl rfl)) ?_
 refine C_x2 (.cons .h (.cons .h .nil)) (X_copy2 (m1 := 0) (m2 := m1) (ia := i) (ja := 0) (ld := es.length + 1 - i) (ls := 1) (es2 := [e]) (es' := es.take i ++ e :: es.drop i) sl28.h ty58.h.sz rfl rfl rfl (by exact .tmp rfl rfl) (by exact .tmp rfl rfl) (by omega) (by omega) (by rw [List.length_singleton]; omega) (by simp; omega) (ins_l4 (e := e) hlt) (by omega)) (fun _ => ?_)
 refine C_nil ?_
 refine K_region ?_
 refine C_val (V_move (v := (.slice (some ⟨k0, 0, none⟩) (es.length + 1) (c + 3))) (.tmp rfl rfl)) ?_
 refine C_val (V_assign (v := (.slice (some ⟨k0, 0, none⟩) (es.length + 1) (c + 3))) (.tmp rfl rfl)) ?_
 refine C_nil ?_
 refine K_uncap (t := 6) (k := k0) (l := es.length + 1) (c := c) rfl rfl ?_
 refine CW_ret ?_
 rw [hel]
 exact End_ret (⟨some ⟨k0, 0, none⟩, es.length + 1, 2⟩, F) (.tmp rfl rfl .nil) rfl (.sel (.cons .h .nil))
theorem g_slices_Insert_impl_Fact_impl_Fact_ok (a_s : List Fact) (v0_0 : Sv) (F0_0 : List Nat) (a_i : Int) (a_v : List Fact) (v2_0 : Sv) (F2_0 : List Nat) (R : List Fact) (hF : g_slices_Insert_impl_Fact_impl_Fact a_s a_i a_v = some R) :
   Fw.Spec Tryz.prog 99 [v0_0.v, .int .i64 a_i, v2_0.v] [cown (OwnS 58 ow58) F0_0 v0_0.v a_s, cown (OwnS 58 ow58) F2_0 v2_0.v a_v] (fun p : Sv × List Nat => p.1.v) (fun p => [cown (OwnS 58 ow58) p.2 p.1.v R]) := by
 unfold g_slices_Insert_impl_Fact_impl_Fact at hF
 rcases a_v with _ | ⟨a, _ | ⟨_, _⟩⟩
 · simp at hF
 · dsimp only at hF
   split at hF
   · rename_i h
     obtain ⟨h0, h1, h2⟩ := h
     obtain ⟨i, rfl⟩ : ∃ i : Nat, a_i = (i : Int) := ⟨a_i.toNat, by omega⟩
     cases hF
     rw [Int.toNat_natCast] at h1 ⊢
     exact Spec_insD (s := 2) fun es e Fa Fb hl => g_slices_Insert_impl_Fact_impl_Fact_raw es e v0_0 v2_0 Fa Fb i (by omega) (by omega)
   · simp at hF
 · simp at hF
def i_added (a_l : List Fact) (a_f : Fact) : Option ((List Fact)) :=
 (i_HasFact a_l a_f).bind fun r2 =>
 if r2 then (
   some a_l)
 else (
   (g_slices_IndexFunc_impl_Fact_impl_Fact_iadded1 a_l a_f).bind fun r5 =>
   if (decide ((r5 : Int) < 0)) then (
     (i_copyFact a_f).bind fun r8 =>
     (g_slices_Insert_impl_Fact_impl_Fact a_l (a_l.length : Int) ([r8] : List Fact)).bind fun r12 =>
     some r12)
   else (
     (i_copyFact a_f).bind fun r15 =>
     (g_slices_Insert_impl_Fact_impl_Fact a_l r5 ([r15] : List Fact)).bind fun r19 =>
     some r19))
theorem i_added_ok (a_l : List Fact) (v0_0 : Sv) (F0_0 : List Nat) (a_f : Fact) (v1_1 : Sv) (R : (List Fact)) (hF : i_added a_l a_f = some R) :
   Fw.Spec Tryz.prog 42 [v0_0.v, (.agg [(.int .i64 a_f.Rel), v1_1.v].toArray)] [cown (OwnS 58 ow58) F0_0 v0_0.v a_l, crd (RdS 3 rdInt) v1_1.v a_f.Values] (fun p : Sv × List Nat => p.1.v) (fun p => [cown (OwnS 58 ow58) p.2 p.1.v R]) := by
 refine Se 23 Tryz.func42 [.tmp 4] ?_
 intro H0 F0
 unfold i_added at hF
 refine au ?_
 refine AbR (fun k1 => ?_)
 iterate 6 refine au ?_
 refine bnd hF fun r2 hx3 hF => C_x1 (.cons (.t .h) (.rd (.t .h) rfl .nil)) (XC_bor frz_own (fun _ => .nil) (X_callS cf71.h (.cons (.tmp rfl rfl) (.cons (.tmp rfl rfl) .nil)) (i_HasFact_ok a_l v0_0 a_f v1_1 _ hx3))) (fun _ => ?_)
 refine au ?_
 refine Ci hF (fun hb23 hF => ?_) (fun hb23 hF => ?_)
 · iterate 5 refine au ?_
   cases hF
   exact Er (v0_0, F0_0)
 iterate 3 refine au ?_
 refine C_val (V_makeFunc (fn := .func 97) (vs := []) (us := [(pz k1)]) .nil (.cons (.tmp rfl rfl) .nil)) ?_
 refine bnd hF fun r5 hx6 hF => C_x1 (.cons .h (.rd .h rfl (.rd (.t .h) rfl .nil))) (XC_bor frz_own (fun _ => .nil) (X_callS cf96.h (.cons (.tmp rfl rfl) (.cons (.tmp rfl rfl) .nil)) (g_slices_IndexFunc_impl_Fact_impl_Fact_iadded1_ok a_l v0_0 k1 a_f v1_1 _ hx6))) (fun _ => ?_)
 iterate 7 refine au ?_
 refine Ci hF (fun hb22 hF => ?_) (fun hb22 hF => ?_)
 · iterate 9 refine au ?_
   refine bnd hF fun r8 hx9 hF => Cx1 (i_copyFact_ok _ _ _ hx9) (fun p10 => ?_)
   refine C_new rfl (N_buildSliceT (g := true) sl28.h ty58.h (.cons (.tmp rfl rfl) .nil) (vs := [(.agg [(.int .i64 r8.Rel), p10.1.v].toArray)]) rfl rfl rfl (by intro v hv; simp at hv; rcases hv with rfl <;> rfl)) (fun k11 => ?_)
   refine Cv1 (.cons .h (.cons .h .nil)) (own_lit (Ro := ow58) (E := 58) (F := (p10.2 ++ [])) (xs := ([r8] : List Fact)) (MkL_cons mk58 MkL_nil apps) rfl rfl) ?_
   refine bnd hF fun r12 hx13 hF => Cx1 (g_slices_Insert_impl_Fact_impl_Fact_ok _ _ _ _ _ (⟨(some ⟨k11, 0, none⟩), 1, 1⟩) _ _ hx13) (fun p14 => ?_)
   iterate 3 refine au ?_
   cases hF
   exact Er (p14.1, p14.2)
 iterate 5 refine au ?_
 refine bnd hF fun r15 hx16 hF => Cx1 (i_copyFact_ok _ _ _ hx16) (fun p17 => ?_)
 refine C_new rfl (N_buildSliceT (g := true) sl28.h ty58.h (.cons (.tmp rfl rfl) .nil) (vs := [(.agg [(.int .i64 r15.Rel), p17.1.v].toArray)]) rfl rfl rfl (by intro v hv; simp at hv; rcases hv with rfl <;> rfl)) (fun k18 => ?_)
 refine Cv1 (.cons .h (.cons .h .nil)) (own_lit (Ro := ow58) (E := 58) (F := (p17.2 ++ [])) (xs := ([r15] : List Fact)) (MkL_cons mk58 MkL_nil apps) rfl rfl) ?_
 refine bnd hF fun r19 hx20 hF => Cx1 (g_slices_Insert_impl_Fact_impl_Fact_ok _ _ _ _ _ (⟨(some ⟨k18, 0, none⟩), 1, 1⟩) _ _ hx20) (fun p21 => ?_)
 iterate 3 refine au ?_
 cases hF
 exact Er (p21.1, p21.2)
def i_SwapFacts_L1 (a_a : Int) (a_b : Int) : List Fact → Nat → (List Fact) → Option ((List Fact))
 | [], k8, c2 => some c2
 | x10 :: rest9, k8, c2 => (i_swapped x10.Values a_a a_b).bind fun r21 =>
   (i_added c2 ({ Rel := x10.Rel, Values := r21 } : Fact)).bind fun r24 =>
   i_SwapFacts_L1 a_a a_b rest9 (k8 + 1) r24
def i_SwapFacts (a_facts : List Fact) (a_a : Int) (a_b : Int) : Option ((List Fact)) :=
 i_SwapFacts_L1 a_a a_b a_facts 0 ([] : List Fact)
theorem i_SwapFacts_ok (a_facts : List Fact) (v0_0 : Sv) (a_a : Int) (a_b : Int) (R : (List Fact)) (hF : i_SwapFacts a_facts a_a a_b = some R) :
   Fw.Spec Tryz.prog 8 [v0_0.v, (.int .i64 a_a), (.int .i64 a_b)] [crd (RdS 58 rd58) v0_0.v a_facts] (fun p : Sv × List Nat => p.1.v) (fun p => [cown (OwnS 58 ow58) p.2 p.1.v R]) := by
 refine Se 29 Tryz.func8 [.tmp 6] ?_
 intro H0 F0
 unfold i_SwapFacts at hF
 iterate 4 refine au ?_
 refine C_new rfl (N_buildSliceT (g := true) sl28.h ty58.h .nil (vs := []) rfl rfl rfl (by simp)) (fun k1 => ?_)
 refine Cv1 (.cons .h .nil) (own_lit (Ro := ow58) (E := 58) (F := []) (xs := ([] : List Fact)) MkL_nil rfl rfl) ?_
 iterate 8 refine au ?_
 refine CW_block (CW_loop (m := a_facts.length) (fun m6 f' cs' => ∃ (g : Fr) (k8 : Nat) (rest9 : List Fact) (c2 : List Fact) (v3 : Sv) (F4 : List Nat), m6 = rest9.length ∧ f' = updL g [(1, (.int .i64 a_a)), (2, (.int .i64 a_b)), (7, v3.v), (11, v0_0.v), (12, (.int .i64 (a_facts.length : Int))), (13, (.int .i64 (k8 : Int)))] ∧ List.drop k8 a_facts = rest9 ∧ Ent cs' [cown (OwnS 58 ow58) F4 v3.v c2, crd (RdS 58 rd58) v0_0.v a_facts] ∧ i_SwapFacts_L1 a_a a_b rest9 k8 c2 = some R) ⟨_, 0, _, _, ⟨(some ⟨k1, 0, none⟩), 0, 1⟩, (k1 :: []), rfl, eqA, rfl, entA, hF⟩ ?_)
 rintro m6 _ _ ⟨g7, k8, rest9, c2, v3, F4, rfl, rfl, hd11, hE, hF⟩
 refine Kb hE a_facts (fun hbd16 => ?_)
 rcases rest9 with _ | ⟨x10, rest9⟩
 · have hk12 := dn hd11
   rw [i_SwapFacts_L1] at hF
   iterate 4 refine au ?_
   refine CdF ?_
   iterate 9 refine au ?_
   cases hF
   exact Er (v3, F4)
 obtain ⟨hk12, hx13, hd14⟩ := drop_cons hd11
 rw [i_SwapFacts_L1] at hF
 iterate 4 refine au ?_
 refine CdT ?_
 iterate 3 refine au ?_
 refine Ai hx13 (fun k17 j18 => ?_)
 refine AlA1 (ul58_0_58 x10) la58_0_58 (fun p19 => ?_)
 refine AnW (fun k20 => ?_)
 refine As (.agg [(.int .i64 x10.Rel), p19.v].toArray) ?_
 refine au ?_
 refine CW_draw [0, 1, 2, 3, 4, 5, 6, 7, 8, 9, 10] [0, 0, 2, 0, 8, 0, 0, 120, 254, 511, 1023] [7, 9] mixed (by decide +kernel) ?_
 iterate 2 refine du ?_
 refine D_atO rfl .no .h (fun ha hp => V_load (v := (.int .i64 x10.Rel)) ag3.h (EN ha (.tmp rfl rfl) rfl) hp.2 rfl rfl) ?_
 refine du ?_
 refine D_atO rfl .no .h (fun ha hp => V_load (v := p19.v) ag24.h (EN ha (.tmp rfl rfl) rfl) hp.2 rfl rfl) ?_
 iterate 2 refine du ?_
 refine bnd hF fun r21 hx22 hF => D_act1 rfl rfl .no (.rd (.t .h) rfl .nil) (.dep rfl (.own .h (fun _ h => h) .nil)) (fun ha => XC_ent (post' := fun p23 : Sv × List Nat => [crd (RdS 3 rdInt) p23.1.v r21]) (fun p23 => (.frz .h frz_own entA)) (X_callS cf43.h (.cons (EN ha (.tmp rfl rfl) rfl) (.cons (EN ha (.tmp rfl rfl) rfl) (.cons (EN ha (.tmp rfl rfl) rfl) .nil))) (i_swapped_ok x10.Values p19 a_a a_b _ hx22))) (fun p23 => ?_)
 refine D_val rfl .no (fun ha => V_build ty58.h rfl (vs := [(.int .i64 x10.Rel), p23.1.v]) (.cons (EN ha (.tmp rfl rfl) rfl) (.cons (EN ha (.tmp rfl rfl) rfl) .nil)) (cells := [(.int .i64 x10.Rel), p23.1.v]) rfl) ?_
 refine bnd hF fun r24 hx25 hF => Dx1 (i_added_ok _ _ _ _ _ _ hx25) (fun p26 => ?_)
 iterate 2 refine du ?_
 iterate 4 refine au ?_
 rw [wk k8]
 exact ⟨_, Nat.lt_succ_self _, _, k8 + 1, rest9, _, p26.1, p26.2, rfl, eqA, hd14, entA, hF⟩
def i_copyAtom (a_a : Atom) : Option (Atom) :=
 (g_slices_Clone_int_int a_a.Terms).bind fun r3 =>
 some ({ Rel := a_a.Rel, Terms := r3 } : Atom)
theorem i_copyAtom_ok (a_a : Atom) (v0_1 : Sv) (R : Atom) (hF : i_copyAtom a_a = some R) :
   Fw.Spec Tryz.prog 152 [(.agg [(.int .i64 a_a.Rel), v0_1.v].toArray)] [crd (RdS 3 rdInt) v0_1.v a_a.Terms] (fun p : Sv × List Nat => (.agg [(.int .i64 R.Rel), p.1.v].toArray)) (fun p => [cown (OwnS 3 (roE rdInt)) p.2 p.1.v R.Terms]) := by
 refine Se 9 Tryz.func152 [.cell 2 78] ?_
 intro H0 F0
 unfold i_copyAtom at hF
 refine au ?_
 refine AbR (fun k1 => ?_)
 refine AnW (fun k2 => ?_)
 refine au ?_
 refine K_draw [0, 1, 2, 3, 4, 5, 6] [0, 1, 0, 4, 12, 31, 63] [4, 6] mixed (by decide +kernel) ?_
 iterate 4 refine du ?_
 refine bnd hF fun r3 hx4 hF => Dx1 (g_slices_Clone_int_int_ok _ _ _ hx4) (fun p5 => ?_)
 refine D_val rfl .no (fun ha => V_build ty78.h rfl (vs := [(.int .i64 a_a.Rel), p5.1.v]) (.cons (EN ha (.tmp rfl rfl) rfl) (.cons (EN ha (.tmp rfl rfl) rfl) .nil)) (cells := [(.int .i64 a_a.Rel), p5.1.v]) rfl) ?_
 refine D_act1 rfl rfl .no (.cons (.t .h) .nil) .nil (fun ha => X_storeB (e' := (.agg [(.int .i64 a_a.Rel), p5.1.v].toArray)) (v := (.agg [(.int .i64 a_a.Rel), p5.1.v].toArray)) ty78.h.sz (EN ha (.tmp rfl rfl) rfl) (EN ha (.tmp rfl rfl) rfl) rfl rfl rfl rfl rfl) (fun _ => ?_)
 refine du ?_
 refine au ?_
 cases hF
 exact Er (p5.1, p5.2)
def i_copyAtoms_L1 : List Atom → Nat → (List Atom) → Option ((List Atom))
 | [], k8, c2 => some c2
 | x10 :: rest9, k8, c2 => (i_copyAtom x10).bind fun r21 =>
   (app c2 ([r21] : List Atom)).bind fun z25 =>
   i_copyAtoms_L1 rest9 (k8 + 1) z25
def i_copyAtoms (a_l : List Atom) : Option ((List Atom)) :=
 i_copyAtoms_L1 a_l 0 ([] : List Atom)
theorem i_copyAtoms_ok (a_l : List Atom) (v0_0 : Sv) (R : (List Atom)) (hF : i_copyAtoms a_l = some R) :
   Fw.Spec Tryz.prog 102 [v0_0.v] [crd (RdS 78 rd78) v0_0.v a_l] (fun p : Sv × List Nat => p.1.v) (fun p => [cown (OwnS 78 ow78) p.2 p.1.v R]) := by
 refine Se 20 Tryz.func102 [.tmp 2] ?_
 intro H0 F0
 unfold i_copyAtoms at hF
 iterate 4 refine au ?_
 refine C_new rfl (N_buildSliceT (g := true) sl25.h ty78.h .nil (vs := []) rfl rfl rfl (by simp)) (fun k1 => ?_)
 refine Cv1 (.cons .h .nil) (own_lit (Ro := ow78) (E := 78) (F := []) (xs := ([] : List Atom)) MkL_nil rfl rfl) ?_
 iterate 8 refine au ?_
 refine CW_block (CW_loop (m := a_l.length) (fun m6 f' cs' => ∃ (g : Fr) (k8 : Nat) (rest9 : List Atom) (c2 : List Atom) (v3 : Sv) (F4 : List Nat), m6 = rest9.length ∧ f' = updL g [(3, v3.v), (7, v0_0.v), (8, (.int .i64 (a_l.length : Int))), (9, (.int .i64 (k8 : Int)))] ∧ List.drop k8 a_l = rest9 ∧ Ent cs' [cown (OwnS 78 ow78) F4 v3.v c2, crd (RdS 78 rd78) v0_0.v a_l] ∧ i_copyAtoms_L1 rest9 k8 c2 = some R) ⟨_, 0, _, _, ⟨(some ⟨k1, 0, none⟩), 0, 1⟩, (k1 :: []), rfl, eqA, rfl, entA, hF⟩ ?_)
 rintro m6 _ _ ⟨g7, k8, rest9, c2, v3, F4, rfl, rfl, hd11, hE, hF⟩
 refine Kb hE a_l (fun hbd16 => ?_)
 rcases rest9 with _ | ⟨x10, rest9⟩
 · have hk12 := dn hd11
   rw [i_copyAtoms_L1] at hF
   iterate 4 refine au ?_
   refine CdF ?_
   iterate 9 refine au ?_
   cases hF
   exact Er (v3, F4)
 obtain ⟨hk12, hx13, hd14⟩ := drop_cons hd11
 rw [i_copyAtoms_L1] at hF
 iterate 4 refine au ?_
 refine CdT ?_
 iterate 3 refine au ?_
 refine Ai hx13 (fun k17 j18 => ?_)
 refine AlA1 (ul78_0_78 x10) la78_0_78 (fun p19 => ?_)
 refine AnW (fun k20 => ?_)
 refine As (.agg [(.int .i64 x10.Rel), p19.v].toArray) ?_
 iterate 4 refine au ?_
 refine bnd hF fun r21 hx22 hF => Cx1 (i_copyAtom_ok _ _ _ hx22) (fun p23 => ?_)
 refine C_new rfl (N_buildSliceT (g := true) sl25.h ty78.h (.cons (.tmp rfl rfl) .nil) (vs := [(.agg [(.int .i64 r21.Rel), p23.1.v].toArray)]) rfl rfl rfl (by intro v hv; simp at hv; rcases hv with rfl <;> rfl)) (fun k24 => ?_)
 refine Cv1 (.cons .h (.cons .h .nil)) (own_lit (Ro := ow78) (E := 78) (F := (p23.2 ++ [])) (xs := ([r21] : List Atom)) (MkL_cons mk78 MkL_nil apps) rfl rfl) ?_
 refine bnd hF fun z25 hx26 hF => C_x1 (.cons (.t (.t (.t (.t .h)))) (.cons .h .nil)) (X_appendO (Ro := ow78) sl25.h ni25 ty78.h rfl rfl rfl (.tmp rfl rfl) (.tmp rfl rfl) hx26 src_own) (fun p27 => ?_)
 iterate 6 refine au ?_
 rw [wk k8]
 exact ⟨_, Nat.lt_succ_self _, _, k8 + 1, rest9, _, p27.1, p27.2, rfl, eqA, hd14, entA, hF⟩
def i_copyQuery (a_q : Query) : Option (Query) :=
 (g_slices_Clone_int_int a_q.Head).bind fun r3 =>
 (i_copyAtoms a_q.Atoms).bind fun r6 =>
 some ({ Head := r3, Atoms := r6 } : Query)
theorem i_copyQuery_ok (a_q : Query) (v0_0 : Sv) (v0_1 : Sv) (R : Query) (hF : i_copyQuery a_q = some R) :
   Fw.Spec Tryz.prog 44 [(.agg [v0_0.v, v0_1.v].toArray)] [crd (RdS 3 rdInt) v0_0.v a_q.Head, crd (RdS 78 rd78) v0_1.v a_q.Atoms] (fun p : Sv × List Nat × Sv × List Nat => (.agg [p.1.v, p.2.2.1.v].toArray)) (fun p => [cown (OwnS 3 (roE rdInt)) p.2.1 p.1.v R.Head, cown (OwnS 78 ow78) p.2.2.2 p.2.2.1.v R.Atoms]) := by
 refine Se 10 Tryz.func44 [.cell 2 27] ?_
 intro H0 F0
 unfold i_copyQuery at hF
 refine au ?_
 refine AbR (fun k1 => ?_)
 refine AnW (fun k2 => ?_)
 refine au ?_
 refine K_draw [0, 1, 3, 4, 2, 5, 6, 7] [0, 1, 3, 0, 8, 31, 63, 127] [2, 5, 7] mixed (by decide +kernel) ?_
 iterate 4 refine du ?_
 refine bnd hF fun r3 hx4 hF => Dx1 (g_slices_Clone_int_int_ok _ _ _ hx4) (fun p5 => ?_)
 refine bnd hF fun r6 hx7 hF => Dx1 (i_copyAtoms_ok _ _ _ hx7) (fun p8 => ?_)
 refine D_val rfl .no (fun ha => V_build ty27.h rfl (vs := [p5.1.v, p8.1.v]) (.cons (EN ha (.tmp rfl rfl) rfl) (.cons (EN ha (.tmp rfl rfl) rfl) .nil)) (cells := [p5.1.v, p8.1.v]) rfl) ?_
 refine D_act1 rfl rfl .no (.cons (.t (.t .h)) .nil) .nil (fun ha => X_storeB (e' := (.agg [p5.1.v, p8.1.v].toArray)) (v := (.agg [p5.1.v, p8.1.v].toArray)) ty27.h.sz (EN ha (.tmp rfl rfl) rfl) (EN ha (.tmp rfl rfl) rfl) rfl rfl rfl rfl rfl) (fun _ => ?_)
 refine du ?_
 refine au ?_
 cases hF
 exact Er (p5.1, p5.2, p8.1, p8.2)
def i_within (a_n : Int) (a_low : Int) (a_high : Int) : Option (Bool) :=
 some ((decide ((a_low : Int) ≤ a_n)) && (decide ((a_n : Int) ≤ a_high)))
theorem i_within_ok (a_n : Int) (a_low : Int) (a_high : Int) (R : Bool) (hF : i_within a_n a_low a_high = some R) :
   Fw.Spec Tryz.prog 78 [(.int .i64 a_n), (.int .i64 a_low), (.int .i64 a_high)] [] (fun _ : Unit => (.bool R)) (fun _ => []) := by
 refine Se 15 Tryz.func78 [.tmp 6] ?_
 intro H0 F0
 unfold i_within at hF
 iterate 4 refine au ?_
 refine C_cut (fun f' cs' => ∃ (g : Fr), f' = updL g [(6, (.bool ((decide ((a_low : Int) ≤ a_n)) && (decide ((a_n : Int) ≤ a_high)))))] ∧ Ent cs' []) ?_ ?_
 · iterate 4 refine au ?_
   rcases Bool.eq_false_or_eq_true (decide ((a_low : Int) ≤ a_n)) with hg1 | hg1
   · rw [hg1]
     try rw [hg1] at hF; dsimp only [cond_true, cond_false] at hF
     iterate 9 refine au ?_
     exact ⟨_, eqA, entA⟩
   rw [hg1]
   try rw [hg1] at hF; dsimp only [cond_true, cond_false] at hF
   iterate 6 refine au ?_
   exact ⟨_, eqA, entA⟩
 rintro _ _ ⟨g2, rfl, hE⟩
 refine K_ent hE ?_
 refine au ?_
 cases hF
 exact Er ()
def i_isValue (a_n : Int) : Option (Bool) :=
 (i_within a_n 0 9).bind fun r1 =>
 some r1
theorem i_isValue_ok (a_n : Int) (R : Bool) (hF : i_isValue a_n = some R) :
   Fw.Spec Tryz.prog 45 [(.int .i64 a_n)] [] (fun _ : Unit => (.bool R)) (fun _ => []) := by
 refine Se 5 Tryz.func45 [.tmp 2] ?_
 intro H0 F0
 unfold i_isValue at hF
 iterate 5 refine au ?_
 refine bnd hF fun r1 hx2 hF => Cx0 (i_within_ok _ _ _ _ hx2) (fun _ => ?_)
 iterate 3 refine au ?_
 cases hF
 exact Er ()
def i_SwapValue_L1 (a_a : Int) (a_b : Int) (r3 : Query) : Nat → (List Atom) → Int → Option (Query)
 | 0, _, _ => none
 | m82 + 1, c79, c81 => if (decide ((c81 : Int) < (r3.Atoms.length : Int))) then (
     (ix c79 c81).bind fun x93 =>
     (i_swapped x93.Terms a_a a_b).bind fun r99 =>
     (ix c79 c81).bind fun x105 =>
     (some (c79.set (c81).toNat { x105 with Terms := r99 })).bind fun z109 =>
     i_SwapValue_L1 a_a a_b r3 m82 z109 (IntKind.i64.wrap (c81 + 1)))
   else (
     some ({ Head := r3.Head, Atoms := c79 } : Query))
def i_SwapValue (a_q : Query) (a_a : Int) (a_b : Int) : Option (Query) :=
 (i_copyQuery a_q).bind fun r3 =>
 ((i_isValue a_a).bind fun r9 =>
   bif r9 then ((i_isValue a_b).bind fun r13 =>
     some r13)
   else (some false)).bind fun o7 =>
 match o7 with
 | c16 => if c16 then (
     i_SwapValue_L1 a_a a_b r3 (((r3.Atoms.length : Int) - 0).toNat + 2) r3.Atoms 0)
   else (
     some r3)
theorem i_SwapValue_ok (a_q : Query) (v0_0 : Sv) (v0_1 : Sv) (a_a : Int) (a_b : Int) (R : Query) (hF : i_SwapValue a_q a_a a_b = some R) :
   Fw.Spec Tryz.prog 9 [(.agg [v0_0.v, v0_1.v].toArray), (.int .i64 a_a), (.int .i64 a_b)] [crd (RdS 3 rdInt) v0_0.v a_q.Head, crd (RdS 78 rd78) v0_1.v a_q.Atoms] (fun p : Sv × List Nat × Sv => (.agg [p.1.v, p.2.2.v].toArray)) (fun p => [cown (OwnS 3 (roE rdInt)) p.2.1 p.1.v R.Head, crd (RdS 78 rd78) p.2.2.v R.Atoms]) := by
 refine Se 38 Tryz.func9 [.cell 6 27] ?_
 intro H0 F0
 unfold i_SwapValue at hF
 refine au ?_
 refine AbR (fun k1 => ?_)
 refine AnW (fun k2 => ?_)
 iterate 3 refine au ?_
 refine bnd hF fun r3 hx4 hF => Cx2 (i_copyQuery_ok _ _ _ _ hx4) (fun p5 => ?_)
 refine AnW (fun k6 => ?_)
 refine As (.agg [p5.1.v, p5.2.2.1.v].toArray) ?_
 iterate 2 refine au ?_
 obtain ⟨o7, hio7, hO8⟩ := bind_some hF
 refine au ?_
 refine C_cut (fun f' cs' => ∃ (c16 : Bool) (g : Fr), c16 = o7 ∧ f' = updL g [(1, (.int .i64 a_a)), (2, (.int .i64 a_b)), (6, (pz k2)), (7, (pz k6)), (17, (.bool c16))] ∧ Ent cs' [cbox k2 27 (.agg [(.slice none 0 0), (.slice none 0 0)].toArray), cbox k6 27 (.agg [p5.1.v, p5.2.2.1.v].toArray), cown (OwnS 3 (roE rdInt)) p5.2.1 p5.1.v r3.Head, cown (OwnS 78 ow78) p5.2.2.2 p5.2.2.1.v r3.Atoms]) ?_ ?_
 · replace hF := hio7
   refine au ?_
   refine bnd hF fun r9 hx10 hF => Cx0 (i_isValue_ok _ _ hx10) (fun _ => ?_)
   refine au ?_
   rcases Bool.eq_false_or_eq_true r9 with hg12 | hg12
   · rw [hg12]
     try rw [hg12] at hF; dsimp only [cond_true, cond_false] at hF
     iterate 3 refine au ?_
     refine bnd hF fun r13 hx14 hF => Cx0 (i_isValue_ok _ _ hx14) (fun _ => ?_)
     iterate 2 refine au ?_
     cases hF
     exact ⟨_, _, rfl, eqA, entA⟩
   rw [hg12]
   try rw [hg12] at hF; dsimp only [cond_true, cond_false] at hF
   iterate 4 refine au ?_
   cases hF
   exact ⟨_, _, rfl, eqA, entA⟩
 rintro _ _ ⟨c16, g113, rfl, rfl, hE⟩
 replace hF := hO8
 try dsimp only at hF
 refine K_ent hE ?_
 refine Ci hF (fun hb112 hF => ?_) (fun hb112 hF => ?_)
 · iterate 6 refine au ?_
   refine CW_block (K_half (.t (.t (.t .h))) ?_)
   refine CW_loop (m := (((r3.Atoms.length : Int) - 0).toNat + 2)) (fun m82 f' cs' => ∃ (g : Fr) (c79 : List Atom) (c81 : Int) (F80 : List Nat), f' = updL g [(1, (.int .i64 a_a)), (2, (.int .i64 a_b)), (6, (pz k2)), (7, (pz k6)), (19, p5.2.2.1.v), (20, (.int .i64 (r3.Atoms.length : Int))), (21, (.int .i64 c81))] ∧ Ent cs' [cbox k2 27 (.agg [(.slice none 0 0), (.slice none 0 0)].toArray), cbox k6 27 (.agg [p5.1.v, p5.2.2.1.v].toArray), cown (OwnS 3 (roE rdInt)) p5.2.1 p5.1.v r3.Head, cown (OwnS 78 (roE rd78)) F80 p5.2.2.1.v c79] ∧ i_SwapValue_L1 a_a a_b r3 m82 c79 c81 = some R) ⟨_, _, _, (p5.2.2.2.take 1), eqA, entA, hF⟩ ?_
   rintro m82 _ _ ⟨g83, c79, c81, F80, rfl, hE, hF⟩
   refine K_ent hE ?_
   rcases m82 with _ | m82
   · rw [i_SwapValue_L1] at hF
     exact absurd hF (by simp)
   rw [i_SwapValue_L1] at hF
   iterate 4 refine au ?_
   refine Ci hF (fun hb111 hF => ?_) (fun hb111 hF => ?_)
   · iterate 4 refine au ?_
     refine bnd hF fun x93 hx94 hF => ?_
     have hi92 := ix_chk hx94
     obtain ⟨hp95, hx96⟩ := ix_some hx94
     refine C_idxO sl25.h ty78.h.sz (.tmp rfl rfl) (.tmp rfl rfl) (.t (.t (.t .h))) hi92 (fun k90 hk91 => ?_)
     refine C_ldOA1 (ul78_0_78 x93) ag78.h ty78.h.sz rfl (.tmp rfl rfl) (.t (.t (.t .h))) hk91 hx96 la78_0_78 (fun p97 => ?_)
     refine AnW (fun k98 => ?_)
     refine au ?_
     refine As (.agg [(.int .i64 x93.Rel), p97.v].toArray) ?_
     refine au ?_
     refine CW_draw [0, 1, 2, 3, 4, 5, 6, 7, 8, 9, 10] [0, 1, 0, 0, 8, 0, 0, 120, 255, 511, 1023] [7, 10] mixed (by decide +kernel) ?_
     refine du ?_
     refine D_atO rfl .no (.t (.t (.t .h))) (fun ha hp => V_load (v := p5.2.2.1.v) ag25.h (EN ha (.tmp rfl rfl) rfl) hp.2 rfl rfl) ?_
     iterate 2 refine du ?_
     refine D_atO rfl .no .h (fun ha hp => V_load (v := p97.v) ag24.h (EN ha (.tmp rfl rfl) rfl) hp.2 rfl rfl) ?_
     iterate 2 refine du ?_
     refine bnd hF fun r99 hx100 hF => D_act1 rfl rfl .no (.rd (.t .h) rfl .nil) (.dep rfl (.own (.t (.t (.t .h))) (fun _ h => h) .nil)) (fun ha => XC_ent (post' := fun p101 : Sv × List Nat => [crd (RdS 3 rdInt) p101.1.v r99]) (fun p101 => (.frz .h frz_own entA)) (X_callS cf43.h (.cons (EN ha (.tmp rfl rfl) rfl) (.cons (EN ha (.tmp rfl rfl) rfl) (.cons (EN ha (.tmp rfl rfl) rfl) .nil))) (i_swapped_ok x93.Terms p97 a_a a_b _ hx100))) (fun p101 => ?_)
     refine bnd hF fun x105 hx106 hF => ?_
     have hi104 := ix_chk hx106
     obtain ⟨hp107, hx108⟩ := ix_some hx106
     refine D_idxO sl25.h ty78.h.sz rfl .no (.tmp rfl rfl) (.tmp rfl rfl) rfl rfl (.t (.t (.t (.t (.t (.t .h)))))) hi104 (fun k102 hk103 => ?_)
     refine du ?_
     refine bnd hF fun z109 hx110 hF => ?_
     replace hx110 := Option.some.inj hx110
     refine D_act1 rfl rfl .no (.cons (.t (.t (.t (.t (.t (.t .h)))))) (.rd .h rfl .nil)) (.dep rfl (.dep rfl (.dep rfl .nil))) (fun ha => X_storeFR (Ro := (roE rd78)) (R := (RdS 3 rdInt)) (i := c81) ty24.h.sz rfl (EN ha (.tmp rfl rfl) rfl) (EN ha (.tmp rfl rfl) rfl) hk103 hx108 rfl rfl fsfr78_1 sfr78_1) (fun _ => ?_)
     rw [hx110]
     refine du ?_
     iterate 4 refine au ?_
     exact ⟨m82, Nat.lt_succ_self _, _, _, _, F80, eqA, entA, hF⟩
   iterate 6 refine au ?_
   refine As (.agg [p5.1.v, p5.2.2.1.v].toArray) ?_
   iterate 2 refine au ?_
   cases hF
   exact End_ret (p5.1, p5.2.1, p5.2.2.1) (.cellA rfl rfl .h rfl ag27.h ty27.h.sz rfl rfl .nil) rfl (.frz (.t (.t (.t .h))) frz_own (.sel (.cons (.t (.t (.t .h))) (.rd .h rfl .nil))))
 iterate 3 refine au ?_
 refine As (.agg [p5.1.v, p5.2.2.1.v].toArray) ?_
 iterate 2 refine au ?_
 cases hF
 exact End_ret (p5.1, p5.2.1, p5.2.2.1) (.cellA rfl rfl .h rfl ag27.h ty27.h.sz rfl rfl .nil) rfl (.frz (.t (.t (.t .h))) frz_own (.sel (.cons (.t (.t (.t .h))) (.rd .h rfl .nil))))
def s_l30Swap (a_x : Int) (a_a : Int) (a_b : Int) : Option (Int) :=
 if ((a_x : Int) == a_a) then (
   some a_b)
 else (
   if ((a_x : Int) == a_b) then (
     some a_a)
   else (
     some a_x))
theorem s_l30Swap_ok (a_x : Int) (a_a : Int) (a_b : Int) (R : Int) (hF : s_l30Swap a_x a_a a_b = some R) :
   Fw.Spec Tryz.prog 47 [(.int .i64 a_x), (.int .i64 a_a), (.int .i64 a_b)] [] (fun _ : Unit => (.int .i64 R)) (fun _ => []) := by
 refine Se 17 Tryz.func47 [.tmp 6] ?_
 intro H0 F0
 unfold s_l30Swap at hF
 iterate 7 refine au ?_
 refine CW_block (K_region (Cm (.int .i64 a_a) rfl rfl ?_))
 iterate 3 refine au ?_
 refine Ci hF (fun hb2 hF => ?_) (fun hb2 hF => ?_)
 · iterate 5 refine au ?_
   cases hF
   exact Er ()
 iterate 5 refine au ?_
 refine Ci hF (fun hb1 hF => ?_) (fun hb1 hF => ?_)
 · iterate 5 refine au ?_
   cases hF
   exact Er ()
 iterate 6 refine au ?_
 cases hF
 exact Er ()
def s_SwapFacts_L2 (a_a : Int) (a_b : Int) (c2 : List Fact) (x10 : Fact) : Nat → (List Int) → Int → Option ((List Fact))
 | 0, _, _ => none
 | m54 + 1, c50, c53 => if (decide ((c53 : Int) < (x10.Values.length : Int))) then (
     (ix x10.Values c53).bind fun x68 =>
     (s_l30Swap x68 a_a a_b).bind fun r74 =>
     (app c50 ([r74] : List Int)).bind fun z78 =>
     s_SwapFacts_L2 a_a a_b c2 x10 m54 z78 (IntKind.i64.wrap (c53 + 1)))
   else (
     (s_AddFact c2 ({ Rel := x10.Rel, Values := c50 } : Fact)).bind fun r81 =>
     some r81)
def s_SwapFacts_L1 (a_a : Int) (a_b : Int) : List Fact → Nat → (List Fact) → Option ((List Fact))
 | [], k8, c2 => some c2
 | x10 :: rest9, k8, c2 => (s_SwapFacts_L2 a_a a_b c2 x10 (((x10.Values.length : Int) - 0).toNat + 2) ([] : List Int) 0).bind fun o17 =>
   match o17 with
   | c85 => s_SwapFacts_L1 a_a a_b rest9 (k8 + 1) c85
def s_SwapFacts (a_facts : List Fact) (a_a : Int) (a_b : Int) : Option ((List Fact)) :=
 s_SwapFacts_L1 a_a a_b a_facts 0 ([] : List Fact)
theorem s_SwapFacts_ok (a_facts : List Fact) (v0_0 : Sv) (a_a : Int) (a_b : Int) (R : (List Fact)) (hF : s_SwapFacts a_facts a_a a_b = some R) :
   Fw.Spec Tryz.prog 11 [v0_0.v, (.int .i64 a_a), (.int .i64 a_b)] [crd (RdS 58 rd58) v0_0.v a_facts] (fun p : Sv × List Nat => p.1.v) (fun p => [cown (OwnS 58 ow58) p.2 p.1.v R]) := by
 refine Se 54 Tryz.func11 [.tmp 6] ?_
 intro H0 F0
 unfold s_SwapFacts at hF
 iterate 4 refine au ?_
 refine C_new rfl (N_buildSliceT (g := true) sl28.h ty58.h .nil (vs := []) rfl rfl rfl (by simp)) (fun k1 => ?_)
 refine Cv1 (.cons .h .nil) (own_lit (Ro := ow58) (E := 58) (F := []) (xs := ([] : List Fact)) MkL_nil rfl rfl) ?_
 iterate 6 refine au ?_
 refine CW_block (CW_loop (m := a_facts.length) (fun m6 f' cs' => ∃ (g : Fr) (k8 : Nat) (rest9 : List Fact) (c2 : List Fact) (v3 : Sv) (F4 : List Nat), m6 = rest9.length ∧ f' = updL g [(0, v0_0.v), (1, (.int .i64 a_a)), (2, (.int .i64 a_b)), (7, v3.v), (8, (.int .i64 (k8 : Int)))] ∧ List.drop k8 a_facts = rest9 ∧ Ent cs' [crd (RdS 58 rd58) v0_0.v a_facts, cown (OwnS 58 ow58) F4 v3.v c2] ∧ s_SwapFacts_L1 a_a a_b rest9 k8 c2 = some R) ⟨_, 0, _, _, ⟨(some ⟨k1, 0, none⟩), 0, 1⟩, (k1 :: []), rfl, eqA, rfl, entA, hF⟩ ?_)
 rintro m6 _ _ ⟨g7, k8, rest9, c2, v3, F4, rfl, rfl, hd11, hE, hF⟩
 refine Kb hE a_facts (fun hbd16 => ?_)
 rcases rest9 with _ | ⟨x10, rest9⟩
 · have hk12 := dn hd11
   rw [s_SwapFacts_L1] at hF
   iterate 7 refine au ?_
   refine CdF ?_
   iterate 9 refine au ?_
   cases hF
   exact Er (v3, F4)
 obtain ⟨hk12, hx13, hd14⟩ := drop_cons hd11
 rw [s_SwapFacts_L1] at hF
 iterate 7 refine au ?_
 refine CdT ?_
 refine au ?_
 obtain ⟨o17, hio17, hO18⟩ := bind_some hF
 refine K_cut (fun f' cs' => ∃ (c85 : List Fact) (v86 : Sv) (F87 : List Nat) (g : Fr), c85 = o17 ∧ f' = updL g [(0, v0_0.v), (1, (.int .i64 a_a)), (2, (.int .i64 a_b)), (7, v86.v), (8, (.int .i64 (k8 : Int)))] ∧ Ent cs' [crd (RdS 58 rd58) v0_0.v a_facts, cown (OwnS 58 ow58) F87 v86.v c85]) ?_ ?_
 · replace hF := hio17
   refine CW_block (K_region (Cm v0_0.v rfl rfl ?_))
   refine au ?_
   refine Ai hx13 (fun k19 j20 => ?_)
   refine au ?_
   refine Al ls58_0 ?_
   refine C_val (V_build ty58.h rfl (vs := [(.int .i64 x10.Rel)]) (.cons (.tmp rfl rfl) .nil) (cells := [(.int .i64 x10.Rel), (.slice none 0 0)]) rfl) ?_
   refine AnW (fun k21 => ?_)
   refine As (.agg [(.int .i64 x10.Rel), (.slice none 0 0)].toArray) ?_
   iterate 5 refine au ?_
   refine CW_block (CW_loop (m := (((x10.Values.length : Int) - 0).toNat + 2)) (fun m54 f' cs' => ∃ (g : Fr) (c50 : List Int) (c53 : Int) (v51 : Sv) (F52 : List Nat), f' = updL g [(0, v0_0.v), (1, (.int .i64 a_a)), (2, (.int .i64 a_b)), (7, v3.v), (8, (.int .i64 (k8 : Int))), (9, (pz k21)), (10, (.int .i64 c53))] ∧ Ent cs' [crd (RdS 58 rd58) v0_0.v a_facts, cown (OwnS 58 ow58) F4 v3.v c2, cbox k21 58 (.agg [(.int .i64 x10.Rel), v51.v].toArray), cown (OwnS 3 (roE rdInt)) F52 v51.v c50] ∧ s_SwapFacts_L2 a_a a_b c2 x10 m54 c50 c53 = some o17) ⟨_, _, _, ⟨none, 0, 0⟩, [], eqA, (.conv .nil (own_nil (Ro := (roE rdInt)) (E := 3)) (.cons .nil) entA), hF⟩ ?_)
   rintro m54 _ _ ⟨g55, c50, c53, v51, F52, rfl, hE, hF⟩
   refine K_ent hE ?_
   rcases m54 with _ | m54
   · rw [s_SwapFacts_L2] at hF
     exact absurd hF (by simp)
   rw [s_SwapFacts_L2] at hF
   iterate 5 refine au ?_
   refine Ai hx13 (fun k62 j63 => ?_)
   refine au ?_
   refine C_ldV (R' := (RdS 3 rdInt)) ag24.h (.tmp rfl rfl) .h lv58_1 (fun w64 => ?_)
   iterate 3 refine au ?_
   refine Ci hF (fun hb84 hF => ?_) (fun hb84 hF => ?_)
   · iterate 2 refine au ?_
     refine CW_draw [0, 1, 2, 3, 4, 5, 6, 7, 8, 9, 10, 11, 12, 13, 14, 15, 16] [0, 1, 0, 0, 12, 28, 60, 0, 252, 508, 0, 0, 4092, 8188, 16383, 32767, 65535] [12, 14, 16] mixed (by decide +kernel) ?_
     refine du ?_
     refine D_atO rfl .no (.t (.t (.t (.t .h)))) (fun ha hp => V_load (v := v51.v) ag24.h (EN ha (.tmp rfl rfl) rfl) hp.2 rfl rfl) ?_
     iterate 2 refine du ?_
     refine Di hx13 (fun k65 j66 => ?_)
     refine du ?_
     refine D_ldV (R' := (RdS 3 rdInt)) ag24.h rfl .no (.tmp rfl rfl) rfl .h lv58_1 (fun w67 => ?_)
     refine du ?_
     refine bnd hF fun x68 hx69 hF => ?_
     obtain ⟨hp70, hx71⟩ := ix_some hx69
     refine Di hx71 (fun k72 j73 => ?_)
     refine Dl ls3_0 ?_
     iterate 2 refine du ?_
     refine bnd hF fun r74 hx75 hF => D_act0 rfl rfl .no .nil (.own (.t (.t (.t (.t (.t (.t (.t .h))))))) (fun _ h => h) .nil) (fun ha => X_callS cf47.h (.cons (EN ha (.tmp rfl rfl) rfl) (.cons (EN ha (.tmp rfl rfl) rfl) (.cons (EN ha (.tmp rfl rfl) rfl) .nil))) (s_l30Swap_ok x68 a_a a_b _ hx75)) (fun _ => ?_)
     refine D_new rfl .no rfl (fun ha => N_buildSliceT (g := true) (len := 1) (parts := [(0, .tmp 46)]) sl24.h ty3.h (.cons (EN ha (.tmp rfl rfl) rfl) .nil) (vs := [(.int .i64 r74)]) rfl rfl rfl (by intro v hv; simp at hv; rcases hv with rfl <;> rfl)) (fun k77 => ?_)
     refine Dv1 (.cons .h .nil) (own_lit (Ro := (roE rdInt)) (E := 3) (F := ([] ++ [])) (xs := ([r74] : List Int)) (MkL_cons (Mk_pure (fun _ => rfl)) MkL_nil apps) rfl rfl) ?_
     refine bnd hF fun z78 hx79 hF => D_act1 rfl rfl .no (.cons (.t (.t (.t (.t (.t (.t (.t (.t (.t .h))))))))) (.cons .h .nil)) (.dep rfl (.dep rfl .nil)) (fun ha => X_appendO (Ro := (roE rdInt)) sl24.h ni24 ty3.h rfl rfl rfl (EN ha (.tmp rfl rfl) rfl) (EN ha (.tmp rfl rfl) rfl) hx79 src_own) (fun p80 => ?_)
     refine du ?_
     refine D_act1 rfl rfl .no (.cons (.t (.t (.t (.t (.t (.t (.t (.t .h)))))))) .nil) (.dep rfl (.dep rfl .nil)) (fun ha => X_storeB (e' := (.agg [(.int .i64 x10.Rel), p80.1.v].toArray)) ty24.h.sz (EN ha (.tmp rfl rfl) rfl) (EN ha (.tmp rfl rfl) rfl) rfl rfl rfl rfl rfl) (fun _ => ?_)
     refine du ?_
     iterate 5 refine au ?_
     exact ⟨m54, Nat.lt_succ_self _, _, _, _, p80.1, p80.2, eqA, entA, hF⟩
   iterate 7 refine au ?_
   refine bnd hF fun r81 hx82 hF => C_x3 (.cons (.t (.t (.t (.t (.t .h))))) (.cons (.t (.t (.t .h))) .nil)) (XC_borL (pre := []) (.cons frz_own (.cons frz_own .nil)) (fun _ => (.cons .nil)) (X_callS cf48.h (.cons (.tmp rfl rfl) (.cons (.tmp rfl rfl) .nil)) (s_AddFact_ok c2 v3 ({ Rel := x10.Rel, Values := c50 } : Fact) v51 _ hx82))) (fun p83 => ?_)
   iterate 2 refine au ?_
   cases hF
   exact ⟨_, p83.1, p83.2, _, rfl, eqA, entA⟩
 rintro _ _ ⟨c85, v86, F87, g89, rfl, rfl, hE⟩
 replace hF := hO18
 try dsimp only at hF
 refine K_ent hE ?_
 iterate 5 refine au ?_
 rw [wk k8]
 exact ⟨_, Nat.lt_succ_self _, _, k8 + 1, rest9, _, v86, F87, rfl, eqA, hd14, entA, hF⟩
def s_SameFacts_L1 (a_b : List Fact) : List Fact → Nat → Option (Bool)
 | [], k4 => some true
 | x6 :: rest5, k4 => (ix a_b (k4 : Int)).bind fun x16 =>
   (s_CompareFacts x6 x16).bind fun r23 =>
   if ((r23 : Int) != 0) then (
     some false)
   else (
     s_SameFacts_L1 a_b rest5 (k4 + 1))
def s_SameFacts (a_a : List Fact) (a_b : List Fact) : Option (Bool) :=
 if (((a_a.length : Int) : Int) != (a_b.length : Int)) then (
   some false)
 else (
   s_SameFacts_L1 a_b a_a 0)
theorem s_SameFacts_ok (a_a : List Fact) (v0_0 : Sv) (a_b : List Fact) (v1_0 : Sv) (R : Bool) (hF : s_SameFacts a_a a_b = some R) :
   Fw.Spec Tryz.prog 10 [v0_0.v, v1_0.v] [crd (RdS 58 rd58) v0_0.v a_a, crd (RdS 58 rd58) v1_0.v a_b] (fun _ : Unit => (.bool R)) (fun _ => []) := by
 refine Se 27 Tryz.func10 [.tmp 4] ?_
 intro H0 F0
 unfold s_SameFacts at hF
 iterate 11 refine au ?_
 refine Ci hF (fun hb28 hF => ?_) (fun hb28 hF => ?_)
 · iterate 4 refine au ?_
   cases hF
   exact Er ()
 iterate 5 refine au ?_
 refine CW_block (CW_loop (m := a_a.length) (fun m2 f' cs' => ∃ (g : Fr) (k4 : Nat) (rest5 : List Fact), m2 = rest5.length ∧ f' = updL g [(0, v0_0.v), (1, v1_0.v), (5, (.int .i64 (k4 : Int)))] ∧ List.drop k4 a_a = rest5 ∧ Ent cs' [crd (RdS 58 rd58) v0_0.v a_a, crd (RdS 58 rd58) v1_0.v a_b] ∧ s_SameFacts_L1 a_b rest5 k4 = some R) ⟨_, 0, _, rfl, eqA, rfl, entA, hF⟩ ?_)
 rintro m2 _ _ ⟨g3, k4, rest5, rfl, rfl, hd7, hE, hF⟩
 refine Kb hE a_a (fun hbd12 => ?_)
 rcases rest5 with _ | ⟨x6, rest5⟩
 · have hk8 := dn hd7
   rw [s_SameFacts_L1] at hF
   iterate 7 refine au ?_
   refine CdF ?_
   iterate 8 refine au ?_
   cases hF
   exact Er ()
 obtain ⟨hk8, hx9, hd10⟩ := drop_cons hd7
 rw [s_SameFacts_L1] at hF
 iterate 7 refine au ?_
 refine CdT ?_
 iterate 2 refine au ?_
 refine K_draw [0, 1, 2, 3, 4, 5, 6, 7, 8, 9] [0, 0, 3, 7, 0, 0, 48, 112, 255, 511] [8] mixed (by decide +kernel) ?_
 iterate 2 refine du ?_
 refine Di hx9 (fun k13 j14 => ?_)
 refine DlA1 (ul58_0_58 x6) la58_0_58 (fun p15 => ?_)
 iterate 2 refine du ?_
 refine bnd hF fun x16 hx17 hF => ?_
 obtain ⟨hp18, hx19⟩ := ix_some hx17
 refine Di hx19 (fun k20 j21 => ?_)
 refine DlA1 (ul58_0_58 x16) la58_0_58 (fun p22 => ?_)
 refine bnd hF fun r23 hx24 hF => Dx0 (s_CompareFacts_ok _ _ _ _ _ hx24) (fun _ => ?_)
 iterate 2 refine du ?_
 refine Ci hF (fun hb27 hF => ?_) (fun hb27 hF => ?_)
 · iterate 4 refine au ?_
   cases hF
   exact Er ()
 iterate 6 refine au ?_
 rw [wk k4]
 exact ⟨_, Nat.lt_succ_self _, _, k4 + 1, rest5, rfl, eqA, hd10, entA, hF⟩
def s_l3Atom (a_rel : Int) (a_terms : List Int) : Option (Atom) :=
 (app ([] : List Int) a_terms).bind fun z3 =>
 some ({ Rel := a_rel, Terms := z3 } : Atom)
theorem s_l3Atom_ok (a_rel : Int) (a_terms : List Int) (v1_0 : Sv) (R : Atom) (hF : s_l3Atom a_rel a_terms = some R) :
   Fw.Spec Tryz.prog 104 [(.int .i64 a_rel), v1_0.v] [crd (RdS 3 rdInt) v1_0.v a_terms] (fun p : Sv × List Nat => (.agg [(.int .i64 R.Rel), p.1.v].toArray)) (fun p => [cown (OwnS 3 (roE rdInt)) p.2 p.1.v R.Terms]) := by
 refine Se 10 Tryz.func104 [.cell 4 78] ?_
 intro H0 F0
 unfold s_l3Atom at hF
 refine au ?_
 refine AnW (fun k1 => ?_)
 iterate 3 refine au ?_
 refine C_new rfl (N_buildSliceT (g := true) sl24.h ty3.h .nil (vs := []) rfl rfl rfl (by simp)) (fun k2 => ?_)
 refine Cv1 (.cons .h .nil) (own_lit (Ro := (roE rdInt)) (E := 3) (F := []) (xs := ([] : List Int)) MkL_nil rfl rfl) ?_
 refine au ?_
 refine bnd hF fun z3 hx4 hF => C_x1 (.cons .h (.rd (.t .h) rfl .nil)) (X_appendO (Ro := (roE rdInt)) sl24.h ni24 ty3.h rfl rfl rfl (.tmp rfl rfl) (.tmp rfl rfl) hx4 src_rd) (fun p5 => ?_)
 refine C_val (V_build ty78.h rfl (vs := [(.int .i64 a_rel), p5.1.v]) (.cons (.tmp rfl rfl) (.cons (.tmp rfl rfl) .nil)) (cells := [(.int .i64 a_rel), p5.1.v]) rfl) ?_
 refine As (.agg [(.int .i64 a_rel), p5.1.v].toArray) ?_
 iterate 2 refine au ?_
 cases hF
 exact Er (p5.1, p5.2)
end Go.Proofs.YtndckmfbndmkhaaGreat
