/-
  Functions of the program as Lean functions, and that the calls return what these say: part 1. No conditions.
-/
import Derived.Test.YtndckmfbndmkhabGreatFc
import Derived.Shelf.Sort.Plain
import Derived.Shelf.Slices.In.SortNone
import Derived.Shelf.Slices.CompactI
import Derived.Test.YtndckmfbndmkhabGreatProg
import Derived.KernelRfl
set_option maxRecDepth 100000
set_option maxHeartbeats 1000000
set_option linter.unusedVariables false
namespace Go.Proofs.YtndckmfbndmkhabGreat
open Go Go.Fw

instance : LaidP Tryz.prog := ⟨fun _ => True⟩
instance cf5 : ICF Tryz.prog 5 := ⟨Tryz.call5⟩
instance sl22 : ISL Tryz.prog 22 5 := ⟨by unfold SL; kernel_rfl⟩
instance cf25 : ICF Tryz.prog 25 := ⟨Tryz.call25⟩
structure Method where
 Rel : Int
 Inputs : List Int
 Limit : Int
 Cost : Int
 Quota : Int
structure Atom where
 Rel : Int
 Terms : List Int
structure Query where
 Head : List Int
 Atoms : List Atom
structure Fact where
 Rel : Int
 Values : List Int
instance ty51 : ITY Tryz.prog 51 2 48 (.agg [(.slice none 0 0), (.slice none 0 0)].toArray) := ⟨by unfold TY; kernel_rfl⟩
instance cf64 : ICF Tryz.prog 64 := ⟨Tryz.call64⟩
instance cf40 : ICF Tryz.prog 40 := ⟨Tryz.call40⟩
structure l1Cur where
 b : List UInt8
 i : Int
 h : Int
instance ty5 : ITY Tryz.prog 5 1 1 (.int .u8 0) := ⟨by unfold TY; kernel_rfl⟩
theorem ls5_0 {a : UInt8} : ∀ H e, rdU8 H e a → e.cells.toList[0]? = some (.int .u8 (a.toNat : Int)) := by
 intro H e h
 subst h
 rfl
instance ag5 : IAG Tryz.prog 5 false := ⟨by unfold AG; kernel_rfl⟩
theorem ik5 : IK Tryz.prog 5 .u8 := by unfold IK; kernel_rfl
theorem ik3 : IK Tryz.prog 3 .i64 := by unfold IK; kernel_rfl
instance ty112 : ITY Tryz.prog 112 3 40 (.agg [(.slice none 0 0), (.int .i64 0), (.int .i64 0)].toArray) := ⟨by unfold TY; kernel_rfl⟩
instance cf124 : ICF Tryz.prog 124 := ⟨Tryz.call124⟩
instance cf186 : ICF Tryz.prog 186 := ⟨Tryz.call186⟩
instance cf153 : ICF Tryz.prog 153 := ⟨Tryz.call153⟩
instance sl24 : ISL Tryz.prog 24 3 := ⟨by unfold SL; kernel_rfl⟩
instance ty3 : ITY Tryz.prog 3 1 8 (.int .i64 0) := ⟨by unfold TY; kernel_rfl⟩
instance cf89 : ICF Tryz.prog 89 := ⟨Tryz.call89⟩
instance cf164 : ICF Tryz.prog 164 := ⟨Tryz.call164⟩
instance fd112_2 : IFD Tryz.prog 112 2 2 := ⟨by unfold FD; kernel_rfl⟩
instance ag3 : IAG Tryz.prog 3 false := ⟨by unfold AG; kernel_rfl⟩
theorem mixed : Tryz.prog.follows .mixedOrders = true := by kernel_rfl
instance fd112_1 : IFD Tryz.prog 112 1 1 := ⟨by unfold FD; kernel_rfl⟩
instance fd112_0 : IFD Tryz.prog 112 0 0 := ⟨by unfold FD; kernel_rfl⟩
instance ag22 : IAG Tryz.prog 22 false := ⟨by unfold AG; kernel_rfl⟩
instance cf187 : ICF Tryz.prog 187 := ⟨Tryz.call187⟩
theorem ni24 : NotInt Tryz.prog 24 := .inr ⟨3, by kernel_rfl⟩
instance cf231 : ICF Tryz.prog 231 := ⟨Tryz.call231⟩
instance sl25 : ISL Tryz.prog 25 73 := ⟨by unfold SL; kernel_rfl⟩
instance ty73 : ITY Tryz.prog 73 5 56 (.agg [(.int .i64 0), (.slice none 0 0), (.int .i64 0), (.int .i64 0), (.int .i64 0)].toArray) := ⟨by unfold TY; kernel_rfl⟩
def rd73 (H : AHeap) (v : Value) (a : Method) : Prop := ∃ v0 : Sv, v = .agg [(.int .i64 a.Rel), v0.v, (.int .i64 a.Limit), (.int .i64 a.Cost), (.int .i64 a.Quota)].toArray ∧ (RdS 3 rdInt) H v0.v a.Inputs
instance : Mono rd73 := ⟨fun h hi => by
 obtain ⟨v0, h, h0⟩ := h
 exact ⟨v0, h, Mono.up h0 hi⟩⟩
instance : Cells rd73 5 := ⟨fun h => by
 obtain ⟨v0, rfl, h0⟩ := h
 exact ⟨rfl, rfl⟩⟩
def ow73 : ORel Method := fun F H v a => ∃ (v0 : Sv) (F0 : List Nat), v = .agg [(.int .i64 a.Rel), v0.v, (.int .i64 a.Limit), (.int .i64 a.Cost), (.int .i64 a.Quota)].toArray ∧ F0 = F ∧ (OwnS 3 (roE rdInt)) F0 H v0.v a.Inputs
instance : Keep ow73 := ⟨fun h hi hg => by
 obtain ⟨v0, F0, rfl, rfl, h0⟩ := h
 exact ⟨v0, F0, rfl, rfl, Keep.keep h0 hi (fun k hk => hg k (by simp [hk]))⟩⟩
instance : Local ow73 := ⟨fun h hg => by
 obtain ⟨v0, F0, rfl, rfl, h0⟩ := h
 exact ⟨v0, F0, rfl, rfl, Local.keep h0 (fun k hk => hg k (by simp [hk]))⟩⟩
instance : Owns ow73 := ⟨fun h k hk => by
 obtain ⟨v0, F0, rfl, rfl, h0⟩ := h
 exact Owns.owns h0 k hk
⟩
instance : OCells ow73 5 := ⟨fun h => by
 obtain ⟨v0, F0, rfl, rfl, h0⟩ := h
 exact ⟨rfl, rfl⟩⟩
instance : Frz ow73 rd73 := ⟨fun h hg => by
 obtain ⟨v0, F0, rfl, rfl, h0⟩ := h
 exact ⟨v0, rfl, Frz.frz h0 (fun k hk => hg k (by simp [hk]))⟩⟩
instance cf156 : ICF Tryz.prog 156 := ⟨Tryz.call156⟩
instance cf90 : ICF Tryz.prog 90 := ⟨Tryz.call90⟩
theorem ls3_0 {a : Int} : ∀ H e, rdInt H e a → e.cells.toList[0]? = some (.int .i64 a) := by
 intro H e h
 subst h
 rfl
instance fd73_0 : IFD Tryz.prog 73 0 0 := ⟨by unfold FD; kernel_rfl⟩
instance fd73_1 : IFD Tryz.prog 73 1 1 := ⟨by unfold FD; kernel_rfl⟩
instance ag24 : IAG Tryz.prog 24 false := ⟨by unfold AG; kernel_rfl⟩
instance ty24 : ITY Tryz.prog 24 1 24 (.slice none 0 0) := ⟨by unfold TY; kernel_rfl⟩
instance ag73 : IAG Tryz.prog 73 true := ⟨by unfold AG; kernel_rfl⟩
theorem mk73 {a : Method} {v0 : Sv} {F0 : List Nat} : Mk ow73 F0 (.agg [(.int .i64 a.Rel), v0.v, (.int .i64 a.Limit), (.int .i64 a.Cost), (.int .i64 a.Quota)].toArray) a [cown (OwnS 3 (roE rdInt)) F0 v0.v a.Inputs] :=
 ⟨fun H h => ⟨v0, F0, rfl, rfl, h (cown (OwnS 3 (roE rdInt)) F0 v0.v a.Inputs) (by simp)⟩, by simp [cown]⟩
theorem ni25 : NotInt Tryz.prog 25 := .inr ⟨73, by kernel_rfl⟩
instance cf163 : ICF Tryz.prog 163 := ⟨Tryz.call163⟩
instance ty98 : ITY Tryz.prog 98 2 32 (.agg [(.int .i64 0), (.slice none 0 0)].toArray) := ⟨by unfold TY; kernel_rfl⟩
instance fd98_0 : IFD Tryz.prog 98 0 0 := ⟨by unfold FD; kernel_rfl⟩
instance fd98_1 : IFD Tryz.prog 98 1 1 := ⟨by unfold FD; kernel_rfl⟩
instance fd51_1 : IFD Tryz.prog 51 1 1 := ⟨by unfold FD; kernel_rfl⟩
instance ag49 : IAG Tryz.prog 49 false := ⟨by unfold AG; kernel_rfl⟩
instance ag98 : IAG Tryz.prog 98 true := ⟨by unfold AG; kernel_rfl⟩
instance sl49 : ISL Tryz.prog 49 98 := ⟨by unfold SL; kernel_rfl⟩
def rd98 (H : AHeap) (v : Value) (a : Atom) : Prop := ∃ v0 : Sv, v = .agg [(.int .i64 a.Rel), v0.v].toArray ∧ (RdS 3 rdInt) H v0.v a.Terms
instance : Mono rd98 := ⟨fun h hi => by
 obtain ⟨v0, h, h0⟩ := h
 exact ⟨v0, h, Mono.up h0 hi⟩⟩
instance : Cells rd98 2 := ⟨fun h => by
 obtain ⟨v0, rfl, h0⟩ := h
 exact ⟨rfl, rfl⟩⟩
def ow98 : ORel Atom := fun F H v a => ∃ (v0 : Sv) (F0 : List Nat), v = .agg [(.int .i64 a.Rel), v0.v].toArray ∧ F0 = F ∧ (OwnS 3 (roE rdInt)) F0 H v0.v a.Terms
instance : Keep ow98 := ⟨fun h hi hg => by
 obtain ⟨v0, F0, rfl, rfl, h0⟩ := h
 exact ⟨v0, F0, rfl, rfl, Keep.keep h0 hi (fun k hk => hg k (by simp [hk]))⟩⟩
instance : Local ow98 := ⟨fun h hg => by
 obtain ⟨v0, F0, rfl, rfl, h0⟩ := h
 exact ⟨v0, F0, rfl, rfl, Local.keep h0 (fun k hk => hg k (by simp [hk]))⟩⟩
instance : Owns ow98 := ⟨fun h k hk => by
 obtain ⟨v0, F0, rfl, rfl, h0⟩ := h
 exact Owns.owns h0 k hk
⟩
instance : OCells ow98 2 := ⟨fun h => by
 obtain ⟨v0, F0, rfl, rfl, h0⟩ := h
 exact ⟨rfl, rfl⟩⟩
instance : Frz ow98 rd98 := ⟨fun h hg => by
 obtain ⟨v0, F0, rfl, rfl, h0⟩ := h
 exact ⟨v0, rfl, Frz.frz h0 (fun k hk => hg k (by simp [hk]))⟩⟩
theorem mk98 {a : Atom} {v0 : Sv} {F0 : List Nat} : Mk ow98 F0 (.agg [(.int .i64 a.Rel), v0.v].toArray) a [cown (OwnS 3 (roE rdInt)) F0 v0.v a.Terms] :=
 ⟨fun H h => ⟨v0, F0, rfl, rfl, h (cown (OwnS 3 (roE rdInt)) F0 v0.v a.Terms) (by simp)⟩, by simp [cown]⟩
theorem ni49 : NotInt Tryz.prog 49 := .inr ⟨98, by kernel_rfl⟩
instance ty49 : ITY Tryz.prog 49 1 24 (.slice none 0 0) := ⟨by unfold TY; kernel_rfl⟩
instance ag51 : IAG Tryz.prog 51 true := ⟨by unfold AG; kernel_rfl⟩
instance cf77 : ICF Tryz.prog 77 := ⟨Tryz.call77⟩
theorem lv98_1 {a : Atom} : ∀ H e, rd98 H e a → ∃ w : Sv, e.cells.toList[1]? = some w.v ∧ (RdS 3 rdInt) H w.v a.Terms := by
 intro H e h
 obtain ⟨v0, rfl, h0⟩ := h
 exact ⟨v0, rfl, h0⟩
instance cf142 : ICF Tryz.prog 142 := ⟨Tryz.call142⟩
instance cf79 : ICF Tryz.prog 79 := ⟨Tryz.call79⟩
instance cf85 : ICF Tryz.prog 85 := ⟨Tryz.call85⟩
instance cf78 : ICF Tryz.prog 78 := ⟨Tryz.call78⟩
theorem lo3_0 {a : Int} : ∀ F H e, (roE rdInt) F H e a → e.cells.toList[0]? = some (.int .i64 a) := by
 intro F H e h
 obtain ⟨-, h⟩ := h
 subst h
 rfl
instance fd51_0 : IFD Tryz.prog 51 0 0 := ⟨by unfold FD; kernel_rfl⟩
instance cf232 : ICF Tryz.prog 232 := ⟨Tryz.call232⟩
instance cf75 : ICF Tryz.prog 75 := ⟨Tryz.call75⟩
instance fd73_2 : IFD Tryz.prog 73 2 2 := ⟨by unfold FD; kernel_rfl⟩
instance fd73_4 : IFD Tryz.prog 73 4 4 := ⟨by unfold FD; kernel_rfl⟩
instance fd73_3 : IFD Tryz.prog 73 3 3 := ⟨by unfold FD; kernel_rfl⟩
instance cf233 : ICF Tryz.prog 233 := ⟨Tryz.call233⟩
theorem un98 {a : Atom} : Un ow98 a (fun p : Sv × List Nat => .agg [(.int .i64 a.Rel), p.1.v].toArray) (fun p => [cown (OwnS 3 (roE rdInt)) p.2 p.1.v a.Terms]) := ⟨fun F H e h => by
 obtain ⟨v0, F0, rfl, rfl, h0⟩ := h
 refine ⟨(v0, F0), rfl, fun c hc => ?_, by simp [foot, cown]⟩
 simp only [List.mem_cons, List.not_mem_nil, or_false] at hc
 rcases hc with rfl
 · exact h0⟩
theorem sf98_0 {a : Atom} {d : Int} : ∀ F H e, ow98 F H e a → ow98 F H (setPart e 0 (Value.cells (.int .i64 d)).toList) { a with Rel := d } := by
 intro F H e h
 obtain ⟨v0, F0, rfl, rfl, h0⟩ := h
 exact ⟨v0, F0, rfl, rfl, h0⟩
theorem fsf98_0 {a : Atom} : ∀ F H e, ow98 F H e a → 0 + 1 ≤ e.cells.size := by
 intro F H e h
 obtain ⟨v0, F0, rfl, rfl, h0⟩ := h
 exact Nat.le_of_ble_eq_true rfl
instance cf234 : ICF Tryz.prog 234 := ⟨Tryz.call234⟩
instance cf188 : ICF Tryz.prog 188 := ⟨Tryz.call188⟩
def ul98_0_98 (a : Atom) (p : Sv) : List Value := [(.int .i64 a.Rel), p.v]
theorem la98_0_98 {a : Atom} : ∀ H e, rd98 H e a → ∃ i : Sv, 0 + 2 ≤ e.cells.size ∧ (e.cells.toList.drop 0).take 2 = ul98_0_98 a i ∧ ∀ c ∈ ([crd (RdS 3 rdInt) i.v a.Terms] : List Comp), c.P H ∧ c.F = [] := by
 intro H e h
 obtain ⟨v0, rfl, h0⟩ := h
 refine ⟨v0, Nat.le_of_ble_eq_true rfl, rfl, fun c hc => by
   simp only [List.mem_cons, List.not_mem_nil, or_false] at hc
   rcases hc with rfl
   · exact ⟨h0, rfl⟩
⟩
instance cf235 : ICF Tryz.prog 235 := ⟨Tryz.call235⟩
instance cf125 : ICF Tryz.prog 125 := ⟨Tryz.call125⟩
instance sl27 : ISL Tryz.prog 27 86 := ⟨by unfold SL; kernel_rfl⟩
instance ty86 : ITY Tryz.prog 86 2 32 (.agg [(.int .i64 0), (.slice none 0 0)].toArray) := ⟨by unfold TY; kernel_rfl⟩
def rd86 (H : AHeap) (v : Value) (a : Fact) : Prop := ∃ v0 : Sv, v = .agg [(.int .i64 a.Rel), v0.v].toArray ∧ (RdS 3 rdInt) H v0.v a.Values
instance : Mono rd86 := ⟨fun h hi => by
 obtain ⟨v0, h, h0⟩ := h
 exact ⟨v0, h, Mono.up h0 hi⟩⟩
instance : Cells rd86 2 := ⟨fun h => by
 obtain ⟨v0, rfl, h0⟩ := h
 exact ⟨rfl, rfl⟩⟩
def ow86 : ORel Fact := fun F H v a => ∃ (v0 : Sv) (F0 : List Nat), v = .agg [(.int .i64 a.Rel), v0.v].toArray ∧ F0 = F ∧ (OwnS 3 (roE rdInt)) F0 H v0.v a.Values
instance : Keep ow86 := ⟨fun h hi hg => by
 obtain ⟨v0, F0, rfl, rfl, h0⟩ := h
 exact ⟨v0, F0, rfl, rfl, Keep.keep h0 hi (fun k hk => hg k (by simp [hk]))⟩⟩
instance : Local ow86 := ⟨fun h hg => by
 obtain ⟨v0, F0, rfl, rfl, h0⟩ := h
 exact ⟨v0, F0, rfl, rfl, Local.keep h0 (fun k hk => hg k (by simp [hk]))⟩⟩
instance : Owns ow86 := ⟨fun h k hk => by
 obtain ⟨v0, F0, rfl, rfl, h0⟩ := h
 exact Owns.owns h0 k hk
⟩
instance : OCells ow86 2 := ⟨fun h => by
 obtain ⟨v0, F0, rfl, rfl, h0⟩ := h
 exact ⟨rfl, rfl⟩⟩
instance : Frz ow86 rd86 := ⟨fun h hg => by
 obtain ⟨v0, F0, rfl, rfl, h0⟩ := h
 exact ⟨v0, rfl, Frz.frz h0 (fun k hk => hg k (by simp [hk]))⟩⟩
instance cf189 : ICF Tryz.prog 189 := ⟨Tryz.call189⟩
instance cf219 : ICF Tryz.prog 219 := ⟨Tryz.call219⟩
instance fd86_0 : IFD Tryz.prog 86 0 0 := ⟨by unfold FD; kernel_rfl⟩
instance fd86_1 : IFD Tryz.prog 86 1 1 := ⟨by unfold FD; kernel_rfl⟩
instance ag86 : IAG Tryz.prog 86 true := ⟨by unfold AG; kernel_rfl⟩
instance cf123 : ICF Tryz.prog 123 := ⟨Tryz.call123⟩
instance cf122 : ICF Tryz.prog 122 := ⟨Tryz.call122⟩
def ul86_0_86 (a : Fact) (p : Sv) : List Value := [(.int .i64 a.Rel), p.v]
theorem la86_0_86 {a : Fact} : ∀ H e, rd86 H e a → ∃ i : Sv, 0 + 2 ≤ e.cells.size ∧ (e.cells.toList.drop 0).take 2 = ul86_0_86 a i ∧ ∀ c ∈ ([crd (RdS 3 rdInt) i.v a.Values] : List Comp), c.P H ∧ c.F = [] := by
 intro H e h
 obtain ⟨v0, rfl, h0⟩ := h
 refine ⟨v0, Nat.le_of_ble_eq_true rfl, rfl, fun c hc => by
   simp only [List.mem_cons, List.not_mem_nil, or_false] at hc
   rcases hc with rfl
   · exact ⟨h0, rfl⟩
⟩
instance cf60 : ICF Tryz.prog 60 := ⟨Tryz.call60⟩
instance cf111 : ICF Tryz.prog 111 := ⟨Tryz.call111⟩
theorem mk86 {a : Fact} {v0 : Sv} {F0 : List Nat} : Mk ow86 F0 (.agg [(.int .i64 a.Rel), v0.v].toArray) a [cown (OwnS 3 (roE rdInt)) F0 v0.v a.Values] :=
 ⟨fun H h => ⟨v0, F0, rfl, rfl, h (cown (OwnS 3 (roE rdInt)) F0 v0.v a.Values) (by simp)⟩, by simp [cown]⟩
theorem ni27 : NotInt Tryz.prog 27 := .inr ⟨86, by kernel_rfl⟩
theorem ls86_0 {a : Fact} : ∀ H e, rd86 H e a → e.cells.toList[0]? = some (.int .i64 a.Rel) := by
 intro H e h
 obtain ⟨_, rfl, _⟩ := h
 rfl
theorem lv86_1 {a : Fact} : ∀ H e, rd86 H e a → ∃ w : Sv, e.cells.toList[1]? = some w.v ∧ (RdS 3 rdInt) H w.v a.Values := by
 intro H e h
 obtain ⟨v0, rfl, h0⟩ := h
 exact ⟨v0, rfl, h0⟩
instance cf190 : ICF Tryz.prog 190 := ⟨Tryz.call190⟩
instance cf26 : ICF Tryz.prog 26 := ⟨Tryz.call26⟩
instance cf65 : ICF Tryz.prog 65 := ⟨Tryz.call65⟩
instance cf70 : ICF Tryz.prog 70 := ⟨Tryz.call70⟩
instance cf127 : ICF Tryz.prog 127 := ⟨Tryz.call127⟩
instance cf98 : ICF Tryz.prog 98 := ⟨Tryz.call98⟩
instance cf53 : ICF Tryz.prog 53 := ⟨Tryz.call53⟩
instance cf114 : ICF Tryz.prog 114 := ⟨Tryz.call114⟩
instance cf192 : ICF Tryz.prog 192 := ⟨Tryz.call192⟩
instance cf134 : ICF Tryz.prog 134 := ⟨Tryz.call134⟩
instance cf201 : ICF Tryz.prog 201 := ⟨Tryz.call201⟩
def ul73_0_73 (a : Method) (p : Sv) : List Value := [(.int .i64 a.Rel), p.v, (.int .i64 a.Limit), (.int .i64 a.Cost), (.int .i64 a.Quota)]
theorem la73_0_73 {a : Method} : ∀ H e, rd73 H e a → ∃ i : Sv, 0 + 5 ≤ e.cells.size ∧ (e.cells.toList.drop 0).take 5 = ul73_0_73 a i ∧ ∀ c ∈ ([crd (RdS 3 rdInt) i.v a.Inputs] : List Comp), c.P H ∧ c.F = [] := by
 intro H e h
 obtain ⟨v0, rfl, h0⟩ := h
 refine ⟨v0, Nat.le_of_ble_eq_true rfl, rfl, fun c hc => by
   simp only [List.mem_cons, List.not_mem_nil, or_false] at hc
   rcases hc with rfl
   · exact ⟨h0, rfl⟩
⟩
instance cf135 : ICF Tryz.prog 135 := ⟨Tryz.call135⟩
instance cf136 : ICF Tryz.prog 136 := ⟨Tryz.call136⟩
instance cf191 : ICF Tryz.prog 191 := ⟨Tryz.call191⟩
instance cf202 : ICF Tryz.prog 202 := ⟨Tryz.call202⟩
instance cf244 : ICF Tryz.prog 244 := ⟨Tryz.call244⟩
instance cf245 : ICF Tryz.prog 245 := ⟨Tryz.call245⟩
instance cf180 : ICF Tryz.prog 180 := ⟨Tryz.call180⟩
instance cf87 : ICF Tryz.prog 87 := ⟨Tryz.call87⟩
instance cf149 : ICF Tryz.prog 149 := ⟨Tryz.call149⟩
instance cf211 : ICF Tryz.prog 211 := ⟨Tryz.call211⟩
instance cf150 : ICF Tryz.prog 150 := ⟨Tryz.call150⟩
instance cf151 : ICF Tryz.prog 151 := ⟨Tryz.call151⟩
instance cf212 : ICF Tryz.prog 212 := ⟨Tryz.call212⟩
instance cf250 : ICF Tryz.prog 250 := ⟨Tryz.call250⟩
instance cf251 : ICF Tryz.prog 251 := ⟨Tryz.call251⟩
instance cf133 : ICF Tryz.prog 133 := ⟨Tryz.call133⟩
instance cf252 : ICF Tryz.prog 252 := ⟨Tryz.call252⟩
instance cf152 : ICF Tryz.prog 152 := ⟨Tryz.call152⟩
instance cf213 : ICF Tryz.prog 213 := ⟨Tryz.call213⟩
instance cf132 : ICF Tryz.prog 132 := ⟨Tryz.call132⟩
instance cf199 : ICF Tryz.prog 199 := ⟨Tryz.call199⟩
def lays189_ren : Go.Shelf.Ren := ⟨fun | 189 => 199 | 125 => 243 | 257 => 242 | 128 => 283 | 129 => 284 | 294 => 275 | 295 => 276 | 296 => 277 | 297 => 278 | 298 => 279 | 299 => 280 | 216 => 227 | 300 => 281 | 301 => 282 | 328 => 292 | 329 => 293 | 330 => 294 | 331 => 295 | 332 => 296 | 215 => 228 | 343 => 302 | n => n, fun | 28 => 24 | 3 => 3 | 46 => 215 | 0 => 0 | 51 => 259 | 53 => 261 | 4 => 4 | 183 => 252 | 182 => 251 | 131 => 256 | 5 => 5 | 9 => 9 | 218 => 267 | 222 => 271 | 228 => 278 | 229 => 279 | n => n, fun | n => n⟩
theorem lays189 : Go.Proofs.Lays.n189 Tryz.prog lays189_ren := {
 mixed := by kernel_rfl
 f125 := Tryz.func243.trans (congrArg some (by kernel_rfl))
 f128 := Tryz.func283.trans (congrArg some (by kernel_rfl))
 f129 := Tryz.func284.trans (congrArg some (by kernel_rfl))
 f189 := Tryz.func199.trans (congrArg some (by kernel_rfl))
 f215 := Tryz.func228.trans (congrArg some (by kernel_rfl))
 f216 := Tryz.func227.trans (congrArg some (by kernel_rfl))
 f257 := Tryz.func242.trans (congrArg some (by kernel_rfl))
 f294 := Tryz.func275.trans (congrArg some (by kernel_rfl))
 f295 := Tryz.func276.trans (congrArg some (by kernel_rfl))
 f296 := Tryz.func277.trans (congrArg some (by kernel_rfl))
 f297 := Tryz.func278.trans (congrArg some (by kernel_rfl))
 f298 := Tryz.func279.trans (congrArg some (by kernel_rfl))
 f299 := Tryz.func280.trans (congrArg some (by kernel_rfl))
 f300 := Tryz.func281.trans (congrArg some (by kernel_rfl))
 f301 := Tryz.func282.trans (congrArg some (by kernel_rfl))
 f328 := Tryz.func292.trans (congrArg some (by kernel_rfl))
 f329 := Tryz.func293.trans (congrArg some (by kernel_rfl))
 f330 := Tryz.func294.trans (congrArg some (by kernel_rfl))
 f331 := Tryz.func295.trans (congrArg some (by kernel_rfl))
 f332 := Tryz.func296.trans (congrArg some (by kernel_rfl))
 f343 := Tryz.func302.trans (congrArg some (by kernel_rfl))
 t0 := Tryz.underlying0
 a0 := Tryz.isAgg0
 z0 := Tryz.sizeOf0
 v0 := Tryz.zeroValue0
 t3 := Tryz.underlying3
 a3 := Tryz.isAgg3
 z3 := Tryz.sizeOf3
 v3 := Tryz.zeroValue3
 t4 := Tryz.underlying4
 a4 := Tryz.isAgg4
 z4 := Tryz.sizeOf4
 v4 := Tryz.zeroValue4
 t5 := Tryz.underlying5
 a5 := Tryz.isAgg5
 z5 := Tryz.sizeOf5
 v5 := Tryz.zeroValue5
 t9 := Tryz.underlying9
 a9 := Tryz.isAgg9
 z9 := Tryz.sizeOf9
 v9 := Tryz.zeroValue9
 t28 := Tryz.underlying24
 a28 := Tryz.isAgg24
 z28 := Tryz.sizeOf24
 v28 := Tryz.zeroValue24
 t46 := Tryz.underlying215
 a46 := Tryz.isAgg215
 z46 := Tryz.sizeOf215
 v46 := Tryz.zeroValue215
 t51 := Tryz.underlying259
 a51 := Tryz.isAgg259
 z51 := Tryz.sizeOf259
 v51 := Tryz.zeroValue259
 t53 := Tryz.underlying261
 a53 := Tryz.isAgg261
 z53 := Tryz.sizeOf261
 v53 := Tryz.zeroValue261
 t131 := Tryz.underlying256
 a131 := Tryz.isAgg256
 z131 := Tryz.sizeOf256
 v131 := Tryz.zeroValue256
 t182 := Tryz.underlying251
 a182 := Tryz.isAgg251
 z182 := Tryz.sizeOf251
 v182 := Tryz.zeroValue251
 t183 := Tryz.underlying252
 a183 := Tryz.isAgg252
 z183 := Tryz.sizeOf252
 v183 := Tryz.zeroValue252
 t218 := Tryz.underlying267
 a218 := Tryz.isAgg267
 z218 := Tryz.sizeOf267
 v218 := Tryz.zeroValue267
 t222 := Tryz.underlying271
 a222 := Tryz.isAgg271
 z222 := Tryz.sizeOf271
 v222 := Tryz.zeroValue271
 t228 := Tryz.underlying278
 a228 := Tryz.isAgg278
 z228 := Tryz.sizeOf278
 v228 := Tryz.zeroValue278
 t229 := Tryz.underlying279
 a229 := Tryz.isAgg279
 z229 := Tryz.sizeOf279
 v229 := Tryz.zeroValue279 }
instance cf200 : ICF Tryz.prog 200 := ⟨Tryz.call200⟩
def lays2020_ren : Go.Shelf.Ren := ⟨fun | 20 => 200 | n => n, fun | 22 => 24 | 3 => 3 | 4 => 4 | 0 => 0 | n => n, fun | n => n⟩
theorem lays2020 : Go.Proofs.Lays2.n20 Tryz.prog lays2020_ren := {
 mixed := by kernel_rfl
 f20 := Tryz.func200.trans (congrArg some (by kernel_rfl))
 t0 := Tryz.underlying0
 a0 := Tryz.isAgg0
 z0 := Tryz.sizeOf0
 v0 := Tryz.zeroValue0
 t3 := Tryz.underlying3
 a3 := Tryz.isAgg3
 z3 := Tryz.sizeOf3
 v3 := Tryz.zeroValue3
 t4 := Tryz.underlying4
 a4 := Tryz.isAgg4
 z4 := Tryz.sizeOf4
 v4 := Tryz.zeroValue4
 t22 := Tryz.underlying24
 a22 := Tryz.isAgg24
 z22 := Tryz.sizeOf24
 v22 := Tryz.zeroValue24
 i3 := by kernel_rfl }
instance cf214 : ICF Tryz.prog 214 := ⟨Tryz.call214⟩
instance cf215 : ICF Tryz.prog 215 := ⟨Tryz.call215⟩
instance cf253 : ICF Tryz.prog 253 := ⟨Tryz.call253⟩
instance cf66 : ICF Tryz.prog 66 := ⟨Tryz.call66⟩
instance cf126 : ICF Tryz.prog 126 := ⟨Tryz.call126⟩
instance cf170 : ICF Tryz.prog 170 := ⟨Tryz.call170⟩
instance cf226 : ICF Tryz.prog 226 := ⟨Tryz.call226⟩
instance cf101 : ICF Tryz.prog 101 := ⟨Tryz.call101⟩
instance cf174 : ICF Tryz.prog 174 := ⟨Tryz.call174⟩
instance cf228 : ICF Tryz.prog 228 := ⟨Tryz.call228⟩
instance cf175 : ICF Tryz.prog 175 := ⟨Tryz.call175⟩
instance cf173 : ICF Tryz.prog 173 := ⟨Tryz.call173⟩
instance cf69 : ICF Tryz.prog 69 := ⟨Tryz.call69⟩
instance cf68 : ICF Tryz.prog 68 := ⟨Tryz.call68⟩
structure Access where
 Method : Int
 Values : List Int
structure Reached where
 Facts : List Fact
 Values : List Int
 Log : List Access
 Rounds : Int
instance ty62 : ITY Tryz.prog 62 4 80 (.agg [(.slice none 0 0), (.slice none 0 0), (.slice none 0 0), (.int .i64 0)].toArray) := ⟨by unfold TY; kernel_rfl⟩
instance cf130 : ICF Tryz.prog 130 := ⟨Tryz.call130⟩
instance cf196 : ICF Tryz.prog 196 := ⟨Tryz.call196⟩
instance sl54 : ISL Tryz.prog 54 24 := ⟨by unfold SL; kernel_rfl⟩
instance cf240 : ICF Tryz.prog 240 := ⟨Tryz.call240⟩
instance cf274 : ICF Tryz.prog 274 := ⟨Tryz.call274⟩
theorem lv24_0 {a : List Int} : ∀ H e, (RdS 3 rdInt) H e a → ∃ w : Sv, e.cells.toList[0]? = some w.v ∧ (RdS 3 rdInt) H w.v a := by
 intro H e h
 obtain ⟨a0, m, rfl⟩ := RdS.len h
 exact ⟨⟨a0, _, m⟩, rfl, h⟩
instance ag62 : IAG Tryz.prog 62 true := ⟨by unfold AG; kernel_rfl⟩
def rd45 (H : AHeap) (v : Value) (a : Access) : Prop := ∃ v0 : Sv, v = .agg [(.int .i64 a.Method), v0.v].toArray ∧ (RdS 3 rdInt) H v0.v a.Values
instance : Mono rd45 := ⟨fun h hi => by
 obtain ⟨v0, h, h0⟩ := h
 exact ⟨v0, h, Mono.up h0 hi⟩⟩
instance : Cells rd45 2 := ⟨fun h => by
 obtain ⟨v0, rfl, h0⟩ := h
 exact ⟨rfl, rfl⟩⟩
def ow45 : ORel Access := fun F H v a => ∃ (v0 : Sv) (F0 : List Nat), v = .agg [(.int .i64 a.Method), v0.v].toArray ∧ F0 = F ∧ (OwnS 3 (roE rdInt)) F0 H v0.v a.Values
instance : Keep ow45 := ⟨fun h hi hg => by
 obtain ⟨v0, F0, rfl, rfl, h0⟩ := h
 exact ⟨v0, F0, rfl, rfl, Keep.keep h0 hi (fun k hk => hg k (by simp [hk]))⟩⟩
instance : Local ow45 := ⟨fun h hg => by
 obtain ⟨v0, F0, rfl, rfl, h0⟩ := h
 exact ⟨v0, F0, rfl, rfl, Local.keep h0 (fun k hk => hg k (by simp [hk]))⟩⟩
instance : Owns ow45 := ⟨fun h k hk => by
 obtain ⟨v0, F0, rfl, rfl, h0⟩ := h
 exact Owns.owns h0 k hk
⟩
instance : OCells ow45 2 := ⟨fun h => by
 obtain ⟨v0, F0, rfl, rfl, h0⟩ := h
 exact ⟨rfl, rfl⟩⟩
instance : Frz ow45 rd45 := ⟨fun h hg => by
 obtain ⟨v0, F0, rfl, rfl, h0⟩ := h
 exact ⟨v0, rfl, Frz.frz h0 (fun k hk => hg k (by simp [hk]))⟩⟩
instance cf131 : ICF Tryz.prog 131 := ⟨Tryz.call131⟩
instance cf197 : ICF Tryz.prog 197 := ⟨Tryz.call197⟩
instance sl33 : ISL Tryz.prog 33 45 := ⟨by unfold SL; kernel_rfl⟩
instance ty45 : ITY Tryz.prog 45 2 32 (.agg [(.int .i64 0), (.slice none 0 0)].toArray) := ⟨by unfold TY; kernel_rfl⟩
instance fd62_1 : IFD Tryz.prog 62 1 1 := ⟨by unfold FD; kernel_rfl⟩
instance cf241 : ICF Tryz.prog 241 := ⟨Tryz.call241⟩
instance cf105 : ICF Tryz.prog 105 := ⟨Tryz.call105⟩
theorem ni54 : NotInt Tryz.prog 54 := .inr ⟨24, by kernel_rfl⟩
instance fd62_2 : IFD Tryz.prog 62 2 2 := ⟨by unfold FD; kernel_rfl⟩
instance ag33 : IAG Tryz.prog 33 false := ⟨by unfold AG; kernel_rfl⟩
instance ag45 : IAG Tryz.prog 45 true := ⟨by unfold AG; kernel_rfl⟩
instance cf58 : ICF Tryz.prog 58 := ⟨Tryz.call58⟩
instance cf51 : ICF Tryz.prog 51 := ⟨Tryz.call51⟩
instance cf113 : ICF Tryz.prog 113 := ⟨Tryz.call113⟩
def ul45_0_45 (a : Access) (p : Sv) : List Value := [(.int .i64 a.Method), p.v]
theorem la45_0_45 {a : Access} : ∀ H e, rd45 H e a → ∃ i : Sv, 0 + 2 ≤ e.cells.size ∧ (e.cells.toList.drop 0).take 2 = ul45_0_45 a i ∧ ∀ c ∈ ([crd (RdS 3 rdInt) i.v a.Values] : List Comp), c.P H ∧ c.F = [] := by
 intro H e h
 obtain ⟨v0, rfl, h0⟩ := h
 refine ⟨v0, Nat.le_of_ble_eq_true rfl, rfl, fun c hc => by
   simp only [List.mem_cons, List.not_mem_nil, or_false] at hc
   rcases hc with rfl
   · exact ⟨h0, rfl⟩
⟩
instance cf116 : ICF Tryz.prog 116 := ⟨Tryz.call116⟩
instance cf117 : ICF Tryz.prog 117 := ⟨Tryz.call117⟩
instance fd45_0 : IFD Tryz.prog 45 0 0 := ⟨by unfold FD; kernel_rfl⟩
instance fd45_1 : IFD Tryz.prog 45 1 1 := ⟨by unfold FD; kernel_rfl⟩
instance cf181 : ICF Tryz.prog 181 := ⟨Tryz.call181⟩
theorem mk45 {a : Access} {v0 : Sv} {F0 : List Nat} : Mk ow45 F0 (.agg [(.int .i64 a.Method), v0.v].toArray) a [cown (OwnS 3 (roE rdInt)) F0 v0.v a.Values] :=
 ⟨fun H h => ⟨v0, F0, rfl, rfl, h (cown (OwnS 3 (roE rdInt)) F0 v0.v a.Values) (by simp)⟩, by simp [cown]⟩
theorem ni33 : NotInt Tryz.prog 33 := .inr ⟨45, by kernel_rfl⟩
instance fd62_3 : IFD Tryz.prog 62 3 3 := ⟨by unfold FD; kernel_rfl⟩
instance cf198 : ICF Tryz.prog 198 := ⟨Tryz.call198⟩
theorem un45 {a : Access} : Un ow45 a (fun p : Sv × List Nat => .agg [(.int .i64 a.Method), p.1.v].toArray) (fun p => [cown (OwnS 3 (roE rdInt)) p.2 p.1.v a.Values]) := ⟨fun F H e h => by
 obtain ⟨v0, F0, rfl, rfl, h0⟩ := h
 refine ⟨(v0, F0), rfl, fun c hc => ?_, by simp [foot, cown]⟩
 simp only [List.mem_cons, List.not_mem_nil, or_false] at hc
 rcases hc with rfl
 · exact h0⟩
instance ty33 : ITY Tryz.prog 33 1 24 (.slice none 0 0) := ⟨by unfold TY; kernel_rfl⟩
instance cf43 : ICF Tryz.prog 43 := ⟨Tryz.call43⟩
instance cf103 : ICF Tryz.prog 103 := ⟨Tryz.call103⟩
instance cf177 : ICF Tryz.prog 177 := ⟨Tryz.call177⟩
instance cf102 : ICF Tryz.prog 102 := ⟨Tryz.call102⟩
instance cf104 : ICF Tryz.prog 104 := ⟨Tryz.call104⟩
instance cf176 : ICF Tryz.prog 176 := ⟨Tryz.call176⟩
theorem un86 {a : Fact} : Un ow86 a (fun p : Sv × List Nat => .agg [(.int .i64 a.Rel), p.1.v].toArray) (fun p => [cown (OwnS 3 (roE rdInt)) p.2 p.1.v a.Values]) := ⟨fun F H e h => by
 obtain ⟨v0, F0, rfl, rfl, h0⟩ := h
 refine ⟨(v0, F0), rfl, fun c hc => ?_, by simp [foot, cown]⟩
 simp only [List.mem_cons, List.not_mem_nil, or_false] at hc
 rcases hc with rfl
 · exact h0⟩
instance fd62_0 : IFD Tryz.prog 62 0 0 := ⟨by unfold FD; kernel_rfl⟩
instance ag27 : IAG Tryz.prog 27 false := ⟨by unfold AG; kernel_rfl⟩
instance cf120 : ICF Tryz.prog 120 := ⟨Tryz.call120⟩
instance cf119 : ICF Tryz.prog 119 := ⟨Tryz.call119⟩
instance cf182 : ICF Tryz.prog 182 := ⟨Tryz.call182⟩
instance cf183 : ICF Tryz.prog 183 := ⟨Tryz.call183⟩
instance cf184 : ICF Tryz.prog 184 := ⟨Tryz.call184⟩
instance cf185 : ICF Tryz.prog 185 := ⟨Tryz.call185⟩
theorem hov229 : ∀ args w, (callFunc 229 args).run Tryz.prog w = ((Extern.SlicesOverlaps.overlaps #[27, 27] #[4] args).run Tryz.prog w).andThen fun v w' => .ok (.value v) w' := fun args w => run_callFunc_extern Tryz.func229 (by kernel_rfl) (by kernel_rfl) (by kernel_rfl) (e := Extern.SlicesOverlaps.overlaps #[27, 27] #[4]) (by kernel_rfl) args w
instance ty27 : ITY Tryz.prog 27 1 24 (.slice none 0 0) := ⟨by unfold TY; kernel_rfl⟩
theorem fdt62_0 : FDT Tryz.prog 62 0 0 27 := by unfold FDT; kernel_rfl
instance cf67 : ICF Tryz.prog 67 := ⟨Tryz.call67⟩
instance cf129 : ICF Tryz.prog 129 := ⟨Tryz.call129⟩
structure Binding where
 Vars : List Int
 Values : List Int
instance ty147 : ITY Tryz.prog 147 2 48 (.agg [(.slice none 0 0), (.slice none 0 0)].toArray) := ⟨by unfold TY; kernel_rfl⟩
instance sl103 : ISL Tryz.prog 103 147 := ⟨by unfold SL; kernel_rfl⟩
def rd147 (H : AHeap) (v : Value) (a : Binding) : Prop := ∃ v0 v1 : Sv, v = .agg [v0.v, v1.v].toArray ∧ (RdS 3 rdInt) H v0.v a.Vars ∧ (RdS 3 rdInt) H v1.v a.Values
instance : Mono rd147 := ⟨fun h hi => by
 obtain ⟨v0, v1, h, h0, h1⟩ := h
 exact ⟨v0, v1, h, Mono.up h0 hi, Mono.up h1 hi⟩⟩
instance : Cells rd147 2 := ⟨fun h => by
 obtain ⟨v0, v1, rfl, h0, h1⟩ := h
 exact ⟨rfl, rfl⟩⟩
def ow147 : ORel Binding := fun F H v a => ∃ (v0 v1 : Sv) (F0 F1 : List Nat), v = .agg [v0.v, v1.v].toArray ∧ F = (F0 ++ F1) ∧ (OwnS 3 (roE rdInt)) F0 H v0.v a.Vars ∧ (OwnS 3 (roE rdInt)) F1 H v1.v a.Values
instance : Keep ow147 := ⟨fun h hi hg => by
 obtain ⟨v0, v1, F0, F1, rfl, rfl, h0, h1⟩ := h
 exact ⟨v0, v1, F0, F1, rfl, rfl, Keep.keep h0 hi (fun k hk => hg k (by simp [hk])), Keep.keep h1 hi (fun k hk => hg k (by simp [hk]))⟩⟩
instance : Local ow147 := ⟨fun h hg => by
 obtain ⟨v0, v1, F0, F1, rfl, rfl, h0, h1⟩ := h
 exact ⟨v0, v1, F0, F1, rfl, rfl, Local.keep h0 (fun k hk => hg k (by simp [hk])), Local.keep h1 (fun k hk => hg k (by simp [hk]))⟩⟩
instance : Owns ow147 := ⟨fun h k hk => by
 obtain ⟨v0, v1, F0, F1, rfl, rfl, h0, h1⟩ := h
 simp only [List.mem_append] at hk
 rcases hk with hk | hk
 · exact Owns.owns h0 k hk
 · exact Owns.owns h1 k hk
⟩
instance : OCells ow147 2 := ⟨fun h => by
 obtain ⟨v0, v1, F0, F1, rfl, rfl, h0, h1⟩ := h
 exact ⟨rfl, rfl⟩⟩
instance : Frz ow147 rd147 := ⟨fun h hg => by
 obtain ⟨v0, v1, F0, F1, rfl, rfl, h0, h1⟩ := h
 exact ⟨v0, v1, rfl, Frz.frz h0 (fun k hk => hg k (by simp [hk])), Frz.frz h1 (fun k hk => hg k (by simp [hk]))⟩⟩
theorem mk147 {a : Binding} {v0 v1 : Sv} {F0 F1 : List Nat} : Mk ow147 (F0 ++ F1) (.agg [v0.v, v1.v].toArray) a [cown (OwnS 3 (roE rdInt)) F0 v0.v a.Vars, cown (OwnS 3 (roE rdInt)) F1 v1.v a.Values] :=
 ⟨fun H h => ⟨v0, v1, F0, F1, rfl, rfl, h (cown (OwnS 3 (roE rdInt)) F0 v0.v a.Vars) (by simp), h (cown (OwnS 3 (roE rdInt)) F1 v1.v a.Values) (by simp)⟩, by simp [cown]⟩
instance cf195 : ICF Tryz.prog 195 := ⟨Tryz.call195⟩
def ul147_0_147 (a : Binding) (p : Sv × Sv) : List Value := [p.1.v, p.2.v]
theorem la147_0_147 {a : Binding} : ∀ H e, rd147 H e a → ∃ i : Sv × Sv, 0 + 2 ≤ e.cells.size ∧ (e.cells.toList.drop 0).take 2 = ul147_0_147 a i ∧ ∀ c ∈ ([crd (RdS 3 rdInt) i.1.v a.Vars, crd (RdS 3 rdInt) i.2.v a.Values] : List Comp), c.P H ∧ c.F = [] := by
 intro H e h
 obtain ⟨v0, v1, rfl, h0, h1⟩ := h
 refine ⟨(v0, v1), Nat.le_of_ble_eq_true rfl, rfl, fun c hc => by
   simp only [List.mem_cons, List.not_mem_nil, or_false] at hc
   rcases hc with rfl | rfl
   · exact ⟨h0, rfl⟩
   · exact ⟨h1, rfl⟩
⟩
instance ag147 : IAG Tryz.prog 147 true := ⟨by unfold AG; kernel_rfl⟩
instance cf239 : ICF Tryz.prog 239 := ⟨Tryz.call239⟩
instance fd147_0 : IFD Tryz.prog 147 0 0 := ⟨by unfold FD; kernel_rfl⟩
instance fd147_1 : IFD Tryz.prog 147 1 1 := ⟨by unfold FD; kernel_rfl⟩
instance cf273 : ICF Tryz.prog 273 := ⟨Tryz.call273⟩
instance cf272 : ICF Tryz.prog 272 := ⟨Tryz.call272⟩
instance cf238 : ICF Tryz.prog 238 := ⟨Tryz.call238⟩
theorem ni103 : NotInt Tryz.prog 103 := .inr ⟨147, by kernel_rfl⟩
instance cf128 : ICF Tryz.prog 128 := ⟨Tryz.call128⟩
instance cf194 : ICF Tryz.prog 194 := ⟨Tryz.call194⟩
instance cf193 : ICF Tryz.prog 193 := ⟨Tryz.call193⟩
instance cf140 : ICF Tryz.prog 140 := ⟨Tryz.call140⟩
instance cf204 : ICF Tryz.prog 204 := ⟨Tryz.call204⟩
instance cf203 : ICF Tryz.prog 203 := ⟨Tryz.call203⟩
instance cf205 : ICF Tryz.prog 205 := ⟨Tryz.call205⟩
instance cf236 : ICF Tryz.prog 236 := ⟨Tryz.call236⟩
instance cf237 : ICF Tryz.prog 237 := ⟨Tryz.call237⟩
theorem hov270 : ∀ args w, (callFunc 270 args).run Tryz.prog w = ((Extern.SlicesOverlaps.overlaps #[54, 54] #[4] args).run Tryz.prog w).andThen fun v w' => .ok (.value v) w' := fun args w => run_callFunc_extern Tryz.func270 (by kernel_rfl) (by kernel_rfl) (by kernel_rfl) (e := Extern.SlicesOverlaps.overlaps #[54, 54] #[4]) (by kernel_rfl) args w
instance cf27 : ICF Tryz.prog 27 := ⟨Tryz.call27⟩
instance cf38 : ICF Tryz.prog 38 := ⟨Tryz.call38⟩
instance cf71 : ICF Tryz.prog 71 := ⟨Tryz.call71⟩
instance ty54 : ITY Tryz.prog 54 1 24 (.slice none 0 0) := ⟨by unfold TY; kernel_rfl⟩
instance cf138 : ICF Tryz.prog 138 := ⟨Tryz.call138⟩
instance cf137 : ICF Tryz.prog 137 := ⟨Tryz.call137⟩
instance cf139 : ICF Tryz.prog 139 := ⟨Tryz.call139⟩
instance ag54 : IAG Tryz.prog 54 false := ⟨by unfold AG; kernel_rfl⟩
instance cf29 : ICF Tryz.prog 29 := ⟨Tryz.call29⟩
instance cf73 : ICF Tryz.prog 73 := ⟨Tryz.call73⟩
instance cf31 : ICF Tryz.prog 31 := ⟨Tryz.call31⟩
instance cf74 : ICF Tryz.prog 74 := ⟨Tryz.call74⟩
instance cf32 : ICF Tryz.prog 32 := ⟨Tryz.call32⟩
instance cf76 : ICF Tryz.prog 76 := ⟨Tryz.call76⟩
instance cf141 : ICF Tryz.prog 141 := ⟨Tryz.call141⟩
instance cf33 : ICF Tryz.prog 33 := ⟨Tryz.call33⟩
instance cf80 : ICF Tryz.prog 80 := ⟨Tryz.call80⟩
instance cf36 : ICF Tryz.prog 36 := ⟨Tryz.call36⟩
instance cf35 : ICF Tryz.prog 35 := ⟨Tryz.call35⟩
instance cf83 : ICF Tryz.prog 83 := ⟨Tryz.call83⟩
instance cf84 : ICF Tryz.prog 84 := ⟨Tryz.call84⟩
instance cf146 : ICF Tryz.prog 146 := ⟨Tryz.call146⟩
instance cf147 : ICF Tryz.prog 147 := ⟨Tryz.call147⟩
instance cf208 : ICF Tryz.prog 208 := ⟨Tryz.call208⟩
instance cf209 : ICF Tryz.prog 209 := ⟨Tryz.call209⟩
theorem ls45_0 {a : Access} : ∀ H e, rd45 H e a → e.cells.toList[0]? = some (.int .i64 a.Method) := by
 intro H e h
 obtain ⟨_, rfl, _⟩ := h
 rfl
theorem lv45_1 {a : Access} : ∀ H e, rd45 H e a → ∃ w : Sv, e.cells.toList[1]? = some w.v ∧ (RdS 3 rdInt) H w.v a.Values := by
 intro H e h
 obtain ⟨v0, rfl, h0⟩ := h
 exact ⟨v0, rfl, h0⟩
instance cf48 : ICF Tryz.prog 48 := ⟨Tryz.call48⟩
instance cf148 : ICF Tryz.prog 148 := ⟨Tryz.call148⟩
instance cf210 : ICF Tryz.prog 210 := ⟨Tryz.call210⟩
theorem ls73_2 {a : Method} : ∀ H e, rd73 H e a → e.cells.toList[2]? = some (.int .i64 a.Limit) := by
 intro H e h
 obtain ⟨_, rfl, _⟩ := h
 rfl
theorem lv73_1 {a : Method} : ∀ H e, rd73 H e a → ∃ w : Sv, e.cells.toList[1]? = some w.v ∧ (RdS 3 rdInt) H w.v a.Inputs := by
 intro H e h
 obtain ⟨v0, rfl, h0⟩ := h
 exact ⟨v0, rfl, h0⟩
instance cf249 : ICF Tryz.prog 249 := ⟨Tryz.call249⟩
instance cf59 : ICF Tryz.prog 59 := ⟨Tryz.call59⟩
instance cf45 : ICF Tryz.prog 45 := ⟨Tryz.call45⟩
instance cf72 : ICF Tryz.prog 72 := ⟨Tryz.call72⟩
theorem mr45 {a : Access} {v0 : Sv} : Mk (roE rd45) [] (.agg [(.int .i64 a.Method), v0.v].toArray) a [crd (RdS 3 rdInt) v0.v a.Values] :=
 ⟨fun H h => ⟨rfl, v0, rfl, h (crd (RdS 3 rdInt) v0.v a.Values) (by simp)⟩, by simp [crd]⟩
instance cf47 : ICF Tryz.prog 47 := ⟨Tryz.call47⟩
instance cf110 : ICF Tryz.prog 110 := ⟨Tryz.call110⟩
instance cf34 : ICF Tryz.prog 34 := ⟨Tryz.call34⟩
instance cf82 : ICF Tryz.prog 82 := ⟨Tryz.call82⟩
instance cf145 : ICF Tryz.prog 145 := ⟨Tryz.call145⟩
instance cf207 : ICF Tryz.prog 207 := ⟨Tryz.call207⟩
instance cf246 : ICF Tryz.prog 246 := ⟨Tryz.call246⟩
instance cf143 : ICF Tryz.prog 143 := ⟨Tryz.call143⟩
instance cf247 : ICF Tryz.prog 247 := ⟨Tryz.call247⟩
instance cf248 : ICF Tryz.prog 248 := ⟨Tryz.call248⟩
instance cf81 : ICF Tryz.prog 81 := ⟨Tryz.call81⟩
instance cf144 : ICF Tryz.prog 144 := ⟨Tryz.call144⟩
instance cf206 : ICF Tryz.prog 206 := ⟨Tryz.call206⟩
instance cf28 : ICF Tryz.prog 28 := ⟨Tryz.call28⟩
instance cf30 : ICF Tryz.prog 30 := ⟨Tryz.call30⟩
instance cf37 : ICF Tryz.prog 37 := ⟨Tryz.call37⟩
instance cf86 : ICF Tryz.prog 86 := ⟨Tryz.call86⟩
def l_big (a_code : List UInt8) : Option (Bool) :=
 some (decide ((1048576 : Int) < (a_code.length : Int)))
theorem l_big_ok (a_code : List UInt8) (v0_0 : Sv) (R : Bool) (hF : l_big a_code = some R) :
   Fw.Spec Tryz.prog 5 [v0_0.v] [crd (RdS 5 rdU8) v0_0.v a_code] (fun _ : Unit => (.bool R)) (fun _ => []) := by
 refine Se 6 Tryz.func5 [.tmp 2] ?_
 intro H0 F0
 unfold l_big at hF
 iterate 10 refine au ?_
 cases hF
 exact Er ()
def s_l1New_L1 (a_code : List UInt8) : Nat → Int → Int → Option (l1Cur)
 | 0, _, _ => none
 | m3 + 1, c1, c2 => if ((decide ((c2 : Int) < (a_code.length : Int))) && (decide ((c2 : Int) < 4000))) then (
     (ix a_code c2).bind fun x13 =>
     s_l1New_L1 a_code m3 (andI .i64 (IntKind.i64.wrap ((IntKind.i64.wrap ((IntKind.i64.wrap (c1 * 131)) + (x13.toNat : Int))) + 7)) 1073741823) (IntKind.i64.wrap (c2 + 1)))
   else (
     some ({ b := a_code, i := 0, h := c1 } : l1Cur))
def s_l1New (a_code : List UInt8) : Option (l1Cur) :=
 s_l1New_L1 a_code (((a_code.length : Int) - 0).toNat + 2) (IntKind.i64.wrap (10101 + (a_code.length : Int))) 0
theorem s_l1New_ok (a_code : List UInt8) (v0_0 : Sv) (R : l1Cur) (hF : s_l1New a_code = some R) :
   Fw.Spec Tryz.prog 40 [v0_0.v] [crd (RdS 5 rdU8) v0_0.v a_code] (fun p : Nat × Sv => (.pointer (some ⟨p.1, 0, some 0⟩))) (fun p => [cbox p.1 112 (.agg [p.2.v, (.int .i64 R.i), (.int .i64 R.h)].toArray), crd (RdS 5 rdU8) p.2.v R.b]) := by
 refine Se 32 Tryz.func40 [.tmp 2] ?_
 intro H0 F0
 unfold s_l1New at hF
 iterate 13 refine au ?_
 refine CW_block (CW_loop (m := (((a_code.length : Int) - 0).toNat + 2)) (fun m3 f' cs' => ∃ (g : Fr) (c1 : Int) (c2 : Int), f' = updL g [(0, v0_0.v), (3, (.int .i64 c1)), (4, (.int .i64 c2))] ∧ Ent cs' [crd (RdS 5 rdU8) v0_0.v a_code] ∧ s_l1New_L1 a_code m3 c1 c2 = some R) ⟨_, _, _, eqA, entA, hF⟩ ?_)
 rintro m3 _ _ ⟨g4, c1, c2, rfl, hE, hF⟩
 refine K_ent hE ?_
 rcases m3 with _ | m3
 · rw [s_l1New_L1] at hF
   exact absurd hF (by simp)
 rw [s_l1New_L1] at hF
 iterate 2 refine au ?_
 refine C_cut (fun f' cs' => ∃ (g : Fr), f' = updL g [(0, v0_0.v), (3, (.int .i64 c1)), (4, (.int .i64 c2)), (15, (.bool ((decide ((c2 : Int) < (a_code.length : Int))) && (decide ((c2 : Int) < 4000)))))] ∧ Ent cs' [crd (RdS 5 rdU8) v0_0.v a_code]) ?_ ?_
 · iterate 5 refine au ?_
   rcases Bool.eq_false_or_eq_true (decide ((c2 : Int) < (a_code.length : Int))) with hg11 | hg11
   · rw [hg11]
     try rw [hg11] at hF; dsimp only [cond_true, cond_false] at hF
     iterate 6 refine au ?_
     exact ⟨_, eqA, entA⟩
   rw [hg11]
   try rw [hg11] at hF; dsimp only [cond_true, cond_false] at hF
   iterate 4 refine au ?_
   exact ⟨_, eqA, entA⟩
 rintro _ _ ⟨g12, rfl, hE⟩
 refine K_ent hE ?_
 refine Ci hF (fun hb20 hF => ?_) (fun hb20 hF => ?_)
 · iterate 7 refine au ?_
   refine bnd hF fun x13 hx14 hF => ?_
   obtain ⟨hp15, hx16⟩ := ix_some hx14
   refine Ai hx16 (fun k17 j18 => ?_)
   refine Al ls5_0 ?_
   refine C_val (V_convFromU8 (u := x13) ik5 ik3 (.tmp rfl rfl)) ?_
   iterate 2 refine au ?_
   refine C_val (V_and (i := (IntKind.i64.wrap ((IntKind.i64.wrap ((IntKind.i64.wrap (c1 * 131)) + (x13.toNat : Int))) + 7))) (j := 1073741823) (.tmp rfl rfl) (.int _ _)) ?_
   iterate 7 refine au ?_
   exact ⟨m3, Nat.lt_succ_self _, _, _, _, eqA, entA, hF⟩
 iterate 7 refine au ?_
 refine C_val (V_build ty112.h rfl (vs := [v0_0.v, (.int .i64 c1)]) (.cons (.tmp rfl rfl) (.cons (.tmp rfl rfl) .nil)) (cells := [v0_0.v, (.int .i64 0), (.int .i64 c1)]) rfl) ?_
 refine AbW (fun k19 => ?_)
 iterate 3 refine au ?_
 cases hF
 exact Er (k19, v0_0)
def s_l1Byte (a_c : l1Cur) : Option (Int × l1Cur) :=
 (shrI .i64 (IntKind.i64.wrap ((IntKind.i64.wrap (a_c.h * 6364136223846793005)) + 1442695040888963407)) 33).bind fun x1 =>
 (shrI .i64 (IntKind.i64.wrap ((IntKind.i64.wrap (a_c.h * 6364136223846793005)) + 1442695040888963407)) 45).bind fun x3 =>
 if (decide ((a_c.i : Int) < (a_c.b.length : Int))) then (
   (ix a_c.b a_c.i).bind fun x5 =>
   some ((andI .i64 (IntKind.i64.wrap ((andI .i64 (xorI .i64 x1 x3) 255) + (x5.toNat : Int))) 255), ({ b := a_c.b, i := (IntKind.i64.wrap (a_c.i + 1)), h := (IntKind.i64.wrap ((IntKind.i64.wrap (a_c.h * 6364136223846793005)) + 1442695040888963407)) } : l1Cur)))
 else (
   some ((andI .i64 (xorI .i64 x1 x3) 255), ({ b := a_c.b, i := a_c.i, h := (IntKind.i64.wrap ((IntKind.i64.wrap (a_c.h * 6364136223846793005)) + 1442695040888963407)) } : l1Cur)))
theorem s_l1Byte_ok (kq0 : Nat) (a_c : l1Cur) (v0_0 : Sv) (R : Int × l1Cur) (hF : s_l1Byte a_c = some R) :
   Fw.Spec Tryz.prog 164 [(pz kq0)] [cbox kq0 112 (.agg [v0_0.v, (.int .i64 a_c.i), (.int .i64 a_c.h)].toArray), crd (RdS 5 rdU8) v0_0.v a_c.b] (fun _ : Unit => (.int .i64 R.1)) (fun _ => [cbox kq0 112 (.agg [v0_0.v, (.int .i64 R.2.i), (.int .i64 R.2.h)].toArray)]) := by
 refine Se 58 Tryz.func164 [.tmp 2] ?_
 intro H0 F0
 unfold s_l1Byte at hF
 iterate 6 refine au ?_
 refine C_val (V_nilCheck (v := (pz kq0)) rfl (.tmp rfl rfl)) ?_
 iterate 4 refine au ?_
 refine C_val (V_nilCheck (v := (pz kq0)) rfl (.tmp rfl rfl)) ?_
 refine au ?_
 refine As (.agg [v0_0.v, (.int .i64 a_c.i), (.int .i64 (IntKind.i64.wrap ((IntKind.i64.wrap (a_c.h * 6364136223846793005)) + 1442695040888963407)))].toArray) ?_
 refine au ?_
 refine K_draw [0, 1, 2, 3, 4, 5, 6, 7, 8, 9, 10, 11, 12] [0, 1, 3, 7, 15, 0, 32, 96, 224, 480, 1023, 2047, 4095] [] mixed (by decide +kernel) ?_
 refine du ?_
 refine D_val rfl .no (fun ha => V_nilCheck (v := (pz kq0)) rfl (EN ha (.tmp rfl rfl) rfl)) ?_
 refine du ?_
 refine D_atO rfl .no .h (fun ha hp => V_load (v := (.int .i64 (IntKind.i64.wrap ((IntKind.i64.wrap (a_c.h * 6364136223846793005)) + 1442695040888963407)))) ag3.h (EN ha (.tmp rfl rfl) rfl) hp.2 rfl rfl) ?_
 refine bnd hF fun x1 hx2 hF => D_val rfl .no (fun ha => V_shr (i := (IntKind.i64.wrap ((IntKind.i64.wrap (a_c.h * 6364136223846793005)) + 1442695040888963407))) (j := 33) (EN ha (.tmp rfl rfl) rfl) (EN ha (.int _ _) rfl) hx2) ?_
 refine du ?_
 refine D_val rfl .no (fun ha => V_nilCheck (v := (pz kq0)) rfl (EN ha (.tmp rfl rfl) rfl)) ?_
 refine du ?_
 refine D_atO rfl .no .h (fun ha hp => V_load (v := (.int .i64 (IntKind.i64.wrap ((IntKind.i64.wrap (a_c.h * 6364136223846793005)) + 1442695040888963407)))) ag3.h (EN ha (.tmp rfl rfl) rfl) hp.2 rfl rfl) ?_
 refine bnd hF fun x3 hx4 hF => D_val rfl .no (fun ha => V_shr (i := (IntKind.i64.wrap ((IntKind.i64.wrap (a_c.h * 6364136223846793005)) + 1442695040888963407))) (j := 45) (EN ha (.tmp rfl rfl) rfl) (EN ha (.int _ _) rfl) hx4) ?_
 refine D_val rfl .no (fun ha => V_xor (i := x1) (j := x3) (EN ha (.tmp rfl rfl) rfl) (EN ha (.tmp rfl rfl) rfl)) ?_
 refine D_val rfl .no (fun ha => V_and (i := (xorI .i64 x1 x3)) (j := 255) (EN ha (.tmp rfl rfl) rfl) (EN ha (.int _ _) rfl)) ?_
 iterate 2 refine du ?_
 refine au ?_
 refine K_draw [0, 1, 2, 3, 4, 5, 6, 7, 8, 9] [0, 1, 3, 7, 0, 16, 48, 112, 240, 511] [] mixed (by decide +kernel) ?_
 refine du ?_
 refine D_val rfl .no (fun ha => V_nilCheck (v := (pz kq0)) rfl (EN ha (.tmp rfl rfl) rfl)) ?_
 refine du ?_
 refine D_atO rfl .no .h (fun ha hp => V_load (v := (.int .i64 a_c.i)) ag3.h (EN ha (.tmp rfl rfl) rfl) hp.2 rfl rfl) ?_
 refine du ?_
 refine D_val rfl .no (fun ha => V_nilCheck (v := (pz kq0)) rfl (EN ha (.tmp rfl rfl) rfl)) ?_
 refine du ?_
 refine D_atO rfl .no .h (fun ha hp => V_load (v := v0_0.v) ag22.h (EN ha (.tmp rfl rfl) rfl) hp.2 rfl rfl) ?_
 iterate 3 refine du ?_
 refine Ci hF (fun hb11 hF => ?_) (fun hb11 hF => ?_)
 · refine K_draw [0, 1, 2, 3, 4, 5, 6, 7, 8, 9, 10, 11, 12, 13, 14] [0, 0, 2, 6, 14, 0, 32, 96, 224, 510, 1022, 2046, 4095, 8191, 16383] [] mixed (by decide +kernel) ?_
   iterate 2 refine du ?_
   refine D_val rfl .no (fun ha => V_nilCheck (v := (pz kq0)) rfl (EN ha (.tmp rfl rfl) rfl)) ?_
   refine du ?_
   refine D_atO rfl .no .h (fun ha hp => V_load (v := v0_0.v) ag22.h (EN ha (.tmp rfl rfl) rfl) hp.2 rfl rfl) ?_
   refine du ?_
   refine D_val rfl .no (fun ha => V_nilCheck (v := (pz kq0)) rfl (EN ha (.tmp rfl rfl) rfl)) ?_
   refine du ?_
   refine D_atO rfl .no .h (fun ha hp => V_load (v := (.int .i64 a_c.i)) ag3.h (EN ha (.tmp rfl rfl) rfl) hp.2 rfl rfl) ?_
   refine bnd hF fun x5 hx6 hF => ?_
   obtain ⟨hp7, hx8⟩ := ix_some hx6
   refine Di hx8 (fun k9 j10 => ?_)
   refine Dl ls5_0 ?_
   refine D_val rfl .no (fun ha => V_convFromU8 (u := x5) ik5 ik3 (EN ha (.tmp rfl rfl) rfl)) ?_
   refine du ?_
   refine D_val rfl .no (fun ha => V_and (i := (IntKind.i64.wrap ((andI .i64 (xorI .i64 x1 x3) 255) + (x5.toNat : Int)))) (j := 255) (EN ha (.tmp rfl rfl) rfl) (EN ha (.int _ _) rfl)) ?_
   iterate 2 refine du ?_
   iterate 3 refine au ?_
   refine C_val (V_nilCheck (v := (pz kq0)) rfl (.tmp rfl rfl)) ?_
   iterate 3 refine au ?_
   refine C_val (V_nilCheck (v := (pz kq0)) rfl (.tmp rfl rfl)) ?_
   refine au ?_
   refine As (.agg [v0_0.v, (.int .i64 (IntKind.i64.wrap (a_c.i + 1))), (.int .i64 (IntKind.i64.wrap ((IntKind.i64.wrap (a_c.h * 6364136223846793005)) + 1442695040888963407)))].toArray) ?_
   iterate 6 refine au ?_
   cases hF
   exact Er ()
 iterate 6 refine au ?_
 cases hF
 exact Er ()
def s_l1Below (a_c : l1Cur) (a_n : Int) : Option (Int × l1Cur) :=
 if (decide ((a_n : Int) ≤ 0)) then (
   some (0, a_c))
 else (
   if (decide ((a_n : Int) ≤ 256)) then (
     (s_l1Byte a_c).bind fun r1 =>
     (remI r1.1 a_n).bind fun x4 =>
     some (x4, ({ b := a_c.b, i := r1.2.i, h := r1.2.h } : l1Cur)))
   else (
     (s_l1Byte a_c).bind fun r6 =>
     (s_l1Byte ({ b := a_c.b, i := r6.2.i, h := r6.2.h } : l1Cur)).bind fun r9 =>
     (s_l1Byte ({ b := a_c.b, i := r9.2.i, h := r9.2.h } : l1Cur)).bind fun r12 =>
     (s_l1Byte ({ b := a_c.b, i := r12.2.i, h := r12.2.h } : l1Cur)).bind fun r15 =>
     (remI (IntKind.i64.wrap ((IntKind.i64.wrap ((IntKind.i64.wrap ((IntKind.i64.wrap (r6.1 * 16777216)) + (IntKind.i64.wrap (r9.1 * 65536)))) + (IntKind.i64.wrap (r12.1 * 256)))) + r15.1)) a_n).bind fun x18 =>
     some (x18, ({ b := a_c.b, i := r15.2.i, h := r15.2.h } : l1Cur))))
theorem s_l1Below_ok (kq0 : Nat) (a_c : l1Cur) (v0_0 : Sv) (a_n : Int) (R : Int × l1Cur) (hF : s_l1Below a_c a_n = some R) :
   Fw.Spec Tryz.prog 89 [(pz kq0), (.int .i64 a_n)] [cbox kq0 112 (.agg [v0_0.v, (.int .i64 a_c.i), (.int .i64 a_c.h)].toArray), crd (RdS 5 rdU8) v0_0.v a_c.b] (fun _ : Unit => (.int .i64 R.1)) (fun _ => [cbox kq0 112 (.agg [v0_0.v, (.int .i64 R.2.i), (.int .i64 R.2.h)].toArray)]) := by
 refine Se 37 Tryz.func89 [.tmp 4] ?_
 intro H0 F0
 unfold s_l1Below at hF
 iterate 8 refine au ?_
 refine Ci hF (fun hb21 hF => ?_) (fun hb21 hF => ?_)
 · iterate 4 refine au ?_
   cases hF
   exact Er ()
 iterate 6 refine au ?_
 refine Ci hF (fun hb20 hF => ?_) (fun hb20 hF => ?_)
 · iterate 2 refine au ?_
   refine bnd hF fun r1 hx2 hF => Cx1 (s_l1Byte_ok _ _ _ _ hx2) (fun p3 => ?_)
   refine au ?_
   refine bnd hF fun x4 hx5 hF => C_val (V_remN (i := r1.1) (j := a_n) (.tmp rfl rfl) (.tmp rfl rfl) hx5) ?_
   iterate 3 refine au ?_
   cases hF
   exact Er ()
 iterate 3 refine au ?_
 refine bnd hF fun r6 hx7 hF => Cx1 (s_l1Byte_ok _ _ _ _ hx7) (fun p8 => ?_)
 iterate 4 refine au ?_
 refine bnd hF fun r9 hx10 hF => Cx1 (s_l1Byte_ok _ _ _ _ hx10) (fun p11 => ?_)
 iterate 4 refine au ?_
 refine bnd hF fun r12 hx13 hF => Cx1 (s_l1Byte_ok _ _ _ _ hx13) (fun p14 => ?_)
 iterate 4 refine au ?_
 refine bnd hF fun r15 hx16 hF => Cx1 (s_l1Byte_ok _ _ _ _ hx16) (fun p17 => ?_)
 iterate 14 refine au ?_
 refine bnd hF fun x18 hx19 hF => C_val (V_remN (i := (IntKind.i64.wrap ((IntKind.i64.wrap ((IntKind.i64.wrap ((IntKind.i64.wrap (r6.1 * 16777216)) + (IntKind.i64.wrap (r9.1 * 65536)))) + (IntKind.i64.wrap (r12.1 * 256)))) + r15.1))) (j := a_n) (.tmp rfl rfl) (.tmp rfl rfl) hx19) ?_
 iterate 3 refine au ?_
 cases hF
 exact Er ()
def s_l1Once (a_c : l1Cur) (a_n : Int) : Option (Bool × l1Cur) :=
 (s_l1Below a_c a_n).bind fun r1 =>
 some (((r1.1 : Int) == 0), ({ b := a_c.b, i := r1.2.i, h := r1.2.h } : l1Cur))
theorem s_l1Once_ok (kq0 : Nat) (a_c : l1Cur) (v0_0 : Sv) (a_n : Int) (R : Bool × l1Cur) (hF : s_l1Once a_c a_n = some R) :
   Fw.Spec Tryz.prog 187 [(pz kq0), (.int .i64 a_n)] [cbox kq0 112 (.agg [v0_0.v, (.int .i64 a_c.i), (.int .i64 a_c.h)].toArray), crd (RdS 5 rdU8) v0_0.v a_c.b] (fun _ : Unit => (.bool R.1)) (fun _ => [cbox kq0 112 (.agg [v0_0.v, (.int .i64 R.2.i), (.int .i64 R.2.h)].toArray)]) := by
 refine Se 9 Tryz.func187 [.tmp 4] ?_
 intro H0 F0
 unfold s_l1Once at hF
 iterate 6 refine au ?_
 refine bnd hF fun r1 hx2 hF => Cx1 (s_l1Below_ok _ _ _ _ _ hx2) (fun p3 => ?_)
 iterate 4 refine au ?_
 cases hF
 exact Er ()
def s_l2Schema_L1 (a_c : l1Cur) : Nat → Int → Int → (List Int) → Int → Option ((List Int) × l1Cur)
 | 0, _, _, _, _ => none
 | m45 + 1, c39, c40, c41, c44 => if (decide ((0 : Int) < c44)) then (
     ((s_l1Below ({ b := a_c.b, i := c39, h := c40 } : l1Cur) 2).bind fun r55 =>
       (s_l1Once ({ b := a_c.b, i := r55.2.i, h := r55.2.h } : l1Cur) 4).bind fun r58 =>
       if r58.1 then (
         (app c41 ([3] : List Int)).bind fun z62 =>
         some (r58.2.i, r58.2.h, z62))
       else (
         (app c41 ([(IntKind.i64.wrap (1 + r55.1))] : List Int)).bind fun z66 =>
         some (r58.2.i, r58.2.h, z66))).bind fun o53 =>
     match o53 with
     | (c70, c71, c72) => s_l2Schema_L1 a_c m45 c70 c71 c72 (IntKind.i64.wrap (c44 - 1)))
   else (
     some (c41, ({ b := a_c.b, i := c39, h := c40 } : l1Cur)))
def s_l2Schema (a_c : l1Cur) : Option ((List Int) × l1Cur) :=
 (s_l1Below a_c 3).bind fun r2 =>
 s_l2Schema_L1 a_c (((IntKind.i64.wrap (1 + r2.1)) - 0).toNat + 2) r2.2.i r2.2.h ([] : List Int) (IntKind.i64.wrap (1 + r2.1))
theorem s_l2Schema_ok (kq0 : Nat) (a_c : l1Cur) (v0_0 : Sv) (R : (List Int) × l1Cur) (hF : s_l2Schema a_c = some R) :
   Fw.Spec Tryz.prog 153 [(pz kq0)] [cbox kq0 112 (.agg [v0_0.v, (.int .i64 a_c.i), (.int .i64 a_c.h)].toArray), crd (RdS 5 rdU8) v0_0.v a_c.b] (fun p : Sv × List Nat => p.1.v) (fun p => [cown (OwnS 3 (roE rdInt)) p.2 p.1.v R.1, cbox kq0 112 (.agg [v0_0.v, (.int .i64 R.2.i), (.int .i64 R.2.h)].toArray)]) := by
 refine Se 24 Tryz.func153 [.tmp 2] ?_
 intro H0 F0
 unfold s_l2Schema at hF
 iterate 4 refine au ?_
 refine C_new rfl (N_buildSliceT (g := true) sl24.h ty3.h .nil (vs := []) rfl rfl rfl (by simp)) (fun k1 => ?_)
 refine Cv1 (.cons .h .nil) (own_lit (Ro := (roE rdInt)) (E := 3) (F := []) (xs := ([] : List Int)) MkL_nil rfl rfl) ?_
 iterate 5 refine au ?_
 refine bnd hF fun r2 hx3 hF => Cx1 (s_l1Below_ok _ _ _ _ _ hx3) (fun p4 => ?_)
 iterate 3 refine au ?_
 refine CW_block (CW_loop (m := (((IntKind.i64.wrap (1 + r2.1)) - 0).toNat + 2)) (fun m45 f' cs' => ∃ (g : Fr) (c39 : Int) (c40 : Int) (c41 : List Int) (c44 : Int) (v42 : Sv) (F43 : List Nat), f' = updL g [(0, (pz kq0)), (3, v42.v), (4, (.int .i64 c44))] ∧ Ent cs' [cbox kq0 112 (.agg [v0_0.v, (.int .i64 c39), (.int .i64 c40)].toArray), crd (RdS 5 rdU8) v0_0.v a_c.b, cown (OwnS 3 (roE rdInt)) F43 v42.v c41] ∧ s_l2Schema_L1 a_c m45 c39 c40 c41 c44 = some R) ⟨_, _, _, _, _, ⟨(some ⟨k1, 0, none⟩), 0, 1⟩, (k1 :: []), eqA, entA, hF⟩ ?_)
 rintro m45 _ _ ⟨g46, c39, c40, c41, c44, v42, F43, rfl, hE, hF⟩
 refine K_ent hE ?_
 rcases m45 with _ | m45
 · rw [s_l2Schema_L1] at hF
   exact absurd hF (by simp)
 rw [s_l2Schema_L1] at hF
 iterate 5 refine au ?_
 refine Ci hF (fun hb76 hF => ?_) (fun hb76 hF => ?_)
 · refine au ?_
   obtain ⟨o53, hio53, hO54⟩ := bind_some hF
   refine K_cut (fun f' cs' => ∃ (c70 : Int) (c71 : Int) (c72 : List Int) (v73 : Sv) (F74 : List Nat) (g : Fr), o53 = (c70, c71, c72) ∧ f' = updL g [(0, (pz kq0)), (3, v73.v), (4, (.int .i64 c44))] ∧ Ent cs' [cbox kq0 112 (.agg [v0_0.v, (.int .i64 c70), (.int .i64 c71)].toArray), crd (RdS 5 rdU8) v0_0.v a_c.b, cown (OwnS 3 (roE rdInt)) F74 v73.v c72]) ?_ ?_
   · replace hF := hio53
     refine CW_block (K_region (Cm (pz kq0) rfl rfl ?_))
     refine bnd hF fun r55 hx56 hF => Cx1 (s_l1Below_ok _ _ _ _ _ hx56) (fun p57 => ?_)
     iterate 6 refine au ?_
     refine bnd hF fun r58 hx59 hF => Cx1 (s_l1Once_ok _ _ _ _ _ hx59) (fun p60 => ?_)
     refine au ?_
     refine Ci hF (fun hb69 hF => ?_) (fun hb69 hF => ?_)
     · iterate 6 refine au ?_
       refine C_new rfl (N_buildSliceT (g := true) sl24.h ty3.h (.cons (.tmp rfl rfl) .nil) (vs := [(.int .i64 3)]) rfl rfl rfl (by intro v hv; simp at hv; rcases hv with rfl <;> rfl)) (fun k61 => ?_)
       refine Cv1 (.cons .h .nil) (own_lit (Ro := (roE rdInt)) (E := 3) (F := ([] ++ [])) (xs := ([3] : List Int)) (MkL_cons (Mk_pure (fun _ => rfl)) MkL_nil apps) rfl rfl) ?_
       refine bnd hF fun z62 hx63 hF => C_x1 (.cons (.t (.t (.t .h))) (.cons .h .nil)) (X_appendO (Ro := (roE rdInt)) sl24.h ni24 ty3.h rfl rfl rfl (.tmp rfl rfl) (.tmp rfl rfl) hx63 src_own) (fun p64 => ?_)
       iterate 2 refine au ?_
       cases hF
       exact ⟨_, _, _, p64.1, p64.2, _, rfl, eqA, entA⟩
     iterate 4 refine au ?_
     refine C_new rfl (N_buildSliceT (g := true) sl24.h ty3.h (.cons (.tmp rfl rfl) .nil) (vs := [(.int .i64 (IntKind.i64.wrap (1 + r55.1)))]) rfl rfl rfl (by intro v hv; simp at hv; rcases hv with rfl <;> rfl)) (fun k65 => ?_)
     refine Cv1 (.cons .h .nil) (own_lit (Ro := (roE rdInt)) (E := 3) (F := ([] ++ [])) (xs := ([(IntKind.i64.wrap (1 + r55.1))] : List Int)) (MkL_cons (Mk_pure (fun _ => rfl)) MkL_nil apps) rfl rfl) ?_
     refine bnd hF fun z66 hx67 hF => C_x1 (.cons (.t (.t (.t .h))) (.cons .h .nil)) (X_appendO (Ro := (roE rdInt)) sl24.h ni24 ty3.h rfl rfl rfl (.tmp rfl rfl) (.tmp rfl rfl) hx67 src_own) (fun p68 => ?_)
     iterate 2 refine au ?_
     cases hF
     exact ⟨_, _, _, p68.1, p68.2, _, rfl, eqA, entA⟩
   rintro _ _ ⟨c70, c71, c72, v73, F74, g75, rfl, rfl, hE⟩
   replace hF := hO54
   try dsimp only at hF
   refine K_ent hE ?_
   iterate 5 refine au ?_
   exact ⟨m45, Nat.lt_succ_self _, _, _, _, _, _, v73, F74, eqA, entA, hF⟩
 iterate 9 refine au ?_
 cases hF
 exact Er (v42, F43)
def s_l1PickInt (a_c : l1Cur) (a_list : List Int) : Option (Int × l1Cur) :=
 (s_l1Below a_c (a_list.length : Int)).bind fun r1 =>
 (ix a_list r1.1).bind fun x4 =>
 some (x4, ({ b := a_c.b, i := r1.2.i, h := r1.2.h } : l1Cur))
theorem s_l1PickInt_ok (kq0 : Nat) (a_c : l1Cur) (v0_0 : Sv) (a_list : List Int) (v1_0 : Sv) (R : Int × l1Cur) (hF : s_l1PickInt a_c a_list = some R) :
   Fw.Spec Tryz.prog 90 [(pz kq0), v1_0.v] [cbox kq0 112 (.agg [v0_0.v, (.int .i64 a_c.i), (.int .i64 a_c.h)].toArray), crd (RdS 5 rdU8) v0_0.v a_c.b, crd (RdS 3 rdInt) v1_0.v a_list] (fun _ : Unit => (.int .i64 R.1)) (fun _ => [cbox kq0 112 (.agg [v0_0.v, (.int .i64 R.2.i), (.int .i64 R.2.h)].toArray)]) := by
 refine Se 12 Tryz.func90 [.tmp 4] ?_
 intro H0 F0
 unfold s_l1PickInt at hF
 iterate 8 refine au ?_
 refine bnd hF fun r1 hx2 hF => Cx1 (s_l1Below_ok _ _ _ _ _ hx2) (fun p3 => ?_)
 refine bnd hF fun x4 hx5 hF => ?_
 obtain ⟨hp6, hx7⟩ := ix_some hx5
 refine Ai hx7 (fun k8 j9 => ?_)
 refine Al ls3_0 ?_
 iterate 3 refine au ?_
 cases hF
 exact Er ()
def s_l5Method_L1 (a_c : l1Cur) (a_s : List Int) (r2 : Int × l1Cur) (r6 : Int × l1Cur) (r9 : Int × l1Cur) (r12 : Int × l1Cur) : Nat → Int → Int → (List Int) → Int → Option (Method × l1Cur)
 | 0, _, _, _, _ => none
 | m52 + 1, c46, c47, c48, c51 => (ix a_s r2.1).bind fun x60 =>
   if (decide ((c51 : Int) < x60)) then (
     ((s_l1Once ({ b := a_c.b, i := c46, h := c47 } : l1Cur) 3).bind fun r68 =>
       if r68.1 then (
         (app c48 ([c51] : List Int)).bind fun z72 =>
         some (r68.2.i, r68.2.h, z72))
       else (
         some (r68.2.i, r68.2.h, c48))).bind fun o66 =>
     match o66 with
     | (c76, c77, c78) => s_l5Method_L1 a_c a_s r2 r6 r9 r12 m52 c76 c77 c78 (IntKind.i64.wrap (c51 + 1)))
   else (
     some (({ Rel := r2.1, Inputs := c48, Limit := r6.1, Cost := r9.1, Quota := (IntKind.i64.wrap (1 + r12.1)) } : Method), ({ b := a_c.b, i := c46, h := c47 } : l1Cur)))
def s_l5Method (fuel : Nat) (a_c : l1Cur) (a_s : List Int) : Option (Method × l1Cur) :=
 (s_l1Below a_c (a_s.length : Int)).bind fun r2 =>
 (s_l1PickInt ({ b := a_c.b, i := r2.2.i, h := r2.2.h } : l1Cur) ([0, 0, 0, 1, 2] : List Int)).bind fun r6 =>
 (s_l1Below ({ b := a_c.b, i := r6.2.i, h := r6.2.h } : l1Cur) 5).bind fun r9 =>
 (s_l1Below ({ b := a_c.b, i := r9.2.i, h := r9.2.h } : l1Cur) 6).bind fun r12 =>
 s_l5Method_L1 a_c a_s r2 r6 r9 r12 fuel r12.2.i r12.2.h ([] : List Int) 0
theorem s_l5Method_ok (fuel : Nat) (kq0 : Nat) (a_c : l1Cur) (v0_0 : Sv) (a_s : List Int) (v1_0 : Sv) (R : Method × l1Cur) (hF : s_l5Method fuel a_c a_s = some R) :
   Fw.Spec Tryz.prog 156 [(.pointer (some ⟨kq0, 0, some 0⟩)), v1_0.v] [cbox kq0 112 (.agg [v0_0.v, (.int .i64 a_c.i), (.int .i64 a_c.h)].toArray), crd (RdS 5 rdU8) v0_0.v a_c.b, crd (RdS 3 rdInt) v1_0.v a_s] (fun p : Sv × List Nat => (.agg [(.int .i64 R.1.Rel), p.1.v, (.int .i64 R.1.Limit), (.int .i64 R.1.Cost), (.int .i64 R.1.Quota)].toArray)) (fun p => [cown (OwnS 3 (roE rdInt)) p.2 p.1.v R.1.Inputs, cbox kq0 112 (.agg [v0_0.v, (.int .i64 R.2.i), (.int .i64 R.2.h)].toArray)]) := by
 refine Spec_enter (n := 38) Tryz.func156 rfl rfl (rs := [.cell 4 73]) rfl rfl rfl ?_
 intro H0 F0
 unfold s_l5Method at hF
 refine K_region (C_new rfl (N_allocT (g := true) ty73.h rfl rfl) (fun k1 => ?_))
 refine C_nil (K_region (Cm (.pointer (some ⟨kq0, 0, some 0⟩)) rfl rfl ?_))
 refine Cm v1_0.v rfl rfl ?_
 refine C_at (.t (.t (.t .h))) (fun hp => V_lenR (l := a_s.length) sl24.h (.tmp rfl rfl) (crd_len hp)) ?_
 obtain ⟨r2, hx3, hF⟩ := bind_some hF
 refine C_x1 (.cons (.t .h) (.rd (.t .h) rfl .nil)) (X_callS cf89.h (.cons (.tmp rfl rfl) (.cons (.tmp rfl rfl) .nil)) (s_l1Below_ok kq0 a_c v0_0 (a_s.length : Int) _ hx3)) (fun p4 => ?_)
 refine Cm (.pointer (some ⟨kq0, 0, some 0⟩)) rfl rfl ?_
 refine C_new rfl (N_buildSliceT (g := true) sl24.h ty3.h (.cons (.int _ _) (.cons (.int _ _) (.cons (.int _ _) (.cons (.int _ _) (.cons (.int _ _) .nil))))) (vs := [(.int .i64 0), (.int .i64 0), (.int .i64 0), (.int .i64 1), (.int .i64 2)]) rfl rfl rfl (by intro v hv; simp at hv; rcases hv with rfl | rfl | rfl | rfl | rfl <;> rfl)) (fun k5 => ?_)
 refine C_conv (.cons .h .nil) (own_lit (Ro := (roE rdInt)) (E := 3) (F := ([] ++ ([] ++ ([] ++ ([] ++ ([] ++ [])))))) (xs := ([0, 0, 0, 1, 2] : List Int)) (MkL_cons (Mk_pure (fun _ => rfl)) (MkL_cons (Mk_pure (fun _ => rfl)) (MkL_cons (Mk_pure (fun _ => rfl)) (MkL_cons (Mk_pure (fun _ => rfl)) (MkL_cons (Mk_pure (fun _ => rfl)) MkL_nil apps) apps) apps) apps) apps) rfl rfl) apps ?_
 obtain ⟨r6, hx7, hF⟩ := bind_some hF
 refine C_x2 (.cons .h (.cons .h (.rd (.t .h) rfl .nil))) (XC_bor frz_own (fun _ => (.cons .nil)) (XC_pre (.cons (.t .h) (.rd (.t .h) rfl (.rd .h rfl .nil))) (X_callS cf90.h (.cons (.tmp rfl rfl) (.cons (.tmp rfl rfl) .nil)) (s_l1PickInt_ok kq0 ({ b := a_c.b, i := r2.2.i, h := r2.2.h } : l1Cur) v0_0 ([0, 0, 0, 1, 2] : List Int) (⟨(some ⟨k5, 0, none⟩), 5, 1⟩) _ hx7)))) (fun p8 => ?_)
 refine Cm (.pointer (some ⟨kq0, 0, some 0⟩)) rfl rfl ?_
 obtain ⟨r9, hx10, hF⟩ := bind_some hF
 refine C_x1 (.cons (.t .h) (.rd (.t (.t .h)) rfl .nil)) (X_callS cf89.h (.cons (.tmp rfl rfl) (.cons (.int _ _) .nil)) (s_l1Below_ok kq0 ({ b := a_c.b, i := r6.2.i, h := r6.2.h } : l1Cur) v0_0 5 _ hx10)) (fun p11 => ?_)
 refine Cm (.pointer (some ⟨kq0, 0, some 0⟩)) rfl rfl ?_
 obtain ⟨r12, hx13, hF⟩ := bind_some hF
 refine C_x1 (.cons .h (.rd (.t (.t .h)) rfl .nil)) (X_callS cf89.h (.cons (.tmp rfl rfl) (.cons (.int _ _) .nil)) (s_l1Below_ok kq0 ({ b := a_c.b, i := r9.2.i, h := r9.2.h } : l1Cur) v0_0 6 _ hx13)) (fun p14 => ?_)
 refine C_val (V_add (i := 1) (j := r12.1) (.int _ _) (.tmp rfl rfl)) ?_
 refine C_val (V_build ty73.h rfl (vs := [(.int .i64 r2.1), (.int .i64 r6.1), (.int .i64 r9.1), (.int .i64 (IntKind.i64.wrap (1 + r12.1)))]) (.cons (.tmp rfl rfl) (.cons (.tmp rfl rfl) (.cons (.tmp rfl rfl) (.cons (.tmp rfl rfl) .nil)))) (cells := [(.int .i64 r2.1), (.slice none 0 0), (.int .i64 r6.1), (.int .i64 r9.1), (.int .i64 (IntKind.i64.wrap (1 + r12.1)))]) rfl) ?_
 refine C_new rfl (N_allocT (g := true) ty73.h rfl rfl) (fun k15 => ?_)
 refine C_x1 (.cons .h .nil) (X_storeB (e' := (.agg [(.int .i64 r2.1), (.slice none 0 0), (.int .i64 r6.1), (.int .i64 r9.1), (.int .i64 (IntKind.i64.wrap (1 + r12.1)))].toArray)) (v := (.agg [(.int .i64 r2.1), (.slice none 0 0), (.int .i64 r6.1), (.int .i64 r9.1), (.int .i64 (IntKind.i64.wrap (1 + r12.1)))].toArray)) ty73.h.sz (.tmp rfl rfl) (.tmp rfl rfl) rfl rfl rfl rfl rfl) (fun _ => ?_)
 refine C_nil (K_in (K_region (C_val (V_assign (v := (.int .i64 0)) (.int _ _)) ?_)))
 refine C_nil (CW_block (CW_loop (m := fuel) (fun m52 f' cs' => ∃ (g : Fr) (c46 : Int) (c47 : Int) (c48 : List Int) (c51 : Int) (v49 : Sv) (F50 : List Nat), f' = updL g [(0, (.pointer (some ⟨kq0, 0, some 0⟩))), (1, v1_0.v), (4, (.pointer (some ⟨k1, 0, some 0⟩))), (5, (.pointer (some ⟨k15, 0, some 0⟩))), (6, (.int .i64 c51))] ∧ Ent cs' [cbox kq0 112 (.agg [v0_0.v, (.int .i64 c46), (.int .i64 c47)].toArray), crd (RdS 5 rdU8) v0_0.v a_c.b, crd (RdS 3 rdInt) v1_0.v a_s, cbox k1 73 (.agg [(.int .i64 0), (.slice none 0 0), (.int .i64 0), (.int .i64 0), (.int .i64 0)].toArray), cbox k15 73 (.agg [(.int .i64 r2.1), v49.v, (.int .i64 r6.1), (.int .i64 r9.1), (.int .i64 (IntKind.i64.wrap (1 + r12.1)))].toArray), cown (OwnS 3 (roE rdInt)) F50 v49.v c48] ∧ s_l5Method_L1 a_c a_s r2 r6 r9 r12 m52 c46 c47 c48 c51 = some R) ⟨_, _, _, _, _, ⟨none, 0, 0⟩, [], (EqL.cons rfl (EqL.cons rfl (EqL.cons rfl (EqL.cons rfl (EqL.cons rfl (EqL.nil)))))).eq, (.conv .nil (own_nil (Ro := (roE rdInt)) (E := 3)) (.cons .nil) (.sel (.cons (.t (.t .h)) (.rd (.t (.t (.t (.t .h)))) rfl (.rd (.t (.t (.t (.t (.t .h))))) rfl (.cons (.t (.t (.t .h))) (.cons (.t .h) (.cons .h .nil)))))))), hF⟩ ?_))
 clear hF
 rintro m52 _ _ ⟨g53, c46, c47, c48, c51, v49, F50, rfl, hE, hF⟩
 refine K_ent hE ?_
 clear hE
 rcases m52 with _ | m52
 · rw [s_l5Method_L1] at hF
   exact absurd hF (by simp)
 rw [s_l5Method_L1] at hF
 refine K_in (K_region (Cm (.int .i64 c51) rfl rfl ?_))
 refine Cm v1_0.v rfl rfl ?_
 refine C_val (V_fieldAddr (off := 0) fd73_0.h (.tmp rfl rfl)) ?_
 refine C_at (.t (.t (.t (.t .h)))) (fun hp => V_load (v := (.int .i64 r2.1)) ag3.h (.tmp rfl rfl) hp.2 rfl rfl) ?_
 obtain ⟨x60, hx61, hF⟩ := bind_some hF
 obtain ⟨hp62, hx63⟩ := ix_some hx61
 refine C_idx (a := x60) sl24.h ty3.h.sz (.tmp rfl rfl) (.tmp rfl rfl) (.t (.t .h)) hp62 hx63 (fun k64 j65 => ?_)
 refine C_ldS (w := (.int .i64 x60)) ag3.h (.tmp rfl rfl) .h ls3_0 ?_
 refine C_val (V_lss (i := c51) (j := x60) (.tmp rfl rfl) (.tmp rfl rfl)) ?_
 refine C_nil (CW_cond (b := (decide ((c51 : Int) < x60))) (.tmp rfl rfl) (fun hb82 => ?_) (fun hb82 => ?_))
 · rw [if_pos hb82] at hF
   refine CW_skip ?_
   obtain ⟨o66, hio66, hO67⟩ := bind_some hF
   refine K_cut (fun f' cs' => ∃ (c76 : Int) (c77 : Int) (c78 : List Int) (v79 : Sv) (F80 : List Nat) (g : Fr), o66 = (c76, c77, c78) ∧ f' = updL g [(0, (.pointer (some ⟨kq0, 0, some 0⟩))), (1, v1_0.v), (4, (.pointer (some ⟨k1, 0, some 0⟩))), (5, (.pointer (some ⟨k15, 0, some 0⟩))), (6, (.int .i64 c51))] ∧ Ent cs' [cbox kq0 112 (.agg [v0_0.v, (.int .i64 c76), (.int .i64 c77)].toArray), crd (RdS 5 rdU8) v0_0.v a_c.b, crd (RdS 3 rdInt) v1_0.v a_s, cbox k1 73 (.agg [(.int .i64 0), (.slice none 0 0), (.int .i64 0), (.int .i64 0), (.int .i64 0)].toArray), cbox k15 73 (.agg [(.int .i64 r2.1), v79.v, (.int .i64 r6.1), (.int .i64 r9.1), (.int .i64 (IntKind.i64.wrap (1 + r12.1)))].toArray), cown (OwnS 3 (roE rdInt)) F80 v79.v c78]) ?_ ?_
   · replace hF := hio66
     refine CW_block (K_region (Cm (.pointer (some ⟨kq0, 0, some 0⟩)) rfl rfl ?_))
     obtain ⟨r68, hx69, hF⟩ := bind_some hF
     refine C_x1 (.cons (.t .h) (.rd (.t .h) rfl .nil)) (X_callS cf187.h (.cons (.tmp rfl rfl) (.cons (.int _ _) .nil)) (s_l1Once_ok kq0 ({ b := a_c.b, i := c46, h := c47 } : l1Cur) v0_0 3 _ hx69)) (fun p70 => ?_)
     refine C_nil (CW_cond (b := r68.1) (.tmp rfl rfl) (fun hb75 => ?_) (fun hb75 => ?_))
     · rw [if_pos hb75] at hF
       refine CW_region (C_val (V_fieldAddr (off := 1) fd73_1.h (.tmp rfl rfl)) ?_)
       refine C_at (.t (.t (.t (.t (.t .h))))) (fun hp => V_load (v := v49.v) ag24.h (.tmp rfl rfl) hp.2 rfl rfl) ?_
       refine Cm (.int .i64 c51) rfl rfl ?_
       refine C_new rfl (N_buildSliceT (g := true) sl24.h ty3.h (.cons (.tmp rfl rfl) .nil) (vs := [(.int .i64 c51)]) rfl rfl rfl (by intro v hv; simp at hv; rcases hv with rfl <;> rfl)) (fun k71 => ?_)
       refine C_conv (.cons .h .nil) (own_lit (Ro := (roE rdInt)) (E := 3) (F := ([] ++ [])) (xs := ([c51] : List Int)) (MkL_cons (Mk_pure (fun _ => rfl)) MkL_nil apps) rfl rfl) apps ?_
       obtain ⟨z72, hx73, hF⟩ := bind_some hF
       refine C_x1 (.cons (.t (.t (.t (.t (.t (.t (.t .h))))))) (.cons .h .nil)) (X_appendO (Ro := (roE rdInt)) sl24.h ni24 ty3.h rfl rfl rfl (.tmp rfl rfl) (.tmp rfl rfl) hx73 src_own) (fun p74 => ?_)
       refine C_val (V_fieldAddr (off := 1) fd73_1.h (.tmp rfl rfl)) ?_
       refine C_x1 (.cons (.t (.t (.t (.t (.t (.t .h)))))) .nil) (X_storeB (e' := (.agg [(.int .i64 r2.1), p74.1.v, (.int .i64 r6.1), (.int .i64 r9.1), (.int .i64 (IntKind.i64.wrap (1 + r12.1)))].toArray)) ty24.h.sz (.tmp rfl rfl) (.tmp rfl rfl) rfl rfl rfl rfl rfl) (fun _ => ?_)
       refine C_nil ?_
       obtain rfl := Option.some.inj hF
       exact ⟨_, _, _, p74.1, p74.2, _, rfl, (EqL.cons rfl (EqL.cons rfl (EqL.cons rfl (EqL.cons rfl (EqL.cons rfl (EqL.nil)))))).eq, (.sel (.cons (.t (.t .h)) (.rd (.t (.t (.t .h))) rfl (.rd (.t (.t (.t (.t .h)))) rfl (.cons (.t (.t (.t (.t (.t .h))))) (.cons .h (.cons .h .nil)))))))⟩
     rw [if_neg (by rw [hb75]; exact Bool.false_ne_true)] at hF
     refine CW_skip ?_
     obtain rfl := Option.some.inj hF
     exact ⟨_, _, _, v49, F50, _, rfl, (EqL.cons rfl (EqL.cons rfl (EqL.cons rfl (EqL.cons rfl (EqL.cons rfl (EqL.nil)))))).eq, (.sel (.cons .h (.rd (.t .h) rfl (.rd (.t (.t .h)) rfl (.cons (.t (.t (.t .h))) (.cons (.t (.t (.t .h))) (.cons (.t (.t (.t .h))) .nil)))))))⟩
   rintro _ _ ⟨c76, c77, c78, v79, F80, g81, rfl, rfl, hE⟩
   replace hF := hO67
   clear hO67
   try dsimp only at hF
   refine K_ent hE ?_
   refine CW_region (Cm (.int .i64 c51) rfl rfl ?_)
   refine C_val (V_add (i := c51) (j := 1) (.tmp rfl rfl) (.int _ _)) ?_
   refine Ca (.int .i64 (IntKind.i64.wrap (c51 + 1))) rfl rfl ?_
   refine C_nil ?_
   exact ⟨m52, Nat.lt_succ_self _, _, _, _, _, _, v79, F80, (EqL.cons rfl (EqL.cons rfl (EqL.cons rfl (EqL.cons rfl (EqL.cons rfl (EqL.nil)))))).eq, (.sel (.cons .h (.rd .h rfl (.rd (.t .h) rfl (.cons (.t (.t .h)) (.cons (.t (.t .h)) (.cons (.t (.t .h)) .nil))))))), hF⟩
 rw [if_neg (by rw [hb82]; exact Bool.false_ne_true)] at hF
 refine CW_exit ?_
 iterate 2 refine CThen_exit ?_
 refine CIn_self (K_region (C_at (.t (.t (.t (.t (.t .h))))) (fun hp => V_loadBox ag73.h ty73.h.sz rfl (.tmp rfl rfl) hp.2 rfl) ?_))
 refine C_x1 (.cons (.t (.t (.t (.t .h)))) .nil) (X_storeB (e' := (.agg [(.int .i64 r2.1), v49.v, (.int .i64 r6.1), (.int .i64 r9.1), (.int .i64 (IntKind.i64.wrap (1 + r12.1)))].toArray)) (v := (.agg [(.int .i64 r2.1), v49.v, (.int .i64 r6.1), (.int .i64 r9.1), (.int .i64 (IntKind.i64.wrap (1 + r12.1)))].toArray)) ty73.h.sz (.tmp rfl rfl) (.tmp rfl rfl) rfl rfl rfl rfl rfl) (fun _ => ?_)
 refine C_nil (CW_ret ?_)
 obtain rfl := Option.some.inj hF
 exact End_ret (v49, F50) (.cellA rfl rfl .h rfl ag73.h ty73.h.sz rfl rfl .nil) rfl (.sel (.cons (.t (.t (.t (.t (.t (.t .h)))))) (.cons (.t (.t .h)) .nil)))
def s_l5Methods_L1 (a_c : l1Cur) (a_s : List Int) (fuel : Nat) : Nat → Int → Int → (List Method) → Int → Option ((List Method) × l1Cur)
 | 0, _, _, _, _ => none
 | m31 + 1, c25, c26, c27, c30 => if (decide ((0 : Int) < c30)) then (
     (s_l5Method fuel ({ b := a_c.b, i := c25, h := c26 } : l1Cur) a_s).bind fun r39 =>
     (app c27 ([r39.1] : List Method)).bind fun z44 =>
     s_l5Methods_L1 a_c a_s fuel m31 r39.2.i r39.2.h z44 (IntKind.i64.wrap (c30 - 1)))
   else (
     some (c27, ({ b := a_c.b, i := c25, h := c26 } : l1Cur)))
def s_l5Methods (fuel : Nat) (a_c : l1Cur) (a_s : List Int) : Option ((List Method) × l1Cur) :=
 (s_l1Below a_c 4).bind fun r2 =>
 s_l5Methods_L1 a_c a_s fuel (((IntKind.i64.wrap (1 + r2.1)) - 0).toNat + 2) r2.2.i r2.2.h ([] : List Method) (IntKind.i64.wrap (1 + r2.1))
theorem s_l5Methods_ok (fuel : Nat) (kq0 : Nat) (a_c : l1Cur) (v0_0 : Sv) (a_s : List Int) (v1_0 : Sv) (R : (List Method) × l1Cur) (hF : s_l5Methods fuel a_c a_s = some R) :
   Fw.Spec Tryz.prog 231 [(pz kq0), v1_0.v] [cbox kq0 112 (.agg [v0_0.v, (.int .i64 a_c.i), (.int .i64 a_c.h)].toArray), crd (RdS 5 rdU8) v0_0.v a_c.b, crd (RdS 3 rdInt) v1_0.v a_s] (fun p : Sv × List Nat => p.1.v) (fun p => [cown (OwnS 73 ow73) p.2 p.1.v R.1, cbox kq0 112 (.agg [v0_0.v, (.int .i64 R.2.i), (.int .i64 R.2.h)].toArray)]) := by
 refine Se 24 Tryz.func231 [.tmp 4] ?_
 intro H0 F0
 unfold s_l5Methods at hF
 iterate 4 refine au ?_
 refine C_new rfl (N_buildSliceT (g := true) sl25.h ty73.h .nil (vs := []) rfl rfl rfl (by simp)) (fun k1 => ?_)
 refine Cv1 (.cons .h .nil) (own_lit (Ro := ow73) (E := 73) (F := []) (xs := ([] : List Method)) MkL_nil rfl rfl) ?_
 iterate 5 refine au ?_
 refine bnd hF fun r2 hx3 hF => Cx1 (s_l1Below_ok _ _ _ _ _ hx3) (fun p4 => ?_)
 iterate 3 refine au ?_
 refine CW_block (CW_loop (m := (((IntKind.i64.wrap (1 + r2.1)) - 0).toNat + 2)) (fun m31 f' cs' => ∃ (g : Fr) (c25 : Int) (c26 : Int) (c27 : List Method) (c30 : Int) (v28 : Sv) (F29 : List Nat), f' = updL g [(0, (pz kq0)), (1, v1_0.v), (5, v28.v), (6, (.int .i64 c30))] ∧ Ent cs' [cbox kq0 112 (.agg [v0_0.v, (.int .i64 c25), (.int .i64 c26)].toArray), crd (RdS 5 rdU8) v0_0.v a_c.b, crd (RdS 3 rdInt) v1_0.v a_s, cown (OwnS 73 ow73) F29 v28.v c27] ∧ s_l5Methods_L1 a_c a_s fuel m31 c25 c26 c27 c30 = some R) ⟨_, _, _, _, _, ⟨(some ⟨k1, 0, none⟩), 0, 1⟩, (k1 :: []), eqA, entA, hF⟩ ?_)
 rintro m31 _ _ ⟨g32, c25, c26, c27, c30, v28, F29, rfl, hE, hF⟩
 refine K_ent hE ?_
 rcases m31 with _ | m31
 · rw [s_l5Methods_L1] at hF
   exact absurd hF (by simp)
 rw [s_l5Methods_L1] at hF
 iterate 5 refine au ?_
 refine Ci hF (fun hb47 hF => ?_) (fun hb47 hF => ?_)
 · iterate 5 refine au ?_
   refine bnd hF fun r39 hx40 hF => Cx2 (s_l5Method_ok _ _ _ _ _ _ _ hx40) (fun p41 => ?_)
   refine AnW (fun k42 => ?_)
   refine As (.agg [(.int .i64 r39.1.Rel), p41.1.v, (.int .i64 r39.1.Limit), (.int .i64 r39.1.Cost), (.int .i64 r39.1.Quota)].toArray) ?_
   iterate 4 refine au ?_
   refine C_new rfl (N_buildSliceT (g := true) sl25.h ty73.h (.cons (.tmp rfl rfl) .nil) (vs := [(.agg [(.int .i64 r39.1.Rel), p41.1.v, (.int .i64 r39.1.Limit), (.int .i64 r39.1.Cost), (.int .i64 r39.1.Quota)].toArray)]) rfl rfl rfl (by intro v hv; simp at hv; rcases hv with rfl <;> rfl)) (fun k43 => ?_)
   refine Cv1 (.cons .h (.cons (.t .h) .nil)) (own_lit (Ro := ow73) (E := 73) (F := (p41.2 ++ [])) (xs := ([r39.1] : List Method)) (MkL_cons mk73 MkL_nil apps) rfl rfl) ?_
   refine bnd hF fun z44 hx45 hF => C_x1 (.cons (.t (.t (.t (.t (.t .h))))) (.cons .h .nil)) (X_appendO (Ro := ow73) sl25.h ni25 ty73.h rfl rfl rfl (.tmp rfl rfl) (.tmp rfl rfl) hx45 src_own) (fun p46 => ?_)
   iterate 7 refine au ?_
   exact ⟨m31, Nat.lt_succ_self _, _, _, _, _, _, p46.1, p46.2, eqA, entA, hF⟩
 iterate 9 refine au ?_
 cases hF
 exact Er (v28, F29)
def s_l1In (a_x : Int) (a_low : Int) (a_high : Int) : Option (Bool) :=
 some ((decide ((a_low : Int) ≤ a_x)) && (decide ((a_x : Int) ≤ a_high)))
theorem s_l1In_ok (a_x : Int) (a_low : Int) (a_high : Int) (R : Bool) (hF : s_l1In a_x a_low a_high = some R) :
   Fw.Spec Tryz.prog 79 [(.int .i64 a_x), (.int .i64 a_low), (.int .i64 a_high)] [] (fun _ : Unit => (.bool R)) (fun _ => []) := by
 refine Se 15 Tryz.func79 [.tmp 6] ?_
 intro H0 F0
 unfold s_l1In at hF
 iterate 4 refine au ?_
 refine C_cut (fun f' cs' => ∃ (g : Fr), f' = updL g [(6, (.bool ((decide ((a_low : Int) ≤ a_x)) && (decide ((a_x : Int) ≤ a_high)))))] ∧ Ent cs' []) ?_ ?_
 · iterate 4 refine au ?_
   rcases Bool.eq_false_or_eq_true (decide ((a_low : Int) ≤ a_x)) with hg1 | hg1
   · rw [hg1]
     try rw [hg1] at hF; dsimp only [cond_true, cond_false] at hF
     iterate 9 refine au ?_
     exact ⟨_, eqA, entA⟩
   rw [hg1]
   try rw [hg1] at hF; dsimp only [cond_true, cond_false] at hF
   iterate 6 refine au ?_
   exact ⟨_, eqA, entA⟩
 rintro _ _ ⟨g2, rfl, hE⟩
 refine K_ent hE ?_
 refine au ?_
 cases hF
 exact Er ()
def s_IsVar (a_t : Int) : Option (Bool) :=
 (s_l1In a_t 10 17).bind fun r1 =>
 some r1
theorem s_IsVar_ok (a_t : Int) (R : Bool) (hF : s_IsVar a_t = some R) :
   Fw.Spec Tryz.prog 142 [(.int .i64 a_t)] [] (fun _ : Unit => (.bool R)) (fun _ => []) := by
 refine Se 5 Tryz.func142 [.tmp 2] ?_
 intro H0 F0
 unfold s_IsVar at hF
 iterate 5 refine au ?_
 refine bnd hF fun r1 hx2 hF => Cx0 (s_l1In_ok _ _ _ _ hx2) (fun _ => ?_)
 iterate 3 refine au ?_
 cases hF
 exact Er ()
def s_l2Has_L1 (a_x : Int) : List Int → Nat → Option (Bool)
 | [], k4 => some false
 | x6 :: rest5, k4 => if ((x6 : Int) == a_x) then (
     some true)
   else (
     s_l2Has_L1 a_x rest5 (k4 + 1))
def s_l2Has (a_l : List Int) (a_x : Int) : Option (Bool) :=
 s_l2Has_L1 a_x a_l 0
theorem s_l2Has_ok (a_l : List Int) (v0_0 : Sv) (a_x : Int) (R : Bool) (hF : s_l2Has a_l a_x = some R) :
   Fw.Spec Tryz.prog 78 [v0_0.v, (.int .i64 a_x)] [crd (RdS 3 rdInt) v0_0.v a_l] (fun _ : Unit => (.bool R)) (fun _ => []) := by
 refine Se 18 Tryz.func78 [.tmp 4] ?_
 intro H0 F0
 unfold s_l2Has at hF
 iterate 7 refine au ?_
 refine CW_block (CW_loop (m := a_l.length) (fun m2 f' cs' => ∃ (g : Fr) (k4 : Nat) (rest5 : List Int), m2 = rest5.length ∧ f' = updL g [(0, v0_0.v), (1, (.int .i64 a_x)), (5, (.int .i64 (k4 : Int)))] ∧ List.drop k4 a_l = rest5 ∧ Ent cs' [crd (RdS 3 rdInt) v0_0.v a_l] ∧ s_l2Has_L1 a_x rest5 k4 = some R) ⟨_, 0, _, rfl, eqA, rfl, entA, hF⟩ ?_)
 rintro m2 _ _ ⟨g3, k4, rest5, rfl, rfl, hd7, hE, hF⟩
 refine Kb hE a_l (fun hbd12 => ?_)
 rcases rest5 with _ | ⟨x6, rest5⟩
 · have hk8 := dn hd7
   rw [s_l2Has_L1] at hF
   iterate 7 refine au ?_
   refine CdF ?_
   iterate 8 refine au ?_
   cases hF
   exact Er ()
 obtain ⟨hk8, hx9, hd10⟩ := drop_cons hd7
 rw [s_l2Has_L1] at hF
 iterate 7 refine au ?_
 refine CdT ?_
 iterate 5 refine au ?_
 refine Ai hx9 (fun k13 j14 => ?_)
 refine Al ls3_0 ?_
 iterate 3 refine au ?_
 refine Ci hF (fun hb16 hF => ?_) (fun hb16 hF => ?_)
 · iterate 4 refine au ?_
   cases hF
   exact Er ()
 iterate 6 refine au ?_
 rw [wk k4]
 exact ⟨_, Nat.lt_succ_self _, _, k4 + 1, rest5, rfl, eqA, hd10, entA, hF⟩
def s_l3Put_L1 (a_l : List Int) (a_x : Int) : Nat → (List Int) → Bool → Int → Option ((List Int))
 | 0, _, _, _ => none
 | m10 + 1, c5, c8, c9 => if (decide ((c9 : Int) < (a_l.length : Int))) then (
     ((bif (!c8) then ((ix a_l c9).bind fun x26 =>
           some (decide ((a_x : Int) < x26)))
         else (some false)).bind fun o20 =>
       match o20 with
       | c30 => if c30 then (
           (app c5 ([a_x] : List Int)).bind fun z32 =>
           (ix a_l c9).bind fun x38 =>
           (app z32 ([x38] : List Int)).bind fun z43 =>
           some (z43, true))
         else (
           (ix a_l c9).bind fun x49 =>
           (app c5 ([x49] : List Int)).bind fun z54 =>
           some (z54, c8))).bind fun o18 =>
     match o18 with
     | (c59, c62) => s_l3Put_L1 a_l a_x m10 c59 c62 (IntKind.i64.wrap (c9 + 1)))
   else (
     if (!c8) then (
       (app c5 ([a_x] : List Int)).bind fun z65 =>
       some z65)
     else (
       some c5))
def s_l3Put (a_l : List Int) (a_x : Int) : Option ((List Int)) :=
 (s_l2Has a_l a_x).bind fun r1 =>
 if r1 then (
   some a_l)
 else (
   s_l3Put_L1 a_l a_x (((a_l.length : Int) - 0).toNat + 2) ([] : List Int) false 0)
theorem s_l3Put_ok (a_l : List Int) (v0_0 : Sv) (F0_0 : List Nat) (a_x : Int) (R : (List Int)) (hF : s_l3Put a_l a_x = some R) :
   Fw.Spec Tryz.prog 85 [v0_0.v, (.int .i64 a_x)] [cown (OwnS 3 (roE rdInt)) F0_0 v0_0.v a_l] (fun p : Sv × List Nat => p.1.v) (fun p => [cown (OwnS 3 (roE rdInt)) p.2 p.1.v R]) := by
 refine Se 47 Tryz.func85 [.tmp 4] ?_
 intro H0 F0
 unfold s_l3Put at hF
 iterate 7 refine au ?_
 refine bnd hF fun r1 hx2 hF => C_x1 (.cons .h .nil) (XC_bor frz_own (fun _ => .nil) (X_callS cf78.h (.cons (.tmp rfl rfl) (.cons (.tmp rfl rfl) .nil)) (s_l2Has_ok a_l v0_0 a_x _ hx2))) (fun _ => ?_)
 refine au ?_
 refine Ci hF (fun hb70 hF => ?_) (fun hb70 hF => ?_)
 · iterate 5 refine au ?_
   cases hF
   exact Er (v0_0, F0_0)
 iterate 2 refine au ?_
 refine C_new rfl (N_buildSliceT (g := true) sl24.h ty3.h .nil (vs := []) rfl rfl rfl (by simp)) (fun k4 => ?_)
 refine Cv1 (.cons .h .nil) (own_lit (Ro := (roE rdInt)) (E := 3) (F := []) (xs := ([] : List Int)) MkL_nil rfl rfl) ?_
 iterate 9 refine au ?_
 refine CW_block (CW_loop (m := (((a_l.length : Int) - 0).toNat + 2)) (fun m10 f' cs' => ∃ (g : Fr) (c5 : List Int) (c8 : Bool) (c9 : Int) (v6 : Sv) (F7 : List Nat), f' = updL g [(0, v0_0.v), (1, (.int .i64 a_x)), (5, v6.v), (6, (.bool c8)), (7, (.int .i64 c9))] ∧ Ent cs' [cown (OwnS 3 (roE rdInt)) F0_0 v0_0.v a_l, cown (OwnS 3 (roE rdInt)) F7 v6.v c5] ∧ s_l3Put_L1 a_l a_x m10 c5 c8 c9 = some R) ⟨_, _, _, _, ⟨(some ⟨k4, 0, none⟩), 0, 1⟩, (k4 :: []), eqA, entA, hF⟩ ?_)
 rintro m10 _ _ ⟨g11, c5, c8, c9, v6, F7, rfl, hE, hF⟩
 refine K_ent hE ?_
 rcases m10 with _ | m10
 · rw [s_l3Put_L1] at hF
   exact absurd hF (by simp)
 rw [s_l3Put_L1] at hF
 iterate 7 refine au ?_
 refine Ci hF (fun hb69 hF => ?_) (fun hb69 hF => ?_)
 · refine au ?_
   obtain ⟨o18, hio18, hO19⟩ := bind_some hF
   refine K_cut (fun f' cs' => ∃ (c59 : List Int) (c62 : Bool) (v60 : Sv) (F61 : List Nat) (g : Fr), o18 = (c59, c62) ∧ f' = updL g [(0, v0_0.v), (1, (.int .i64 a_x)), (5, v60.v), (6, (.bool c62)), (7, (.int .i64 c9))] ∧ Ent cs' [cown (OwnS 3 (roE rdInt)) F0_0 v0_0.v a_l, cown (OwnS 3 (roE rdInt)) F61 v60.v c59]) ?_ ?_
   · replace hF := hio18
     refine CW_block (K_in ?_)
     obtain ⟨o20, hio20, hO21⟩ := bind_some hF
     refine au ?_
     refine C_cut (fun f' cs' => ∃ (c30 : Bool) (g : Fr), c30 = o20 ∧ f' = updL g [(0, v0_0.v), (1, (.int .i64 a_x)), (5, v6.v), (6, (.bool c8)), (7, (.int .i64 c9)), (28, (.bool c30))] ∧ Ent cs' [cown (OwnS 3 (roE rdInt)) F0_0 v0_0.v a_l, cown (OwnS 3 (roE rdInt)) F7 v6.v c5]) ?_ ?_
     · replace hF := hio20
       iterate 3 refine au ?_
       rcases Bool.eq_false_or_eq_true (!c8) with hg22 | hg22
       · rw [hg22]
         try rw [hg22] at hF; dsimp only [cond_true, cond_false] at hF
         iterate 5 refine au ?_
         refine bnd hF fun x26 hx27 hF => ?_
         have hi25 := ix_chk hx27
         obtain ⟨hp28, hx29⟩ := ix_some hx27
         refine C_idxO sl24.h ty3.h.sz (.tmp rfl rfl) (.tmp rfl rfl) .h hi25 (fun k23 hk24 => ?_)
         refine au ?_
         refine C_ldO (w := (.int .i64 x26)) ag3.h (.tmp rfl rfl) .h hk24 hx29 lo3_0 ?_
         iterate 6 refine au ?_
         cases hF
         exact ⟨_, _, rfl, eqA, entA⟩
       rw [hg22]
       try rw [hg22] at hF; dsimp only [cond_true, cond_false] at hF
       iterate 8 refine au ?_
       cases hF
       exact ⟨_, _, rfl, eqA, entA⟩
     rintro _ _ ⟨c30, g58, rfl, rfl, hE⟩
     replace hF := hO21
     try dsimp only at hF
     refine K_ent hE ?_
     refine Ci hF (fun hb57 hF => ?_) (fun hb57 hF => ?_)
     · iterate 3 refine au ?_
       refine C_new rfl (N_buildSliceT (g := true) sl24.h ty3.h (.cons (.tmp rfl rfl) .nil) (vs := [(.int .i64 a_x)]) rfl rfl rfl (by intro v hv; simp at hv; rcases hv with rfl <;> rfl)) (fun k31 => ?_)
       refine Cv1 (.cons .h .nil) (own_lit (Ro := (roE rdInt)) (E := 3) (F := ([] ++ [])) (xs := ([a_x] : List Int)) (MkL_cons (Mk_pure (fun _ => rfl)) MkL_nil apps) rfl rfl) ?_
       refine bnd hF fun z32 hx33 hF => C_x1 (.cons (.t (.t .h)) (.cons .h .nil)) (X_appendO (Ro := (roE rdInt)) sl24.h ni24 ty3.h rfl rfl rfl (.tmp rfl rfl) (.tmp rfl rfl) hx33 src_own) (fun p34 => ?_)
       iterate 9 refine au ?_
       refine bnd hF fun x38 hx39 hF => ?_
       have hi37 := ix_chk hx39
       obtain ⟨hp40, hx41⟩ := ix_some hx39
       refine C_idxO sl24.h ty3.h.sz (.tmp rfl rfl) (.tmp rfl rfl) (.t .h) hi37 (fun k35 hk36 => ?_)
       refine C_ldO (w := (.int .i64 x38)) ag3.h (.tmp rfl rfl) (.t .h) hk36 hx41 lo3_0 ?_
       refine C_new rfl (N_buildSliceT (g := true) sl24.h ty3.h (.cons (.tmp rfl rfl) .nil) (vs := [(.int .i64 x38)]) rfl rfl rfl (by intro v hv; simp at hv; rcases hv with rfl <;> rfl)) (fun k42 => ?_)
       refine Cv1 (.cons .h .nil) (own_lit (Ro := (roE rdInt)) (E := 3) (F := ([] ++ [])) (xs := ([x38] : List Int)) (MkL_cons (Mk_pure (fun _ => rfl)) MkL_nil apps) rfl rfl) ?_
       refine bnd hF fun z43 hx44 hF => C_x1 (.cons (.t .h) (.cons .h .nil)) (X_appendO (Ro := (roE rdInt)) sl24.h ni24 ty3.h rfl rfl rfl (.tmp rfl rfl) (.tmp rfl rfl) hx44 src_own) (fun p45 => ?_)
       iterate 2 refine au ?_
       cases hF
       exact ⟨_, _, p45.1, p45.2, _, rfl, eqA, entA⟩
     iterate 5 refine au ?_
     refine bnd hF fun x49 hx50 hF => ?_
     have hi48 := ix_chk hx50
     obtain ⟨hp51, hx52⟩ := ix_some hx50
     refine C_idxO sl24.h ty3.h.sz (.tmp rfl rfl) (.tmp rfl rfl) .h hi48 (fun k46 hk47 => ?_)
     refine C_ldO (w := (.int .i64 x49)) ag3.h (.tmp rfl rfl) .h hk47 hx52 lo3_0 ?_
     refine C_new rfl (N_buildSliceT (g := true) sl24.h ty3.h (.cons (.tmp rfl rfl) .nil) (vs := [(.int .i64 x49)]) rfl rfl rfl (by intro v hv; simp at hv; rcases hv with rfl <;> rfl)) (fun k53 => ?_)
     refine Cv1 (.cons .h .nil) (own_lit (Ro := (roE rdInt)) (E := 3) (F := ([] ++ [])) (xs := ([x49] : List Int)) (MkL_cons (Mk_pure (fun _ => rfl)) MkL_nil apps) rfl rfl) ?_
     refine bnd hF fun z54 hx55 hF => C_x1 (.cons (.t (.t .h)) (.cons .h .nil)) (X_appendO (Ro := (roE rdInt)) sl24.h ni24 ty3.h rfl rfl rfl (.tmp rfl rfl) (.tmp rfl rfl) hx55 src_own) (fun p56 => ?_)
     iterate 2 refine au ?_
     cases hF
     exact ⟨_, _, p56.1, p56.2, _, rfl, eqA, entA⟩
   rintro _ _ ⟨c59, c62, v60, F61, g63, rfl, rfl, hE⟩
   replace hF := hO19
   try dsimp only at hF
   refine K_ent hE ?_
   iterate 5 refine au ?_
   exact ⟨m10, Nat.lt_succ_self _, _, _, _, _, v60, F61, eqA, entA, hF⟩
 iterate 9 refine au ?_
 refine Ci hF (fun hb68 hF => ?_) (fun hb68 hF => ?_)
 · iterate 3 refine au ?_
   refine C_new rfl (N_buildSliceT (g := true) sl24.h ty3.h (.cons (.tmp rfl rfl) .nil) (vs := [(.int .i64 a_x)]) rfl rfl rfl (by intro v hv; simp at hv; rcases hv with rfl <;> rfl)) (fun k64 => ?_)
   refine Cv1 (.cons .h .nil) (own_lit (Ro := (roE rdInt)) (E := 3) (F := ([] ++ [])) (xs := ([a_x] : List Int)) (MkL_cons (Mk_pure (fun _ => rfl)) MkL_nil apps) rfl rfl) ?_
   refine bnd hF fun z65 hx66 hF => C_x1 (.cons (.t (.t .h)) (.cons .h .nil)) (X_appendO (Ro := (roE rdInt)) sl24.h ni24 ty3.h rfl rfl rfl (.tmp rfl rfl) (.tmp rfl rfl) hx66 src_own) (fun p67 => ?_)
   iterate 7 refine au ?_
   cases hF
   exact Er (p67.1, p67.2)
 iterate 6 refine au ?_
 cases hF
 exact Er (v6, F7)
def s_VarsOf_L3 (x11 : Atom) : Nat → (List Int) → Int → Option ((List Int))
 | 0, _, _ => none
 | m24 + 1, c20, c23 => if (decide ((c23 : Int) < (x11.Terms.length : Int))) then (
     ((ix x11.Terms c23).bind fun x40 =>
       (s_IsVar x40).bind fun r46 =>
       if r46 then (
         (ix x11.Terms c23).bind fun x52 =>
         (s_l3Put c20 x52).bind fun r58 =>
         some r58)
       else (
         some c20)).bind fun o35 =>
     match o35 with
     | c62 => s_VarsOf_L3 x11 m24 c62 (IntKind.i64.wrap (c23 + 1)))
   else (
     some c20)
def s_VarsOf_L1 : List Atom → Nat → (List Int) → Option ((List Int))
 | [], k9, c3 => some c3
 | x11 :: rest10, k9, c3 => (s_VarsOf_L3 x11 (((x11.Terms.length : Int) - 0).toNat + 2) c3 0).bind fun o18 =>
   match o18 with
   | c67 => s_VarsOf_L1 rest10 (k9 + 1) c67
def s_VarsOf (a_q : Query) : Option ((List Int)) :=
 s_VarsOf_L1 a_q.Atoms 0 ([] : List Int)
theorem s_VarsOf_ok (a_q : Query) (v0_0 : Sv) (v0_1 : Sv) (R : (List Int)) (hF : s_VarsOf a_q = some R) :
   Fw.Spec Tryz.prog 77 [(.agg [v0_0.v, v0_1.v].toArray)] [crd (RdS 3 rdInt) v0_0.v a_q.Head, crd (RdS 98 rd98) v0_1.v a_q.Atoms] (fun p : Sv × List Nat => p.1.v) (fun p => [cown (OwnS 3 (roE rdInt)) p.2 p.1.v R]) := by
 refine Se 47 Tryz.func77 [.tmp 2] ?_
 intro H0 F0
 unfold s_VarsOf at hF
 refine au ?_
 refine AbR (fun k1 => ?_)
 iterate 3 refine au ?_
 refine C_new rfl (N_buildSliceT (g := true) sl24.h ty3.h .nil (vs := []) rfl rfl rfl (by simp)) (fun k2 => ?_)
 refine Cv1 (.cons .h .nil) (own_lit (Ro := (roE rdInt)) (E := 3) (F := []) (xs := ([] : List Int)) MkL_nil rfl rfl) ?_
 iterate 6 refine au ?_
 refine CW_block (CW_loop (m := a_q.Atoms.length) (fun m7 f' cs' => ∃ (g : Fr) (k9 : Nat) (rest10 : List Atom) (c3 : List Int) (v4 : Sv) (F5 : List Nat), m7 = rest10.length ∧ f' = updL g [(1, (pz k1)), (3, v4.v), (4, (.int .i64 (k9 : Int)))] ∧ List.drop k9 a_q.Atoms = rest10 ∧ Ent cs' [cboR k1 51 (.agg [v0_0.v, v0_1.v].toArray), crd (RdS 3 rdInt) v0_0.v a_q.Head, crd (RdS 98 rd98) v0_1.v a_q.Atoms, cown (OwnS 3 (roE rdInt)) F5 v4.v c3] ∧ s_VarsOf_L1 rest10 k9 c3 = some R) ⟨_, 0, _, _, ⟨(some ⟨k2, 0, none⟩), 0, 1⟩, (k2 :: []), rfl, eqA, rfl, entA, hF⟩ ?_)
 rintro m7 _ _ ⟨g8, k9, rest10, c3, v4, F5, rfl, rfl, hd12, hE, hF⟩
 refine Kb hE a_q.Atoms (fun hbd17 => ?_)
 rcases rest10 with _ | ⟨x11, rest10⟩
 · have hk13 := dn hd12
   rw [s_VarsOf_L1] at hF
   iterate 8 refine au ?_
   refine CdF ?_
   iterate 9 refine au ?_
   cases hF
   exact Er (v4, F5)
 obtain ⟨hk13, hx14, hd15⟩ := drop_cons hd12
 rw [s_VarsOf_L1] at hF
 iterate 8 refine au ?_
 refine CdT ?_
 refine au ?_
 obtain ⟨o18, hio18, hO19⟩ := bind_some hF
 refine K_cut (fun f' cs' => ∃ (c67 : List Int) (v68 : Sv) (F69 : List Nat) (g : Fr), c67 = o18 ∧ f' = updL g [(1, (pz k1)), (3, v68.v), (4, (.int .i64 (k9 : Int)))] ∧ Ent cs' [cboR k1 51 (.agg [v0_0.v, v0_1.v].toArray), crd (RdS 3 rdInt) v0_0.v a_q.Head, crd (RdS 98 rd98) v0_1.v a_q.Atoms, cown (OwnS 3 (roE rdInt)) F69 v68.v c67]) ?_ ?_
 · replace hF := hio18
   refine CW_block (K_region (C_val (V_assign (v := (.int .i64 0)) (.int _ _)) ?_))
   refine au ?_
   refine CW_block (CW_loop (m := (((x11.Terms.length : Int) - 0).toNat + 2)) (fun m24 f' cs' => ∃ (g : Fr) (c20 : List Int) (c23 : Int) (v21 : Sv) (F22 : List Nat), f' = updL g [(1, (pz k1)), (3, v21.v), (4, (.int .i64 (k9 : Int))), (5, (.int .i64 c23))] ∧ Ent cs' [cboR k1 51 (.agg [v0_0.v, v0_1.v].toArray), crd (RdS 3 rdInt) v0_0.v a_q.Head, crd (RdS 98 rd98) v0_1.v a_q.Atoms, cown (OwnS 3 (roE rdInt)) F22 v21.v c20] ∧ s_VarsOf_L3 x11 m24 c20 c23 = some o18) ⟨_, _, _, v4, F5, eqA, entA, hF⟩ ?_)
   rintro m24 _ _ ⟨g25, c20, c23, v21, F22, rfl, hE, hF⟩
   refine K_ent hE ?_
   rcases m24 with _ | m24
   · rw [s_VarsOf_L3] at hF
     exact absurd hF (by simp)
   rw [s_VarsOf_L3] at hF
   iterate 6 refine au ?_
   refine Ai hx14 (fun k32 j33 => ?_)
   refine au ?_
   refine C_ldV (R' := (RdS 3 rdInt)) ag24.h (.tmp rfl rfl) .h lv98_1 (fun w34 => ?_)
   iterate 3 refine au ?_
   refine Ci hF (fun hb66 hF => ?_) (fun hb66 hF => ?_)
   · refine au ?_
     obtain ⟨o35, hio35, hO36⟩ := bind_some hF
     refine K_cut (fun f' cs' => ∃ (c62 : List Int) (v63 : Sv) (F64 : List Nat) (g : Fr), c62 = o35 ∧ f' = updL g [(1, (pz k1)), (3, v63.v), (4, (.int .i64 (k9 : Int))), (5, (.int .i64 c23))] ∧ Ent cs' [cboR k1 51 (.agg [v0_0.v, v0_1.v].toArray), crd (RdS 3 rdInt) v0_0.v a_q.Head, crd (RdS 98 rd98) v0_1.v a_q.Atoms, cown (OwnS 3 (roE rdInt)) F64 v63.v c62]) ?_ ?_
     · replace hF := hio35
       refine CW_block (K_region (C_val (V_fieldAddr (off := 1) fd51_1.h (.tmp rfl rfl)) ?_))
       iterate 2 refine au ?_
       refine Ai hx14 (fun k37 j38 => ?_)
       refine au ?_
       refine C_ldV (R' := (RdS 3 rdInt)) ag24.h (.tmp rfl rfl) .h lv98_1 (fun w39 => ?_)
       refine au ?_
       refine bnd hF fun x40 hx41 hF => ?_
       obtain ⟨hp42, hx43⟩ := ix_some hx41
       refine Ai hx43 (fun k44 j45 => ?_)
       refine Al ls3_0 ?_
       refine bnd hF fun r46 hx47 hF => Cx0 (s_IsVar_ok _ _ hx47) (fun _ => ?_)
       refine au ?_
       refine Ci hF (fun hb61 hF => ?_) (fun hb61 hF => ?_)
       · iterate 5 refine au ?_
         refine Ai hx14 (fun k49 j50 => ?_)
         refine au ?_
         refine C_ldV (R' := (RdS 3 rdInt)) ag24.h (.tmp rfl rfl) .h lv98_1 (fun w51 => ?_)
         refine au ?_
         refine bnd hF fun x52 hx53 hF => ?_
         obtain ⟨hp54, hx55⟩ := ix_some hx53
         refine Ai hx55 (fun k56 j57 => ?_)
         refine Al ls3_0 ?_
         refine bnd hF fun r58 hx59 hF => Cx1 (s_l3Put_ok _ _ _ _ _ hx59) (fun p60 => ?_)
         iterate 2 refine au ?_
         cases hF
         exact ⟨_, p60.1, p60.2, _, rfl, eqA, entA⟩
       refine au ?_
       cases hF
       exact ⟨_, v21, F22, _, rfl, eqA, entA⟩
     rintro _ _ ⟨c62, v63, F64, g65, rfl, rfl, hE⟩
     replace hF := hO36
     try dsimp only at hF
     refine K_ent hE ?_
     iterate 5 refine au ?_
     exact ⟨m24, Nat.lt_succ_self _, _, _, _, v63, F64, eqA, entA, hF⟩
   iterate 4 refine au ?_
   cases hF
   exact ⟨_, v21, F22, _, rfl, eqA, entA⟩
 rintro _ _ ⟨c67, v68, F69, g71, rfl, rfl, hE⟩
 replace hF := hO19
 try dsimp only at hF
 refine K_ent hE ?_
 iterate 5 refine au ?_
 rw [wk k9]
 exact ⟨_, Nat.lt_succ_self _, _, k9 + 1, rest10, _, v68, F69, rfl, eqA, hd15, entA, hF⟩
def s_l3Query_L3 (a_c : l1Cur) (a_s : List Int) (c119 : List Atom) (r133 : Int × l1Cur) : Nat → Int → Int → (List Int) → Int → Option (Int × Int × (List Atom))
 | 0, _, _, _, _ => none
 | m183 + 1, c177, c178, c179, c182 => (ix a_s r133.1).bind fun x191 =>
   if (decide ((c182 : Int) < x191)) then (
     ((s_l1Below ({ b := a_c.b, i := c177, h := c178 } : l1Cur) 4).bind fun r199 =>
       (s_l1Once ({ b := a_c.b, i := r199.2.i, h := r199.2.h } : l1Cur) 4).bind fun r202 =>
       if r202.1 then (
         (s_l1Below ({ b := a_c.b, i := r202.2.i, h := r202.2.h } : l1Cur) 4).bind fun r205 =>
         (app c179 ([r205.1] : List Int)).bind fun z209 =>
         some (r205.2.i, r205.2.h, z209))
       else (
         (app c179 ([(IntKind.i64.wrap (10 + r199.1))] : List Int)).bind fun z213 =>
         some (r202.2.i, r202.2.h, z213))).bind fun o197 =>
     match o197 with
     | (c217, c218, c219) => s_l3Query_L3 a_c a_s c119 r133 m183 c217 c218 c219 (IntKind.i64.wrap (c182 + 1)))
   else (
     (app c119 ([({ Rel := r133.1, Terms := c179 } : Atom)] : List Atom)).bind fun z224 =>
     some (c177, c178, z224))
def s_l3Query_L4 (a_c : l1Cur) (c119 : List Atom) : Nat → Int → Int → (List Int) → (List Int) → Int → Option (Query × l1Cur)
 | 0, _, _, _, _, _ => none
 | m321 + 1, c313, c314, c315, c318, c320 => if ((decide ((c320 : Int) < (c318.length : Int))) && (decide (((c315.length : Int) : Int) < 2))) then (
     ((s_l1Once ({ b := a_c.b, i := c313, h := c314 } : l1Cur) 2).bind fun r333 =>
       if r333.1 then (
         (ix c318 c320).bind fun x336 =>
         (app c315 ([x336] : List Int)).bind fun z343 =>
         some (r333.2.i, r333.2.h, z343))
       else (
         some (r333.2.i, r333.2.h, c315))).bind fun o331 =>
     match o331 with
     | (c347, c348, c349) => s_l3Query_L4 a_c c119 m321 c347 c348 c349 c318 (IntKind.i64.wrap (c320 + 1)))
   else (
     some (({ Head := c315, Atoms := c119 } : Query), ({ b := a_c.b, i := c313, h := c314 } : l1Cur)))
def s_l3Query_L1 (a_c : l1Cur) (a_s : List Int) (fuel : Nat) : Nat → Int → Int → (List Atom) → Int → Option (Query × l1Cur)
 | 0, _, _, _, _ => none
 | m123 + 1, c117, c118, c119, c122 => if (decide ((0 : Int) < c122)) then (
     ((s_l1Below ({ b := a_c.b, i := c117, h := c118 } : l1Cur) (a_s.length : Int)).bind fun r133 =>
       s_l3Query_L3 a_c a_s c119 r133 fuel r133.2.i r133.2.h ([] : List Int) 0).bind fun o131 =>
     match o131 with
     | (c228, c229, c230) => s_l3Query_L1 a_c a_s fuel m123 c228 c229 c230 (IntKind.i64.wrap (c122 - 1)))
   else (
     (s_VarsOf ({ Head := [], Atoms := c119 } : Query)).bind fun r234 =>
     s_l3Query_L4 a_c c119 (((r234.length : Int) - 0).toNat + 2) c117 c118 ([] : List Int) r234 0)
def s_l3Query (fuel : Nat) (a_c : l1Cur) (a_s : List Int) : Option (Query × l1Cur) :=
 (s_l1Below a_c 3).bind fun r3 =>
 s_l3Query_L1 a_c a_s fuel (((IntKind.i64.wrap (1 + r3.1)) - 0).toNat + 2) r3.2.i r3.2.h ([] : List Atom) (IntKind.i64.wrap (1 + r3.1))
theorem s_l3Query_ok (fuel : Nat) (kq0 : Nat) (a_c : l1Cur) (v0_0 : Sv) (a_s : List Int) (v1_0 : Sv) (R : Query × l1Cur) (hF : s_l3Query fuel a_c a_s = some R) :
   Fw.Spec Tryz.prog 163 [(pz kq0), v1_0.v] [cbox kq0 112 (.agg [v0_0.v, (.int .i64 a_c.i), (.int .i64 a_c.h)].toArray), crd (RdS 5 rdU8) v0_0.v a_c.b, crd (RdS 3 rdInt) v1_0.v a_s] (fun p : Sv × List Nat × Sv × List Nat => (.agg [p.1.v, p.2.2.1.v].toArray)) (fun p => [cown (OwnS 3 (roE rdInt)) p.2.1 p.1.v R.1.Head, cown (OwnS 98 ow98) p.2.2.2 p.2.2.1.v R.1.Atoms, cbox kq0 112 (.agg [v0_0.v, (.int .i64 R.2.i), (.int .i64 R.2.h)].toArray)]) := by
 refine Se 79 Tryz.func163 [.cell 4 51] ?_
 intro H0 F0
 unfold s_l3Query at hF
 refine au ?_
 refine AnW (fun k1 => ?_)
 iterate 2 refine au ?_
 refine C_val (V_build ty51.h rfl (vs := []) .nil (cells := [(.slice none 0 0), (.slice none 0 0)]) rfl) ?_
 refine AnW (fun k2 => ?_)
 refine As (.agg [(.slice none 0 0), (.slice none 0 0)].toArray) ?_
 iterate 4 refine au ?_
 refine bnd hF fun r3 hx4 hF => Cx1 (s_l1Below_ok _ _ _ _ _ hx4) (fun p5 => ?_)
 iterate 3 refine au ?_
 refine CW_block (CW_loop (m := (((IntKind.i64.wrap (1 + r3.1)) - 0).toNat + 2)) (fun m123 f' cs' => ∃ (g : Fr) (c117 : Int) (c118 : Int) (c119 : List Atom) (c122 : Int) (v120 : Sv) (F121 : List Nat), f' = updL g [(0, (pz kq0)), (1, v1_0.v), (4, (pz k1)), (5, (pz k2)), (6, (.int .i64 c122))] ∧ Ent cs' [cbox kq0 112 (.agg [v0_0.v, (.int .i64 c117), (.int .i64 c118)].toArray), crd (RdS 5 rdU8) v0_0.v a_c.b, crd (RdS 3 rdInt) v1_0.v a_s, cbox k1 51 (.agg [(.slice none 0 0), (.slice none 0 0)].toArray), cbox k2 51 (.agg [(.slice none 0 0), v120.v].toArray), cown (OwnS 98 ow98) F121 v120.v c119] ∧ s_l3Query_L1 a_c a_s fuel m123 c117 c118 c119 c122 = some R) ⟨_, _, _, _, _, ⟨none, 0, 0⟩, [], eqA, (.conv .nil (own_nil (Ro := ow98) (E := 98)) (.cons .nil) entA), hF⟩ ?_)
 rintro m123 _ _ ⟨g124, c117, c118, c119, c122, v120, F121, rfl, hE, hF⟩
 refine K_ent hE ?_
 rcases m123 with _ | m123
 · rw [s_l3Query_L1] at hF
   exact absurd hF (by simp)
 rw [s_l3Query_L1] at hF
 iterate 5 refine au ?_
 refine Ci hF (fun hb354 hF => ?_) (fun hb354 hF => ?_)
 · refine au ?_
   obtain ⟨o131, hio131, hO132⟩ := bind_some hF
   refine K_cut (fun f' cs' => ∃ (c228 : Int) (c229 : Int) (c230 : List Atom) (v231 : Sv) (F232 : List Nat) (g : Fr), o131 = (c228, c229, c230) ∧ f' = updL g [(0, (pz kq0)), (1, v1_0.v), (4, (pz k1)), (5, (pz k2)), (6, (.int .i64 c122))] ∧ Ent cs' [cbox kq0 112 (.agg [v0_0.v, (.int .i64 c228), (.int .i64 c229)].toArray), crd (RdS 5 rdU8) v0_0.v a_c.b, crd (RdS 3 rdInt) v1_0.v a_s, cbox k1 51 (.agg [(.slice none 0 0), (.slice none 0 0)].toArray), cbox k2 51 (.agg [(.slice none 0 0), v231.v].toArray), cown (OwnS 98 ow98) F232 v231.v c230]) ?_ ?_
   · replace hF := hio131
     refine CW_block (K_region (Cm (pz kq0) rfl rfl ?_))
     iterate 2 refine au ?_
     refine bnd hF fun r133 hx134 hF => Cx1 (s_l1Below_ok _ _ _ _ _ hx134) (fun p135 => ?_)
     refine C_val (V_build ty98.h rfl (vs := [(.int .i64 r133.1)]) (.cons (.tmp rfl rfl) .nil) (cells := [(.int .i64 r133.1), (.slice none 0 0)]) rfl) ?_
     refine AnW (fun k136 => ?_)
     refine As (.agg [(.int .i64 r133.1), (.slice none 0 0)].toArray) ?_
     iterate 5 refine au ?_
     refine CW_block (CW_loop (m := fuel) (fun m183 f' cs' => ∃ (g : Fr) (c177 : Int) (c178 : Int) (c179 : List Int) (c182 : Int) (v180 : Sv) (F181 : List Nat), f' = updL g [(0, (pz kq0)), (1, v1_0.v), (4, (pz k1)), (5, (pz k2)), (6, (.int .i64 c122)), (7, (pz k136)), (8, (.int .i64 c182))] ∧ Ent cs' [cbox kq0 112 (.agg [v0_0.v, (.int .i64 c177), (.int .i64 c178)].toArray), crd (RdS 5 rdU8) v0_0.v a_c.b, crd (RdS 3 rdInt) v1_0.v a_s, cbox k1 51 (.agg [(.slice none 0 0), (.slice none 0 0)].toArray), cbox k2 51 (.agg [(.slice none 0 0), v120.v].toArray), cown (OwnS 98 ow98) F121 v120.v c119, cbox k136 98 (.agg [(.int .i64 r133.1), v180.v].toArray), cown (OwnS 3 (roE rdInt)) F181 v180.v c179] ∧ s_l3Query_L3 a_c a_s c119 r133 m183 c177 c178 c179 c182 = some o131) ⟨_, _, _, _, _, ⟨none, 0, 0⟩, [], eqA, (.conv .nil (own_nil (Ro := (roE rdInt)) (E := 3)) (.cons .nil) entA), hF⟩ ?_)
     rintro m183 _ _ ⟨g184, c177, c178, c179, c182, v180, F181, rfl, hE, hF⟩
     refine K_ent hE ?_
     rcases m183 with _ | m183
     · rw [s_l3Query_L3] at hF
       exact absurd hF (by simp)
     rw [s_l3Query_L3] at hF
     iterate 6 refine au ?_
     refine bnd hF fun x191 hx192 hF => ?_
     obtain ⟨hp193, hx194⟩ := ix_some hx192
     refine Ai hx194 (fun k195 j196 => ?_)
     refine Al ls3_0 ?_
     iterate 2 refine au ?_
     refine Ci hF (fun hb227 hF => ?_) (fun hb227 hF => ?_)
     · refine au ?_
       obtain ⟨o197, hio197, hO198⟩ := bind_some hF
       refine K_cut (fun f' cs' => ∃ (c217 : Int) (c218 : Int) (c219 : List Int) (v220 : Sv) (F221 : List Nat) (g : Fr), o197 = (c217, c218, c219) ∧ f' = updL g [(0, (pz kq0)), (1, v1_0.v), (4, (pz k1)), (5, (pz k2)), (6, (.int .i64 c122)), (7, (pz k136)), (8, (.int .i64 c182))] ∧ Ent cs' [cbox kq0 112 (.agg [v0_0.v, (.int .i64 c217), (.int .i64 c218)].toArray), crd (RdS 5 rdU8) v0_0.v a_c.b, crd (RdS 3 rdInt) v1_0.v a_s, cbox k1 51 (.agg [(.slice none 0 0), (.slice none 0 0)].toArray), cbox k2 51 (.agg [(.slice none 0 0), v120.v].toArray), cown (OwnS 98 ow98) F121 v120.v c119, cbox k136 98 (.agg [(.int .i64 r133.1), v220.v].toArray), cown (OwnS 3 (roE rdInt)) F221 v220.v c219]) ?_ ?_
       · replace hF := hio197
         refine CW_block (K_region (Cm (pz kq0) rfl rfl ?_))
         refine bnd hF fun r199 hx200 hF => Cx1 (s_l1Below_ok _ _ _ _ _ hx200) (fun p201 => ?_)
         iterate 6 refine au ?_
         refine bnd hF fun r202 hx203 hF => Cx1 (s_l1Once_ok _ _ _ _ _ hx203) (fun p204 => ?_)
         refine au ?_
         refine Ci hF (fun hb216 hF => ?_) (fun hb216 hF => ?_)
         · iterate 2 refine au ?_
           refine bnd hF fun r205 hx206 hF => Cx1 (s_l1Below_ok _ _ _ _ _ hx206) (fun p207 => ?_)
           iterate 6 refine au ?_
           refine C_new rfl (N_buildSliceT (g := true) sl24.h ty3.h (.cons (.tmp rfl rfl) .nil) (vs := [(.int .i64 r205.1)]) rfl rfl rfl (by intro v hv; simp at hv; rcases hv with rfl <;> rfl)) (fun k208 => ?_)
           refine Cv1 (.cons .h .nil) (own_lit (Ro := (roE rdInt)) (E := 3) (F := ([] ++ [])) (xs := ([r205.1] : List Int)) (MkL_cons (Mk_pure (fun _ => rfl)) MkL_nil apps) rfl rfl) ?_
           refine bnd hF fun z209 hx210 hF => C_x1 (.cons (.t (.t (.t (.t (.t (.t (.t (.t (.t .h))))))))) (.cons .h .nil)) (X_appendO (Ro := (roE rdInt)) sl24.h ni24 ty3.h rfl rfl rfl (.tmp rfl rfl) (.tmp rfl rfl) hx210 src_own) (fun p211 => ?_)
           refine au ?_
           refine As (.agg [(.int .i64 r133.1), p211.1.v].toArray) ?_
           refine au ?_
           cases hF
           exact ⟨_, _, _, p211.1, p211.2, _, rfl, eqA, entA⟩
         iterate 5 refine au ?_
         refine C_new rfl (N_buildSliceT (g := true) sl24.h ty3.h (.cons (.tmp rfl rfl) .nil) (vs := [(.int .i64 (IntKind.i64.wrap (10 + r199.1)))]) rfl rfl rfl (by intro v hv; simp at hv; rcases hv with rfl <;> rfl)) (fun k212 => ?_)
         refine Cv1 (.cons .h .nil) (own_lit (Ro := (roE rdInt)) (E := 3) (F := ([] ++ [])) (xs := ([(IntKind.i64.wrap (10 + r199.1))] : List Int)) (MkL_cons (Mk_pure (fun _ => rfl)) MkL_nil apps) rfl rfl) ?_
         refine bnd hF fun z213 hx214 hF => C_x1 (.cons (.t (.t (.t (.t (.t (.t (.t (.t (.t .h))))))))) (.cons .h .nil)) (X_appendO (Ro := (roE rdInt)) sl24.h ni24 ty3.h rfl rfl rfl (.tmp rfl rfl) (.tmp rfl rfl) hx214 src_own) (fun p215 => ?_)
         refine au ?_
         refine As (.agg [(.int .i64 r133.1), p215.1.v].toArray) ?_
         refine au ?_
         cases hF
         exact ⟨_, _, _, p215.1, p215.2, _, rfl, eqA, entA⟩
       rintro _ _ ⟨c217, c218, c219, v220, F221, g222, rfl, rfl, hE⟩
       replace hF := hO198
       try dsimp only at hF
       refine K_ent hE ?_
       iterate 5 refine au ?_
       exact ⟨m183, Nat.lt_succ_self _, _, _, _, _, _, v220, F221, eqA, entA, hF⟩
     iterate 8 refine au ?_
     refine C_new rfl (N_buildSliceT (g := true) sl49.h ty98.h (.cons (.tmp rfl rfl) .nil) (vs := [(.agg [(.int .i64 r133.1), v180.v].toArray)]) rfl rfl rfl (by intro v hv; simp at hv; rcases hv with rfl <;> rfl)) (fun k223 => ?_)
     refine Cv1 (.cons .h (.cons (.t (.t (.t (.t (.t (.t (.t (.t .h)))))))) .nil)) (own_lit (Ro := ow98) (E := 98) (F := (F181 ++ [])) (xs := ([({ Rel := r133.1, Terms := c179 } : Atom)] : List Atom)) (MkL_cons (mk98 (a := ({ Rel := r133.1, Terms := c179 } : Atom))) MkL_nil apps) rfl rfl) ?_
     refine bnd hF fun z224 hx225 hF => C_x1 (.cons (.t (.t (.t (.t (.t (.t (.t .h))))))) (.cons .h .nil)) (X_appendO (Ro := ow98) sl49.h ni49 ty98.h rfl rfl rfl (.tmp rfl rfl) (.tmp rfl rfl) hx225 src_own) (fun p226 => ?_)
     refine au ?_
     refine As (.agg [(.slice none 0 0), p226.1.v].toArray) ?_
     refine au ?_
     cases hF
     exact ⟨_, _, _, p226.1, p226.2, _, rfl, eqA, entA⟩
   rintro _ _ ⟨c228, c229, c230, v231, F232, g233, rfl, rfl, hE⟩
   replace hF := hO132
   try dsimp only at hF
   refine K_ent hE ?_
   iterate 5 refine au ?_
   exact ⟨m123, Nat.lt_succ_self _, _, _, _, _, _, v231, F232, eqA, entA, hF⟩
 iterate 6 refine au ?_
 refine Cv1 .nil (rd_nil (R := rdInt) (E := 3)) ?_
 refine bnd hF fun r234 hx235 hF => C_x2 (.cons (.t (.t (.t (.t (.t (.t .h)))))) (.rd .h rfl .nil)) (XC_bor frz_own (fun _ => (.cons .nil)) (XC_pre (.rd (.t .h) rfl (.rd .h rfl .nil)) (X_callS cf77.h (.cons (.tmp rfl rfl) .nil) (s_VarsOf_ok ({ Head := [], Atoms := c119 } : Query) (⟨none, 0, 0⟩) v120 _ hx235)))) (fun p236 => ?_)
 iterate 6 refine au ?_
 refine CW_block (CW_loop (m := (((r234.length : Int) - 0).toNat + 2)) (fun m321 f' cs' => ∃ (g : Fr) (c313 : Int) (c314 : Int) (c315 : List Int) (c318 : List Int) (c320 : Int) (v316 : Sv) (F317 : List Nat) (v319 : Sv), f' = updL g [(0, (pz kq0)), (4, (pz k1)), (5, (pz k2)), (10, v319.v), (11, (.int .i64 c320))] ∧ Ent cs' [cbox kq0 112 (.agg [v0_0.v, (.int .i64 c313), (.int .i64 c314)].toArray), crd (RdS 5 rdU8) v0_0.v a_c.b, cbox k1 51 (.agg [(.slice none 0 0), (.slice none 0 0)].toArray), cbox k2 51 (.agg [v316.v, v120.v].toArray), cown (OwnS 3 (roE rdInt)) F317 v316.v c315, cown (OwnS 98 ow98) F121 v120.v c119, crd (RdS 3 rdInt) v319.v c318] ∧ s_l3Query_L4 a_c c119 m321 c313 c314 c315 c318 c320 = some R) ⟨_, _, _, _, _, _, ⟨none, 0, 0⟩, [], p236.1, eqA, (.conv .nil (own_nil (Ro := (roE rdInt)) (E := 3)) (.cons .nil) (.frz (.t (.t .h)) frz_own entA)), hF⟩ ?_)
 rintro m321 _ _ ⟨g322, c313, c314, c315, c318, c320, v316, F317, v319, rfl, hE, hF⟩
 refine K_ent hE ?_
 rcases m321 with _ | m321
 · rw [s_l3Query_L4] at hF
   exact absurd hF (by simp)
 rw [s_l3Query_L4] at hF
 iterate 2 refine au ?_
 refine C_cut (fun f' cs' => ∃ (g : Fr), f' = updL g [(0, (pz kq0)), (4, (pz k1)), (5, (pz k2)), (10, v319.v), (11, (.int .i64 c320)), (64, (.bool ((decide ((c320 : Int) < (c318.length : Int))) && (decide (((c315.length : Int) : Int) < 2)))))] ∧ Ent cs' [cbox kq0 112 (.agg [v0_0.v, (.int .i64 c313), (.int .i64 c314)].toArray), crd (RdS 5 rdU8) v0_0.v a_c.b, cbox k1 51 (.agg [(.slice none 0 0), (.slice none 0 0)].toArray), cbox k2 51 (.agg [v316.v, v120.v].toArray), cown (OwnS 3 (roE rdInt)) F317 v316.v c315, cown (OwnS 98 ow98) F121 v120.v c119, crd (RdS 3 rdInt) v319.v c318]) ?_ ?_
 · iterate 5 refine au ?_
   rcases Bool.eq_false_or_eq_true (decide ((c320 : Int) < (c318.length : Int))) with hg329 | hg329
   · rw [hg329]
     try rw [hg329] at hF; dsimp only [cond_true, cond_false] at hF
     iterate 10 refine au ?_
     exact ⟨_, eqA, entA⟩
   rw [hg329]
   try rw [hg329] at hF; dsimp only [cond_true, cond_false] at hF
   iterate 6 refine au ?_
   exact ⟨_, eqA, entA⟩
 rintro _ _ ⟨g330, rfl, hE⟩
 refine K_ent hE ?_
 refine Ci hF (fun hb353 hF => ?_) (fun hb353 hF => ?_)
 · refine au ?_
   obtain ⟨o331, hio331, hO332⟩ := bind_some hF
   refine K_cut (fun f' cs' => ∃ (c347 : Int) (c348 : Int) (c349 : List Int) (v350 : Sv) (F351 : List Nat) (g : Fr), o331 = (c347, c348, c349) ∧ f' = updL g [(0, (pz kq0)), (4, (pz k1)), (5, (pz k2)), (10, v319.v), (11, (.int .i64 c320))] ∧ Ent cs' [cbox kq0 112 (.agg [v0_0.v, (.int .i64 c347), (.int .i64 c348)].toArray), crd (RdS 5 rdU8) v0_0.v a_c.b, cbox k1 51 (.agg [(.slice none 0 0), (.slice none 0 0)].toArray), cbox k2 51 (.agg [v350.v, v120.v].toArray), cown (OwnS 3 (roE rdInt)) F351 v350.v c349, cown (OwnS 98 ow98) F121 v120.v c119, crd (RdS 3 rdInt) v319.v c318]) ?_ ?_
   · replace hF := hio331
     refine CW_block (K_region (Cm (pz kq0) rfl rfl ?_))
     refine bnd hF fun r333 hx334 hF => Cx1 (s_l1Once_ok _ _ _ _ _ hx334) (fun p335 => ?_)
     refine au ?_
     refine Ci hF (fun hb346 hF => ?_) (fun hb346 hF => ?_)
     · refine CW_draw [0, 1, 2, 3, 4, 5, 6, 7, 8, 9] [0, 1, 0, 0, 12, 28, 60, 127, 255, 511] [7, 9] mixed (by decide +kernel) ?_
       refine du ?_
       refine D_atO rfl .no (.t (.t (.t .h))) (fun ha hp => V_load (v := v316.v) ag24.h (EN ha (.tmp rfl rfl) rfl) hp.2 rfl rfl) ?_
       iterate 2 refine du ?_
       refine bnd hF fun x336 hx337 hF => ?_
       obtain ⟨hp338, hx339⟩ := ix_some hx337
       refine Di hx339 (fun k340 j341 => ?_)
       refine Dl ls3_0 ?_
       refine D_new rfl .no rfl (fun ha => N_buildSliceT (g := true) (len := 1) (parts := [(0, .tmp 74)]) sl24.h ty3.h (.cons (EN ha (.tmp rfl rfl) rfl) .nil) (vs := [(.int .i64 x336)]) rfl rfl rfl (by intro v hv; simp at hv; rcases hv with rfl <;> rfl)) (fun k342 => ?_)
       refine Dv1 (.cons .h .nil) (own_lit (Ro := (roE rdInt)) (E := 3) (F := ([] ++ [])) (xs := ([x336] : List Int)) (MkL_cons (Mk_pure (fun _ => rfl)) MkL_nil apps) rfl rfl) ?_
       refine bnd hF fun z343 hx344 hF => D_act1 rfl rfl .no (.cons (.t (.t (.t (.t (.t (.t .h)))))) (.cons .h .nil)) (.dep rfl (.dep rfl .nil)) (fun ha => X_appendO (Ro := (roE rdInt)) sl24.h ni24 ty3.h rfl rfl rfl (EN ha (.tmp rfl rfl) rfl) (EN ha (.tmp rfl rfl) rfl) hx344 src_own) (fun p345 => ?_)
       refine du ?_
       refine D_act1 rfl rfl .no (.cons (.t (.t (.t (.t (.t .h))))) .nil) (.dep rfl (.dep rfl .nil)) (fun ha => X_storeB (e' := (.agg [p345.1.v, v120.v].toArray)) ty24.h.sz (EN ha (.tmp rfl rfl) rfl) (EN ha (.tmp rfl rfl) rfl) rfl rfl rfl rfl rfl) (fun _ => ?_)
       refine du ?_
       cases hF
       exact ⟨_, _, _, p345.1, p345.2, _, rfl, eqA, entA⟩
     refine au ?_
     cases hF
     exact ⟨_, _, _, v316, F317, _, rfl, eqA, entA⟩
   rintro _ _ ⟨c347, c348, c349, v350, F351, g352, rfl, rfl, hE⟩
   replace hF := hO332
   try dsimp only at hF
   refine K_ent hE ?_
   iterate 5 refine au ?_
   exact ⟨m321, Nat.lt_succ_self _, _, _, _, _, _, _, v350, F351, v319, eqA, entA, hF⟩
 iterate 6 refine au ?_
 refine As (.agg [v316.v, v120.v].toArray) ?_
 iterate 2 refine au ?_
 cases hF
 exact Er (v316, F317, v120, F121)
def s_IsSchema_L1 (a_s : List Int) : List Int → Nat → Option (Bool)
 | [], k4 => (s_l1In (a_s.length : Int) 1 3).bind fun r13 =>
   some r13
 | x6 :: rest5, k4 => (s_l1In x6 1 3).bind fun r18 =>
   if (!r18) then (
     some false)
   else (
     s_IsSchema_L1 a_s rest5 (k4 + 1))
def s_IsSchema (a_s : List Int) : Option (Bool) :=
 s_IsSchema_L1 a_s a_s 0
theorem s_IsSchema_ok (a_s : List Int) (v0_0 : Sv) (R : Bool) (hF : s_IsSchema a_s = some R) :
   Fw.Spec Tryz.prog 75 [v0_0.v] [crd (RdS 3 rdInt) v0_0.v a_s] (fun _ : Unit => (.bool R)) (fun _ => []) := by
 refine Se 19 Tryz.func75 [.tmp 2] ?_
 intro H0 F0
 unfold s_IsSchema at hF
 iterate 7 refine au ?_
 refine CW_block (CW_loop (m := a_s.length) (fun m2 f' cs' => ∃ (g : Fr) (k4 : Nat) (rest5 : List Int), m2 = rest5.length ∧ f' = updL g [(0, v0_0.v), (3, (.int .i64 (k4 : Int)))] ∧ List.drop k4 a_s = rest5 ∧ Ent cs' [crd (RdS 3 rdInt) v0_0.v a_s] ∧ s_IsSchema_L1 a_s rest5 k4 = some R) ⟨_, 0, _, rfl, eqA, rfl, entA, hF⟩ ?_)
 rintro m2 _ _ ⟨g3, k4, rest5, rfl, rfl, hd7, hE, hF⟩
 refine Kb hE a_s (fun hbd12 => ?_)
 rcases rest5 with _ | ⟨x6, rest5⟩
 · have hk8 := dn hd7
   rw [s_IsSchema_L1] at hF
   iterate 7 refine au ?_
   refine CdF ?_
   iterate 7 refine au ?_
   refine bnd hF fun r13 hx14 hF => Cx0 (s_l1In_ok _ _ _ _ hx14) (fun _ => ?_)
   iterate 3 refine au ?_
   cases hF
   exact Er ()
 obtain ⟨hk8, hx9, hd10⟩ := drop_cons hd7
 rw [s_IsSchema_L1] at hF
 iterate 7 refine au ?_
 refine CdT ?_
 iterate 5 refine au ?_
 refine Ai hx9 (fun k16 j17 => ?_)
 refine Al ls3_0 ?_
 refine bnd hF fun r18 hx19 hF => Cx0 (s_l1In_ok _ _ _ _ hx19) (fun _ => ?_)
 iterate 2 refine au ?_
 refine Ci hF (fun hb22 hF => ?_) (fun hb22 hF => ?_)
 · iterate 4 refine au ?_
   cases hF
   exact Er ()
 iterate 6 refine au ?_
 rw [wk k4]
 exact ⟨_, Nat.lt_succ_self _, _, k4 + 1, rest5, rfl, eqA, hd10, entA, hF⟩
def s_l5AnyMethod (fuel : Nat) (a_c : l1Cur) (a_s : List Int) : Option (Method × l1Cur) :=
 (s_IsSchema a_s).bind fun r3 =>
 if r3 then (
   (s_l5Method fuel a_c a_s).bind fun r6 =>
   (s_l1Below ({ b := a_c.b, i := r6.2.i, h := r6.2.h } : l1Cur) 10).bind fun r9 =>
   if ((r9.1 : Int) == 0) then (
     (s_l1PickInt ({ b := a_c.b, i := r9.2.i, h := r9.2.h } : l1Cur) ([(-1), 9, 10] : List Int)).bind fun r13 =>
     some (({ Rel := r6.1.Rel, Inputs := r6.1.Inputs, Limit := r13.1, Cost := r6.1.Cost, Quota := r6.1.Quota } : Method), ({ b := a_c.b, i := r13.2.i, h := r13.2.h } : l1Cur)))
   else (
     if ((r9.1 : Int) == 1) then (
       (s_l1Below ({ b := a_c.b, i := r9.2.i, h := r9.2.h } : l1Cur) 5).bind fun r16 =>
       (app r6.1.Inputs ([(IntKind.i64.wrap (r16.1 - 1))] : List Int)).bind fun z20 =>
       some (({ Rel := r6.1.Rel, Inputs := z20, Limit := r6.1.Limit, Cost := r6.1.Cost, Quota := r6.1.Quota } : Method), ({ b := a_c.b, i := r16.2.i, h := r16.2.h } : l1Cur)))
     else (
       if ((r9.1 : Int) == 2) then (
         (s_l1PickInt ({ b := a_c.b, i := r9.2.i, h := r9.2.h } : l1Cur) ([0, 99, 100] : List Int)).bind fun r24 =>
         some (({ Rel := r6.1.Rel, Inputs := r6.1.Inputs, Limit := r6.1.Limit, Cost := r6.1.Cost, Quota := r24.1 } : Method), ({ b := a_c.b, i := r24.2.i, h := r24.2.h } : l1Cur)))
       else (
         if ((r9.1 : Int) == 3) then (
           (s_l1PickInt ({ b := a_c.b, i := r9.2.i, h := r9.2.h } : l1Cur) ([(-1), 99, 100] : List Int)).bind fun r28 =>
           some (({ Rel := r6.1.Rel, Inputs := r6.1.Inputs, Limit := r6.1.Limit, Cost := r28.1, Quota := r6.1.Quota } : Method), ({ b := a_c.b, i := r28.2.i, h := r28.2.h } : l1Cur)))
         else (
           some (r6.1, ({ b := a_c.b, i := r9.2.i, h := r9.2.h } : l1Cur)))))))
 else (
   (s_l1Below a_c 10).bind fun r35 =>
   if ((r35.1 : Int) == 0) then (
     (s_l1PickInt ({ b := a_c.b, i := r35.2.i, h := r35.2.h } : l1Cur) ([(-1), 9, 10] : List Int)).bind fun r39 =>
     some (({ Rel := 0, Inputs := [], Limit := r39.1, Cost := 0, Quota := 1 } : Method), ({ b := a_c.b, i := r39.2.i, h := r39.2.h } : l1Cur)))
   else (
     if ((r35.1 : Int) == 1) then (
       (s_l1Below ({ b := a_c.b, i := r35.2.i, h := r35.2.h } : l1Cur) 5).bind fun r42 =>
       (app ([] : List Int) ([(IntKind.i64.wrap (r42.1 - 1))] : List Int)).bind fun z46 =>
       some (({ Rel := 0, Inputs := z46, Limit := 0, Cost := 0, Quota := 1 } : Method), ({ b := a_c.b, i := r42.2.i, h := r42.2.h } : l1Cur)))
     else (
       if ((r35.1 : Int) == 2) then (
         (s_l1PickInt ({ b := a_c.b, i := r35.2.i, h := r35.2.h } : l1Cur) ([0, 99, 100] : List Int)).bind fun r50 =>
         some (({ Rel := 0, Inputs := [], Limit := 0, Cost := 0, Quota := r50.1 } : Method), ({ b := a_c.b, i := r50.2.i, h := r50.2.h } : l1Cur)))
       else (
         if ((r35.1 : Int) == 3) then (
           (s_l1PickInt ({ b := a_c.b, i := r35.2.i, h := r35.2.h } : l1Cur) ([(-1), 99, 100] : List Int)).bind fun r54 =>
           some (({ Rel := 0, Inputs := [], Limit := 0, Cost := r54.1, Quota := 1 } : Method), ({ b := a_c.b, i := r54.2.i, h := r54.2.h } : l1Cur)))
         else (
           some (({ Rel := 0, Inputs := [], Limit := 0, Cost := 0, Quota := 1 } : Method), ({ b := a_c.b, i := r35.2.i, h := r35.2.h } : l1Cur)))))))
theorem s_l5AnyMethod_ok (fuel : Nat) (kq0 : Nat) (a_c : l1Cur) (v0_0 : Sv) (a_s : List Int) (v1_0 : Sv) (R : Method × l1Cur) (hF : s_l5AnyMethod fuel a_c a_s = some R) :
   Fw.Spec Tryz.prog 232 [(pz kq0), v1_0.v] [cbox kq0 112 (.agg [v0_0.v, (.int .i64 a_c.i), (.int .i64 a_c.h)].toArray), crd (RdS 5 rdU8) v0_0.v a_c.b, crd (RdS 3 rdInt) v1_0.v a_s] (fun p : Sv × List Nat => (.agg [(.int .i64 R.1.Rel), p.1.v, (.int .i64 R.1.Limit), (.int .i64 R.1.Cost), (.int .i64 R.1.Quota)].toArray)) (fun p => [cown (OwnS 3 (roE rdInt)) p.2 p.1.v R.1.Inputs, cbox kq0 112 (.agg [v0_0.v, (.int .i64 R.2.i), (.int .i64 R.2.h)].toArray)]) := by
 refine Se 43 Tryz.func232 [.cell 4 73] ?_
 intro H0 F0
 unfold s_l5AnyMethod at hF
 refine au ?_
 refine AnW (fun k1 => ?_)
 iterate 2 refine au ?_
 refine C_val (V_build ty73.h rfl (vs := [(.int .i64 1)]) (.cons (.int _ _) .nil) (cells := [(.int .i64 0), (.slice none 0 0), (.int .i64 0), (.int .i64 0), (.int .i64 1)]) rfl) ?_
 refine AnW (fun k2 => ?_)
 refine As (.agg [(.int .i64 0), (.slice none 0 0), (.int .i64 0), (.int .i64 0), (.int .i64 1)].toArray) ?_
 iterate 4 refine au ?_
 refine bnd hF fun r3 hx4 hF => Cx0 (s_IsSchema_ok _ _ _ hx4) (fun _ => ?_)
 refine au ?_
 refine Ci hF (fun hb61 hF => ?_) (fun hb61 hF => ?_)
 · iterate 3 refine au ?_
   refine bnd hF fun r6 hx7 hF => Cx2 (s_l5Method_ok _ _ _ _ _ _ _ hx7) (fun p8 => ?_)
   refine As (.agg [(.int .i64 r6.1.Rel), p8.1.v, (.int .i64 r6.1.Limit), (.int .i64 r6.1.Cost), (.int .i64 r6.1.Quota)].toArray) ?_
   iterate 4 refine au ?_
   refine bnd hF fun r9 hx10 hF => Cx1 (s_l1Below_ok _ _ _ _ _ hx10) (fun p11 => ?_)
   refine au ?_
   refine CW_block (K_region (C_val (V_eql (i := r9.1) (j := 0) (.tmp rfl rfl) (.int _ _)) ?_))
   iterate 2 refine au ?_
   refine Ci hF (fun hb34 hF => ?_) (fun hb34 hF => ?_)
   · iterate 2 refine au ?_
     refine C_new rfl (N_buildSliceT (g := true) sl24.h ty3.h (.cons (.int _ _) (.cons (.int _ _) (.cons (.int _ _) .nil))) (vs := [(.int .i64 (-1)), (.int .i64 9), (.int .i64 10)]) rfl rfl rfl (by intro v hv; simp at hv; rcases hv with rfl | rfl | rfl <;> rfl)) (fun k12 => ?_)
     refine Cv1 (.cons .h .nil) (own_lit (Ro := (roE rdInt)) (E := 3) (F := ([] ++ ([] ++ ([] ++ [])))) (xs := ([(-1), 9, 10] : List Int)) (MkL_cons (Mk_pure (fun _ => rfl)) (MkL_cons (Mk_pure (fun _ => rfl)) (MkL_cons (Mk_pure (fun _ => rfl)) MkL_nil apps) apps) apps) rfl rfl) ?_
     refine bnd hF fun r13 hx14 hF => C_x2 (.cons .h (.cons .h (.rd (.t (.t (.t .h))) rfl .nil))) (XC_bor frz_own (fun _ => (.cons .nil)) (XC_pre (.cons (.t .h) (.rd (.t .h) rfl (.rd .h rfl .nil))) (X_callS cf90.h (.cons (.tmp rfl rfl) (.cons (.tmp rfl rfl) .nil)) (s_l1PickInt_ok kq0 ({ b := a_c.b, i := r9.2.i, h := r9.2.h } : l1Cur) v0_0 ([(-1), 9, 10] : List Int) (⟨(some ⟨k12, 0, none⟩), 3, 1⟩) _ hx14)))) (fun p15 => ?_)
     refine au ?_
     refine As (.agg [(.int .i64 r6.1.Rel), p8.1.v, (.int .i64 r13.1), (.int .i64 r6.1.Cost), (.int .i64 r6.1.Quota)].toArray) ?_
     iterate 3 refine au ?_
     refine As (.agg [(.int .i64 r6.1.Rel), p8.1.v, (.int .i64 r13.1), (.int .i64 r6.1.Cost), (.int .i64 r6.1.Quota)].toArray) ?_
     iterate 2 refine au ?_
     cases hF
     exact Er (p8.1, p8.2)
   iterate 4 refine au ?_
   refine Ci hF (fun hb33 hF => ?_) (fun hb33 hF => ?_)
   · refine CW_draw [0, 1, 2, 3, 4, 5, 6, 7, 8] [0, 1, 0, 4, 12, 28, 63, 127, 255] [3, 6, 8] mixed (by decide +kernel) ?_
     refine du ?_
     refine D_atO rfl .no (.t .h) (fun ha hp => V_load (v := p8.1.v) ag24.h (EN ha (.tmp rfl rfl) rfl) hp.2 rfl rfl) ?_
     refine du ?_
     refine bnd hF fun r16 hx17 hF => D_act1 rfl rfl .no (.cons .h (.rd (.t (.t (.t .h))) rfl .nil)) (.own .h (fun _ h => h) .nil) (fun ha => X_callS cf89.h (.cons (EN ha (.tmp rfl rfl) rfl) (.cons (EN ha (.int _ _) rfl) .nil)) (s_l1Below_ok kq0 ({ b := a_c.b, i := r9.2.i, h := r9.2.h } : l1Cur) v0_0 5 _ hx17)) (fun p18 => ?_)
     refine du ?_
     refine D_new rfl .no rfl (fun ha => N_buildSliceT (g := true) (len := 1) (parts := [(0, .tmp 26)]) sl24.h ty3.h (.cons (EN ha (.tmp rfl rfl) rfl) .nil) (vs := [(.int .i64 (IntKind.i64.wrap (r16.1 - 1)))]) rfl rfl rfl (by intro v hv; simp at hv; rcases hv with rfl <;> rfl)) (fun k19 => ?_)
     refine Dv1 (.cons .h .nil) (own_lit (Ro := (roE rdInt)) (E := 3) (F := ([] ++ [])) (xs := ([(IntKind.i64.wrap (r16.1 - 1))] : List Int)) (MkL_cons (Mk_pure (fun _ => rfl)) MkL_nil apps) rfl rfl) ?_
     refine bnd hF fun z20 hx21 hF => D_act1 rfl rfl .no (.cons (.t (.t (.t .h))) (.cons .h .nil)) (.dep rfl (.dep rfl .nil)) (fun ha => X_appendO (Ro := (roE rdInt)) sl24.h ni24 ty3.h rfl rfl rfl (EN ha (.tmp rfl rfl) rfl) (EN ha (.tmp rfl rfl) rfl) hx21 src_own) (fun p22 => ?_)
     refine du ?_
     refine D_act1 rfl rfl .no (.cons (.t (.t .h)) .nil) (.dep rfl (.dep rfl .nil)) (fun ha => X_storeB (e' := (.agg [(.int .i64 r6.1.Rel), p22.1.v, (.int .i64 r6.1.Limit), (.int .i64 r6.1.Cost), (.int .i64 r6.1.Quota)].toArray)) ty24.h.sz (EN ha (.tmp rfl rfl) rfl) (EN ha (.tmp rfl rfl) rfl) rfl rfl rfl rfl rfl) (fun _ => ?_)
     refine du ?_
     iterate 2 refine au ?_
     refine As (.agg [(.int .i64 r6.1.Rel), p22.1.v, (.int .i64 r6.1.Limit), (.int .i64 r6.1.Cost), (.int .i64 r6.1.Quota)].toArray) ?_
     iterate 2 refine au ?_
     cases hF
     exact Er (p22.1, p22.2)
   iterate 4 refine au ?_
   refine Ci hF (fun hb32 hF => ?_) (fun hb32 hF => ?_)
   · iterate 2 refine au ?_
     refine C_new rfl (N_buildSliceT (g := true) sl24.h ty3.h (.cons (.int _ _) (.cons (.int _ _) (.cons (.int _ _) .nil))) (vs := [(.int .i64 0), (.int .i64 99), (.int .i64 100)]) rfl rfl rfl (by intro v hv; simp at hv; rcases hv with rfl | rfl | rfl <;> rfl)) (fun k23 => ?_)
     refine Cv1 (.cons .h .nil) (own_lit (Ro := (roE rdInt)) (E := 3) (F := ([] ++ ([] ++ ([] ++ [])))) (xs := ([0, 99, 100] : List Int)) (MkL_cons (Mk_pure (fun _ => rfl)) (MkL_cons (Mk_pure (fun _ => rfl)) (MkL_cons (Mk_pure (fun _ => rfl)) MkL_nil apps) apps) apps) rfl rfl) ?_
     refine bnd hF fun r24 hx25 hF => C_x2 (.cons .h (.cons .h (.rd (.t (.t (.t .h))) rfl .nil))) (XC_bor frz_own (fun _ => (.cons .nil)) (XC_pre (.cons (.t .h) (.rd (.t .h) rfl (.rd .h rfl .nil))) (X_callS cf90.h (.cons (.tmp rfl rfl) (.cons (.tmp rfl rfl) .nil)) (s_l1PickInt_ok kq0 ({ b := a_c.b, i := r9.2.i, h := r9.2.h } : l1Cur) v0_0 ([0, 99, 100] : List Int) (⟨(some ⟨k23, 0, none⟩), 3, 1⟩) _ hx25)))) (fun p26 => ?_)
     refine au ?_
     refine As (.agg [(.int .i64 r6.1.Rel), p8.1.v, (.int .i64 r6.1.Limit), (.int .i64 r6.1.Cost), (.int .i64 r24.1)].toArray) ?_
     iterate 3 refine au ?_
     refine As (.agg [(.int .i64 r6.1.Rel), p8.1.v, (.int .i64 r6.1.Limit), (.int .i64 r6.1.Cost), (.int .i64 r24.1)].toArray) ?_
     iterate 2 refine au ?_
     cases hF
     exact Er (p8.1, p8.2)
   iterate 4 refine au ?_
   refine Ci hF (fun hb31 hF => ?_) (fun hb31 hF => ?_)
   · iterate 2 refine au ?_
     refine C_new rfl (N_buildSliceT (g := true) sl24.h ty3.h (.cons (.int _ _) (.cons (.int _ _) (.cons (.int _ _) .nil))) (vs := [(.int .i64 (-1)), (.int .i64 99), (.int .i64 100)]) rfl rfl rfl (by intro v hv; simp at hv; rcases hv with rfl | rfl | rfl <;> rfl)) (fun k27 => ?_)
     refine Cv1 (.cons .h .nil) (own_lit (Ro := (roE rdInt)) (E := 3) (F := ([] ++ ([] ++ ([] ++ [])))) (xs := ([(-1), 99, 100] : List Int)) (MkL_cons (Mk_pure (fun _ => rfl)) (MkL_cons (Mk_pure (fun _ => rfl)) (MkL_cons (Mk_pure (fun _ => rfl)) MkL_nil apps) apps) apps) rfl rfl) ?_
     refine bnd hF fun r28 hx29 hF => C_x2 (.cons .h (.cons .h (.rd (.t (.t (.t .h))) rfl .nil))) (XC_bor frz_own (fun _ => (.cons .nil)) (XC_pre (.cons (.t .h) (.rd (.t .h) rfl (.rd .h rfl .nil))) (X_callS cf90.h (.cons (.tmp rfl rfl) (.cons (.tmp rfl rfl) .nil)) (s_l1PickInt_ok kq0 ({ b := a_c.b, i := r9.2.i, h := r9.2.h } : l1Cur) v0_0 ([(-1), 99, 100] : List Int) (⟨(some ⟨k27, 0, none⟩), 3, 1⟩) _ hx29)))) (fun p30 => ?_)
     refine au ?_
     refine As (.agg [(.int .i64 r6.1.Rel), p8.1.v, (.int .i64 r6.1.Limit), (.int .i64 r28.1), (.int .i64 r6.1.Quota)].toArray) ?_
     iterate 3 refine au ?_
     refine As (.agg [(.int .i64 r6.1.Rel), p8.1.v, (.int .i64 r6.1.Limit), (.int .i64 r28.1), (.int .i64 r6.1.Quota)].toArray) ?_
     iterate 2 refine au ?_
     cases hF
     exact Er (p8.1, p8.2)
   iterate 3 refine au ?_
   refine As (.agg [(.int .i64 r6.1.Rel), p8.1.v, (.int .i64 r6.1.Limit), (.int .i64 r6.1.Cost), (.int .i64 r6.1.Quota)].toArray) ?_
   iterate 2 refine au ?_
   cases hF
   exact Er (p8.1, p8.2)
 iterate 4 refine au ?_
 refine bnd hF fun r35 hx36 hF => Cx1 (s_l1Below_ok _ _ _ _ _ hx36) (fun p37 => ?_)
 refine au ?_
 refine CW_block (K_region (C_val (V_eql (i := r35.1) (j := 0) (.tmp rfl rfl) (.int _ _)) ?_))
 iterate 2 refine au ?_
 refine Ci hF (fun hb60 hF => ?_) (fun hb60 hF => ?_)
 · iterate 2 refine au ?_
   refine C_new rfl (N_buildSliceT (g := true) sl24.h ty3.h (.cons (.int _ _) (.cons (.int _ _) (.cons (.int _ _) .nil))) (vs := [(.int .i64 (-1)), (.int .i64 9), (.int .i64 10)]) rfl rfl rfl (by intro v hv; simp at hv; rcases hv with rfl | rfl | rfl <;> rfl)) (fun k38 => ?_)
   refine Cv1 (.cons .h .nil) (own_lit (Ro := (roE rdInt)) (E := 3) (F := ([] ++ ([] ++ ([] ++ [])))) (xs := ([(-1), 9, 10] : List Int)) (MkL_cons (Mk_pure (fun _ => rfl)) (MkL_cons (Mk_pure (fun _ => rfl)) (MkL_cons (Mk_pure (fun _ => rfl)) MkL_nil apps) apps) apps) rfl rfl) ?_
   refine bnd hF fun r39 hx40 hF => C_x2 (.cons .h (.cons .h (.rd (.t (.t .h)) rfl .nil))) (XC_bor frz_own (fun _ => (.cons .nil)) (XC_pre (.cons (.t .h) (.rd (.t .h) rfl (.rd .h rfl .nil))) (X_callS cf90.h (.cons (.tmp rfl rfl) (.cons (.tmp rfl rfl) .nil)) (s_l1PickInt_ok kq0 ({ b := a_c.b, i := r35.2.i, h := r35.2.h } : l1Cur) v0_0 ([(-1), 9, 10] : List Int) (⟨(some ⟨k38, 0, none⟩), 3, 1⟩) _ hx40)))) (fun p41 => ?_)
   refine au ?_
   refine As (.agg [(.int .i64 0), (.slice none 0 0), (.int .i64 r39.1), (.int .i64 0), (.int .i64 1)].toArray) ?_
   iterate 3 refine au ?_
   refine As (.agg [(.int .i64 0), (.slice none 0 0), (.int .i64 r39.1), (.int .i64 0), (.int .i64 1)].toArray) ?_
   iterate 2 refine au ?_
   cases hF
   exact End_ret (⟨none, 0, 0⟩, []) (.cellA rfl rfl .h rfl ag73.h ty73.h.sz rfl rfl .nil) rfl (.conv .nil (own_nil (Ro := (roE rdInt)) (E := 3)) (.cons .nil) (.sel (.cons .h (.cons (.t (.t (.t .h))) .nil))))
 iterate 4 refine au ?_
 refine Ci hF (fun hb59 hF => ?_) (fun hb59 hF => ?_)
 · refine CW_draw [0, 1, 2, 3, 4, 5, 6, 7, 8] [0, 1, 0, 4, 12, 28, 63, 127, 255] [3, 6, 8] mixed (by decide +kernel) ?_
   refine du ?_
   refine D_atO rfl .no (.t .h) (fun ha hp => V_load (v := (.slice none 0 0)) ag24.h (EN ha (.tmp rfl rfl) rfl) hp.2 rfl rfl) ?_
   refine du ?_
   refine bnd hF fun r42 hx43 hF => D_act1 rfl rfl .no (.cons .h (.rd (.t (.t .h)) rfl .nil)) (.own .h (fun _ h => h) .nil) (fun ha => X_callS cf89.h (.cons (EN ha (.tmp rfl rfl) rfl) (.cons (EN ha (.int _ _) rfl) .nil)) (s_l1Below_ok kq0 ({ b := a_c.b, i := r35.2.i, h := r35.2.h } : l1Cur) v0_0 5 _ hx43)) (fun p44 => ?_)
   refine du ?_
   refine D_new rfl .no rfl (fun ha => N_buildSliceT (g := true) (len := 1) (parts := [(0, .tmp 26)]) sl24.h ty3.h (.cons (EN ha (.tmp rfl rfl) rfl) .nil) (vs := [(.int .i64 (IntKind.i64.wrap (r42.1 - 1)))]) rfl rfl rfl (by intro v hv; simp at hv; rcases hv with rfl <;> rfl)) (fun k45 => ?_)
   refine Dv1 (.cons .h .nil) (own_lit (Ro := (roE rdInt)) (E := 3) (F := ([] ++ [])) (xs := ([(IntKind.i64.wrap (r42.1 - 1))] : List Int)) (MkL_cons (Mk_pure (fun _ => rfl)) MkL_nil apps) rfl rfl) ?_
   refine Dv1 .nil (own_nil (Ro := (roE rdInt)) (E := 3)) ?_
   refine bnd hF fun z46 hx47 hF => D_act1 rfl rfl .no (.cons .h (.cons .h .nil)) (.dep rfl (.dep rfl .nil)) (fun ha => X_appendO (Ro := (roE rdInt)) sl24.h ni24 ty3.h rfl rfl rfl (EN ha (.tmp rfl rfl) rfl) (EN ha (.tmp rfl rfl) rfl) hx47 src_own) (fun p48 => ?_)
   refine du ?_
   refine D_act1 rfl rfl .no (.cons (.t (.t .h)) .nil) (.dep rfl (.dep rfl .nil)) (fun ha => X_storeB (e' := (.agg [(.int .i64 0), p48.1.v, (.int .i64 0), (.int .i64 0), (.int .i64 1)].toArray)) ty24.h.sz (EN ha (.tmp rfl rfl) rfl) (EN ha (.tmp rfl rfl) rfl) rfl rfl rfl rfl rfl) (fun _ => ?_)
   refine du ?_
   iterate 2 refine au ?_
   refine As (.agg [(.int .i64 0), p48.1.v, (.int .i64 0), (.int .i64 0), (.int .i64 1)].toArray) ?_
   iterate 2 refine au ?_
   cases hF
   exact Er (p48.1, p48.2)
 iterate 4 refine au ?_
 refine Ci hF (fun hb58 hF => ?_) (fun hb58 hF => ?_)
 · iterate 2 refine au ?_
   refine C_new rfl (N_buildSliceT (g := true) sl24.h ty3.h (.cons (.int _ _) (.cons (.int _ _) (.cons (.int _ _) .nil))) (vs := [(.int .i64 0), (.int .i64 99), (.int .i64 100)]) rfl rfl rfl (by intro v hv; simp at hv; rcases hv with rfl | rfl | rfl <;> rfl)) (fun k49 => ?_)
   refine Cv1 (.cons .h .nil) (own_lit (Ro := (roE rdInt)) (E := 3) (F := ([] ++ ([] ++ ([] ++ [])))) (xs := ([0, 99, 100] : List Int)) (MkL_cons (Mk_pure (fun _ => rfl)) (MkL_cons (Mk_pure (fun _ => rfl)) (MkL_cons (Mk_pure (fun _ => rfl)) MkL_nil apps) apps) apps) rfl rfl) ?_
   refine bnd hF fun r50 hx51 hF => C_x2 (.cons .h (.cons .h (.rd (.t (.t .h)) rfl .nil))) (XC_bor frz_own (fun _ => (.cons .nil)) (XC_pre (.cons (.t .h) (.rd (.t .h) rfl (.rd .h rfl .nil))) (X_callS cf90.h (.cons (.tmp rfl rfl) (.cons (.tmp rfl rfl) .nil)) (s_l1PickInt_ok kq0 ({ b := a_c.b, i := r35.2.i, h := r35.2.h } : l1Cur) v0_0 ([0, 99, 100] : List Int) (⟨(some ⟨k49, 0, none⟩), 3, 1⟩) _ hx51)))) (fun p52 => ?_)
   refine au ?_
   refine As (.agg [(.int .i64 0), (.slice none 0 0), (.int .i64 0), (.int .i64 0), (.int .i64 r50.1)].toArray) ?_
   iterate 3 refine au ?_
   refine As (.agg [(.int .i64 0), (.slice none 0 0), (.int .i64 0), (.int .i64 0), (.int .i64 r50.1)].toArray) ?_
   iterate 2 refine au ?_
   cases hF
   exact End_ret (⟨none, 0, 0⟩, []) (.cellA rfl rfl .h rfl ag73.h ty73.h.sz rfl rfl .nil) rfl (.conv .nil (own_nil (Ro := (roE rdInt)) (E := 3)) (.cons .nil) (.sel (.cons .h (.cons (.t (.t (.t .h))) .nil))))
 iterate 4 refine au ?_
 refine Ci hF (fun hb57 hF => ?_) (fun hb57 hF => ?_)
 · iterate 2 refine au ?_
   refine C_new rfl (N_buildSliceT (g := true) sl24.h ty3.h (.cons (.int _ _) (.cons (.int _ _) (.cons (.int _ _) .nil))) (vs := [(.int .i64 (-1)), (.int .i64 99), (.int .i64 100)]) rfl rfl rfl (by intro v hv; simp at hv; rcases hv with rfl | rfl | rfl <;> rfl)) (fun k53 => ?_)
   refine Cv1 (.cons .h .nil) (own_lit (Ro := (roE rdInt)) (E := 3) (F := ([] ++ ([] ++ ([] ++ [])))) (xs := ([(-1), 99, 100] : List Int)) (MkL_cons (Mk_pure (fun _ => rfl)) (MkL_cons (Mk_pure (fun _ => rfl)) (MkL_cons (Mk_pure (fun _ => rfl)) MkL_nil apps) apps) apps) rfl rfl) ?_
   refine bnd hF fun r54 hx55 hF => C_x2 (.cons .h (.cons .h (.rd (.t (.t .h)) rfl .nil))) (XC_bor frz_own (fun _ => (.cons .nil)) (XC_pre (.cons (.t .h) (.rd (.t .h) rfl (.rd .h rfl .nil))) (X_callS cf90.h (.cons (.tmp rfl rfl) (.cons (.tmp rfl rfl) .nil)) (s_l1PickInt_ok kq0 ({ b := a_c.b, i := r35.2.i, h := r35.2.h } : l1Cur) v0_0 ([(-1), 99, 100] : List Int) (⟨(some ⟨k53, 0, none⟩), 3, 1⟩) _ hx55)))) (fun p56 => ?_)
   refine au ?_
   refine As (.agg [(.int .i64 0), (.slice none 0 0), (.int .i64 0), (.int .i64 r54.1), (.int .i64 1)].toArray) ?_
   iterate 3 refine au ?_
   refine As (.agg [(.int .i64 0), (.slice none 0 0), (.int .i64 0), (.int .i64 r54.1), (.int .i64 1)].toArray) ?_
   iterate 2 refine au ?_
   cases hF
   exact End_ret (⟨none, 0, 0⟩, []) (.cellA rfl rfl .h rfl ag73.h ty73.h.sz rfl rfl .nil) rfl (.conv .nil (own_nil (Ro := (roE rdInt)) (E := 3)) (.cons .nil) (.sel (.cons .h (.cons (.t (.t (.t .h))) .nil))))
 iterate 3 refine au ?_
 refine As (.agg [(.int .i64 0), (.slice none 0 0), (.int .i64 0), (.int .i64 0), (.int .i64 1)].toArray) ?_
 iterate 2 refine au ?_
 cases hF
 exact End_ret (⟨none, 0, 0⟩, []) (.cellA rfl rfl .h rfl ag73.h ty73.h.sz rfl rfl .nil) rfl (.conv .nil (own_nil (Ro := (roE rdInt)) (E := 3)) (.cons .nil) (.sel (.cons .h (.cons (.t .h) .nil))))
def s_l3Any (fuel : Nat) (a_c : l1Cur) (a_s : List Int) : Option (Query × l1Cur) :=
 (s_IsSchema a_s).bind fun r5 =>
 if r5 then (
   (s_l3Query fuel a_c a_s).bind fun r8 =>
   (s_l1Below ({ b := a_c.b, i := r8.2.i, h := r8.2.h } : l1Cur) 14).bind fun r11 =>
   if ((r11.1 : Int) == 0) then (
     (s_l1PickInt ({ b := a_c.b, i := r11.2.i, h := r11.2.h } : l1Cur) ([17, 18, 3, (-1)] : List Int)).bind fun r15 =>
     (app r8.1.Head ([r15.1] : List Int)).bind fun z19 =>
     some (({ Head := z19, Atoms := r8.1.Atoms } : Query), ({ b := a_c.b, i := r15.2.i, h := r15.2.h } : l1Cur)))
   else (
     if ((r11.1 : Int) == 1) then (
       (ix r8.1.Atoms 0).bind fun x22 =>
       (s_l1PickInt ({ b := a_c.b, i := r11.2.i, h := r11.2.h } : l1Cur) ([(-1), 9, 17, 18] : List Int)).bind fun r37 =>
       (chk (decide (0 ≤ 0) && decide (0 < (x22.Terms.length : Int)))).bind fun u43 =>
       (some (x22.Terms.set (0 : Int).toNat r37.1)).bind fun z45 =>
       (some (r8.1.Atoms.set (0 : Int).toNat ({ Rel := x22.Rel, Terms := z45 } : Atom))).bind fun z48 =>
       some (({ Head := r8.1.Head, Atoms := z48 } : Query), ({ b := a_c.b, i := r37.2.i, h := r37.2.h } : l1Cur)))
     else (
       if ((r11.1 : Int) == 2) then (
         (s_l1Below ({ b := a_c.b, i := r11.2.i, h := r11.2.h } : l1Cur) 5).bind fun r50 =>
         (ix r8.1.Atoms 0).bind fun x56 =>
         (some (r8.1.Atoms.set (0 : Int).toNat { x56 with Rel := (IntKind.i64.wrap (r50.1 - 1)) })).bind fun z60 =>
         some (({ Head := r8.1.Head, Atoms := z60 } : Query), ({ b := a_c.b, i := r50.2.i, h := r50.2.h } : l1Cur)))
       else (
         some (r8.1, ({ b := a_c.b, i := r11.2.i, h := r11.2.h } : l1Cur))))))
 else (
   (s_l1Below a_c 14).bind fun r65 =>
   if ((r65.1 : Int) == 0) then (
     (s_l1PickInt ({ b := a_c.b, i := r65.2.i, h := r65.2.h } : l1Cur) ([17, 18, 3, (-1)] : List Int)).bind fun r69 =>
     (app ([] : List Int) ([r69.1] : List Int)).bind fun z73 =>
     some (({ Head := z73, Atoms := ([({ Rel := 0, Terms := ([10] : List Int) } : Atom)] : List Atom) } : Query), ({ b := a_c.b, i := r69.2.i, h := r69.2.h } : l1Cur)))
   else (
     if ((r65.1 : Int) == 1) then (
       (ix ([({ Rel := 0, Terms := ([10] : List Int) } : Atom)] : List Atom) 0).bind fun x76 =>
       (s_l1PickInt ({ b := a_c.b, i := r65.2.i, h := r65.2.h } : l1Cur) ([(-1), 9, 17, 18] : List Int)).bind fun r91 =>
       (chk (decide (0 ≤ 0) && decide (0 < (x76.Terms.length : Int)))).bind fun u97 =>
       (some (x76.Terms.set (0 : Int).toNat r91.1)).bind fun z99 =>
       (some (([({ Rel := 0, Terms := ([10] : List Int) } : Atom)] : List Atom).set (0 : Int).toNat ({ Rel := x76.Rel, Terms := z99 } : Atom))).bind fun z102 =>
       some (({ Head := [], Atoms := z102 } : Query), ({ b := a_c.b, i := r91.2.i, h := r91.2.h } : l1Cur)))
     else (
       if ((r65.1 : Int) == 2) then (
         (s_l1Below ({ b := a_c.b, i := r65.2.i, h := r65.2.h } : l1Cur) 5).bind fun r104 =>
         (ix ([({ Rel := 0, Terms := ([10] : List Int) } : Atom)] : List Atom) 0).bind fun x110 =>
         (some (([({ Rel := 0, Terms := ([10] : List Int) } : Atom)] : List Atom).set (0 : Int).toNat { x110 with Rel := (IntKind.i64.wrap (r104.1 - 1)) })).bind fun z114 =>
         some (({ Head := [], Atoms := z114 } : Query), ({ b := a_c.b, i := r104.2.i, h := r104.2.h } : l1Cur)))
       else (
         some (({ Head := [], Atoms := ([({ Rel := 0, Terms := ([10] : List Int) } : Atom)] : List Atom) } : Query), ({ b := a_c.b, i := r65.2.i, h := r65.2.h } : l1Cur))))))
theorem s_l3Any_ok (fuel : Nat) (kq0 : Nat) (a_c : l1Cur) (v0_0 : Sv) (a_s : List Int) (v1_0 : Sv) (R : Query × l1Cur) (hF : s_l3Any fuel a_c a_s = some R) :
   Fw.Spec Tryz.prog 233 [(pz kq0), v1_0.v] [cbox kq0 112 (.agg [v0_0.v, (.int .i64 a_c.i), (.int .i64 a_c.h)].toArray), crd (RdS 5 rdU8) v0_0.v a_c.b, crd (RdS 3 rdInt) v1_0.v a_s] (fun p : Sv × List Nat × Sv × List Nat => (.agg [p.1.v, p.2.2.1.v].toArray)) (fun p => [cown (OwnS 3 (roE rdInt)) p.2.1 p.1.v R.1.Head, cown (OwnS 98 ow98) p.2.2.2 p.2.2.1.v R.1.Atoms, cbox kq0 112 (.agg [v0_0.v, (.int .i64 R.2.i), (.int .i64 R.2.h)].toArray)]) := by
 refine Se 48 Tryz.func233 [.cell 4 51] ?_
 intro H0 F0
 unfold s_l3Any at hF
 refine au ?_
 refine AnW (fun k1 => ?_)
 iterate 2 refine au ?_
 refine C_new rfl (N_buildSliceT (g := true) sl24.h ty3.h (.cons (.int _ _) .nil) (vs := [(.int .i64 10)]) rfl rfl rfl (by intro v hv; simp at hv; rcases hv with rfl <;> rfl)) (fun k2 => ?_)
 refine Cv1 (.cons .h .nil) (own_lit (Ro := (roE rdInt)) (E := 3) (F := ([] ++ [])) (xs := ([10] : List Int)) (MkL_cons (Mk_pure (fun _ => rfl)) MkL_nil apps) rfl rfl) ?_
 refine C_val (V_build ty98.h rfl (vs := [(.slice (some ⟨k2, 0, none⟩) 1 1)]) (.cons (.tmp rfl rfl) .nil) (cells := [(.int .i64 0), (.slice (some ⟨k2, 0, none⟩) 1 1)]) rfl) ?_
 refine C_new rfl (N_buildSliceT (g := true) sl49.h ty98.h (.cons (.tmp rfl rfl) .nil) (vs := [(.agg [(.int .i64 0), (.slice (some ⟨k2, 0, none⟩) 1 1)].toArray)]) rfl rfl rfl (by intro v hv; simp at hv; rcases hv with rfl <;> rfl)) (fun k3 => ?_)
 refine Cv1 (.cons .h (.cons .h .nil)) (own_lit (Ro := ow98) (E := 98) (F := ((k2 :: ([] ++ [])) ++ [])) (xs := ([({ Rel := 0, Terms := ([10] : List Int) } : Atom)] : List Atom)) (MkL_cons (mk98 (v0 := ⟨(some ⟨k2, 0, none⟩), 1, 1⟩) (a := ({ Rel := 0, Terms := ([10] : List Int) } : Atom))) MkL_nil apps) rfl rfl) ?_
 refine C_val (V_build ty51.h rfl (vs := [(.slice (some ⟨k3, 0, none⟩) 1 1)]) (.cons (.tmp rfl rfl) .nil) (cells := [(.slice none 0 0), (.slice (some ⟨k3, 0, none⟩) 1 1)]) rfl) ?_
 refine AnW (fun k4 => ?_)
 refine As (.agg [(.slice none 0 0), (.slice (some ⟨k3, 0, none⟩) 1 1)].toArray) ?_
 iterate 4 refine au ?_
 refine bnd hF fun r5 hx6 hF => Cx0 (s_IsSchema_ok _ _ _ hx6) (fun _ => ?_)
 refine au ?_
 refine Ci hF (fun hb119 hF => ?_) (fun hb119 hF => ?_)
 · iterate 3 refine au ?_
   refine bnd hF fun r8 hx9 hF => Cx3 (s_l3Query_ok _ _ _ _ _ _ _ hx9) (fun p10 => ?_)
   refine As (.agg [p10.1.v, p10.2.2.1.v].toArray) ?_
   iterate 4 refine au ?_
   refine bnd hF fun r11 hx12 hF => Cx1 (s_l1Below_ok _ _ _ _ _ hx12) (fun p13 => ?_)
   refine au ?_
   refine CW_block (K_region (C_val (V_eql (i := r11.1) (j := 0) (.tmp rfl rfl) (.int _ _)) ?_))
   iterate 2 refine au ?_
   refine Ci hF (fun hb64 hF => ?_) (fun hb64 hF => ?_)
   · refine CW_draw [0, 1, 2, 3, 4, 5, 6, 7, 8] [0, 1, 0, 0, 12, 28, 63, 127, 255] [4, 6, 8] mixed (by decide +kernel) ?_
     refine du ?_
     refine D_atO rfl .no (.t .h) (fun ha hp => V_load (v := p10.1.v) ag24.h (EN ha (.tmp rfl rfl) rfl) hp.2 rfl rfl) ?_
     refine du ?_
     refine D_new rfl .no rfl (fun ha => N_buildSliceT (g := true) (len := 4) (parts := [(0, .const (.int .i64 17)), (1, .const (.int .i64 18)), (2, .const (.int .i64 3)), (3, .const (.int .i64 (-1)))]) sl24.h ty3.h (.cons (EN ha (.int _ _) rfl) (.cons (EN ha (.int _ _) rfl) (.cons (EN ha (.int _ _) rfl) (.cons (EN ha (.int _ _) rfl) .nil)))) (vs := [(.int .i64 17), (.int .i64 18), (.int .i64 3), (.int .i64 (-1))]) rfl rfl rfl (by intro v hv; simp at hv; rcases hv with rfl | rfl | rfl | rfl <;> rfl)) (fun k14 => ?_)
     refine Dv1 (.cons .h .nil) (own_lit (Ro := (roE rdInt)) (E := 3) (F := ([] ++ ([] ++ ([] ++ ([] ++ []))))) (xs := ([17, 18, 3, (-1)] : List Int)) (MkL_cons (Mk_pure (fun _ => rfl)) (MkL_cons (Mk_pure (fun _ => rfl)) (MkL_cons (Mk_pure (fun _ => rfl)) (MkL_cons (Mk_pure (fun _ => rfl)) MkL_nil apps) apps) apps) apps) rfl rfl) ?_
     refine bnd hF fun r15 hx16 hF => D_act2 rfl rfl .no (.cons .h (.cons .h (.rd (.t (.t (.t (.t (.t .h))))) rfl .nil))) (.dep rfl (.own .h (fun _ h => h) .nil)) (fun ha => XC_bor frz_own (fun _ => (.cons .nil)) (XC_pre (.cons (.t .h) (.rd (.t .h) rfl (.rd .h rfl .nil))) (X_callS cf90.h (.cons (EN ha (.tmp rfl rfl) rfl) (.cons (EN ha (.tmp rfl rfl) rfl) .nil)) (s_l1PickInt_ok kq0 ({ b := a_c.b, i := r11.2.i, h := r11.2.h } : l1Cur) v0_0 ([17, 18, 3, (-1)] : List Int) (⟨(some ⟨k14, 0, none⟩), 4, 1⟩) _ hx16)))) (fun p17 => ?_)
     refine D_new rfl .no rfl (fun ha => N_buildSliceT (g := true) (len := 1) (parts := [(0, .tmp 23)]) sl24.h ty3.h (.cons (EN ha (.tmp rfl rfl) rfl) .nil) (vs := [(.int .i64 r15.1)]) rfl rfl rfl (by intro v hv; simp at hv; rcases hv with rfl <;> rfl)) (fun k18 => ?_)
     refine Dv1 (.cons .h .nil) (own_lit (Ro := (roE rdInt)) (E := 3) (F := ([] ++ [])) (xs := ([r15.1] : List Int)) (MkL_cons (Mk_pure (fun _ => rfl)) MkL_nil apps) rfl rfl) ?_
     refine bnd hF fun z19 hx20 hF => D_act1 rfl rfl .no (.cons (.t (.t (.t (.t .h)))) (.cons .h .nil)) (.dep rfl (.dep rfl (.dep rfl .nil))) (fun ha => X_appendO (Ro := (roE rdInt)) sl24.h ni24 ty3.h rfl rfl rfl (EN ha (.tmp rfl rfl) rfl) (EN ha (.tmp rfl rfl) rfl) hx20 src_own) (fun p21 => ?_)
     refine du ?_
     refine D_act1 rfl rfl .no (.cons (.t (.t (.t .h))) .nil) (.dep rfl (.dep rfl (.dep rfl .nil))) (fun ha => X_storeB (e' := (.agg [p21.1.v, p10.2.2.1.v].toArray)) ty24.h.sz (EN ha (.tmp rfl rfl) rfl) (EN ha (.tmp rfl rfl) rfl) rfl rfl rfl rfl rfl) (fun _ => ?_)
     refine du ?_
     iterate 2 refine au ?_
     refine As (.agg [p21.1.v, p10.2.2.1.v].toArray) ?_
     iterate 2 refine au ?_
     cases hF
     exact Er (p21.1, p21.2, p10.2.2.1, p10.2.2.2)
   iterate 4 refine au ?_
   refine Ci hF (fun hb63 hF => ?_) (fun hb63 hF => ?_)
   · refine CW_draw [0, 1, 2, 3, 4, 5, 6, 7, 8, 9] [0, 1, 3, 7, 15, 0, 0, 96, 255, 511] [7, 9] mixed (by decide +kernel) ?_
     refine du ?_
     refine D_atO rfl .no (.t .h) (fun ha hp => V_load (v := p10.2.2.1.v) ag49.h (EN ha (.tmp rfl rfl) rfl) hp.2 rfl rfl) ?_
     refine bnd hF fun x22 hx23 hF => ?_
     have hi26 := ix_chk hx23
     obtain ⟨hp24, hx25⟩ := ix_some hx23
     refine D_focus1 (s := 2) un98 hx25 (.t (.t (.t .h))) (fun p27 es28 F29 G30 G31 he32 hl33 => ?_)
     refine D_idxO sl49.h ty98.h.sz rfl .no (.tmp rfl rfl) (.int _ _) rfl rfl .h (idx_len hl33 hi26) (fun k34 hk35 => ?_)
     refine du ?_
     refine D_ldO (w := p27.1.v) ag24.h rfl .no (.tmp rfl rfl) rfl .h hk35 he32 (lo_rawO rfl) ?_
     refine du ?_
     refine D_new rfl .no rfl (fun ha => N_buildSliceT (g := true) (len := 4) (parts := [(0, .const (.int .i64 (-1))), (1, .const (.int .i64 9)), (2, .const (.int .i64 17)), (3, .const (.int .i64 18))]) sl24.h ty3.h (.cons (EN ha (.int _ _) rfl) (.cons (EN ha (.int _ _) rfl) (.cons (EN ha (.int _ _) rfl) (.cons (EN ha (.int _ _) rfl) .nil)))) (vs := [(.int .i64 (-1)), (.int .i64 9), (.int .i64 17), (.int .i64 18)]) rfl rfl rfl (by intro v hv; simp at hv; rcases hv with rfl | rfl | rfl | rfl <;> rfl)) (fun k36 => ?_)
     refine Dv1 (.cons .h .nil) (own_lit (Ro := (roE rdInt)) (E := 3) (F := ([] ++ ([] ++ ([] ++ ([] ++ []))))) (xs := ([(-1), 9, 17, 18] : List Int)) (MkL_cons (Mk_pure (fun _ => rfl)) (MkL_cons (Mk_pure (fun _ => rfl)) (MkL_cons (Mk_pure (fun _ => rfl)) (MkL_cons (Mk_pure (fun _ => rfl)) MkL_nil apps) apps) apps) apps) rfl rfl) ?_
     refine bnd hF fun r37 hx38 hF => D_act2 rfl rfl .no (.cons .h (.cons (.t (.t (.t (.t .h)))) (.rd (.t (.t (.t (.t (.t (.t (.t (.t .h)))))))) rfl .nil))) (.dep rfl (.own .h (fun _ h => h) (.own .h (fun _ h => h) (.own (.t (.t (.t (.t .h)))) (fun _ h => h) .nil)))) (fun ha => XC_bor frz_own (fun _ => (.cons .nil)) (XC_pre (.cons (.t .h) (.rd (.t .h) rfl (.rd .h rfl .nil))) (X_callS cf90.h (.cons (EN ha (.tmp rfl rfl) rfl) (.cons (EN ha (.tmp rfl rfl) rfl) .nil)) (s_l1PickInt_ok kq0 ({ b := a_c.b, i := r11.2.i, h := r11.2.h } : l1Cur) v0_0 ([(-1), 9, 17, 18] : List Int) (⟨(some ⟨k36, 0, none⟩), 4, 1⟩) _ hx38)))) (fun p39 => ?_)
     refine bnd hF fun u43 hx44 hF => ?_
     have hi42 := chk_some hx44
     refine D_idxO sl24.h ty3.h.sz rfl .no (.tmp rfl rfl) (.int _ _) rfl rfl (.t (.t (.t (.t .h)))) hi42 (fun k40 hk41 => ?_)
     refine bnd hF fun z45 hx46 hF => ?_
     replace hx46 := Option.some.inj hx46
     refine D_act1 rfl rfl .no (.cons (.t (.t (.t (.t .h)))) .nil) (.dep rfl (.dep rfl (.dep rfl (.dep rfl (.dep rfl .nil))))) (fun ha => X_storeO (Ro := (roE rdInt)) (a := r37.1) (i := 0) ty3.h.sz rfl (EN ha (.tmp rfl rfl) rfl) (EN ha (.tmp rfl rfl) rfl) hk41 hi42 (Mk_pure (fun _ => rfl)) (fun _ _ _ _ h => by obtain ⟨-, h⟩ := h; cases h; rfl)) (fun F47 => ?_)
     rw [hx46]
     refine bnd hF fun z48 hx49 hF => ?_
     replace hx49 := Option.some.inj hx49
     refine Dv1 (.cons (.t (.t (.t .h))) (.cons (.t (.t (.t .h))) (.cons .h (.cons (.t (.t .h)) .nil)))) (Cv_unfocus (mk98 (a := ({ Rel := x22.Rel, Terms := z45 } : Atom))) he32 hl33) ?_
     rw [hx49]
     refine du ?_
     iterate 2 refine au ?_
     refine As (.agg [p10.1.v, p10.2.2.1.v].toArray) ?_
     iterate 2 refine au ?_
     cases hF
     exact Er (p10.1, p10.2.1, p10.2.2.1, (F29 ++ (G30 ++ (F47 ++ G31))))
   iterate 4 refine au ?_
   refine Ci hF (fun hb62 hF => ?_) (fun hb62 hF => ?_)
   · refine CW_draw [0, 1, 2, 3, 4, 5, 6, 7] [0, 1, 0, 4, 12, 31, 63, 127] [3, 7] mixed (by decide +kernel) ?_
     refine du ?_
     refine D_atO rfl .no (.t .h) (fun ha hp => V_load (v := p10.2.2.1.v) ag49.h (EN ha (.tmp rfl rfl) rfl) hp.2 rfl rfl) ?_
     refine du ?_
     refine bnd hF fun r50 hx51 hF => D_act1 rfl rfl .no (.cons .h (.rd (.t (.t (.t (.t (.t .h))))) rfl .nil)) (.own .h (fun _ h => h) .nil) (fun ha => X_callS cf89.h (.cons (EN ha (.tmp rfl rfl) rfl) (.cons (EN ha (.int _ _) rfl) .nil)) (s_l1Below_ok kq0 ({ b := a_c.b, i := r11.2.i, h := r11.2.h } : l1Cur) v0_0 5 _ hx51)) (fun p52 => ?_)
     refine du ?_
     refine bnd hF fun x56 hx57 hF => ?_
     have hi55 := ix_chk hx57
     obtain ⟨hp58, hx59⟩ := ix_some hx57
     refine D_idxO sl49.h ty98.h.sz rfl .no (.tmp rfl rfl) (.int _ _) rfl rfl (.t (.t (.t .h))) hi55 (fun k53 hk54 => ?_)
     refine du ?_
     refine bnd hF fun z60 hx61 hF => ?_
     replace hx61 := Option.some.inj hx61
     refine D_act1 rfl rfl .no (.cons (.t (.t (.t .h))) .nil) (.dep rfl (.dep rfl .nil)) (fun ha => X_storeF (Ro := ow98) (i := 0) ty3.h.sz rfl (EN ha (.tmp rfl rfl) rfl) (EN ha (.tmp rfl rfl) rfl) hk54 hx59 rfl rfl fsf98_0 (sf98_0 (d := (IntKind.i64.wrap (r50.1 - 1))))) (fun _ => ?_)
     rw [hx61]
     refine du ?_
     iterate 2 refine au ?_
     refine As (.agg [p10.1.v, p10.2.2.1.v].toArray) ?_
     iterate 2 refine au ?_
     cases hF
     exact Er (p10.1, p10.2.1, p10.2.2.1, p10.2.2.2)
   iterate 3 refine au ?_
   refine As (.agg [p10.1.v, p10.2.2.1.v].toArray) ?_
   iterate 2 refine au ?_
   cases hF
   exact Er (p10.1, p10.2.1, p10.2.2.1, p10.2.2.2)
 iterate 4 refine au ?_
 refine bnd hF fun r65 hx66 hF => Cx1 (s_l1Below_ok _ _ _ _ _ hx66) (fun p67 => ?_)
 refine au ?_
 refine CW_block (K_region (C_val (V_eql (i := r65.1) (j := 0) (.tmp rfl rfl) (.int _ _)) ?_))
 iterate 2 refine au ?_
 refine Ci hF (fun hb118 hF => ?_) (fun hb118 hF => ?_)
 · refine CW_draw [0, 1, 2, 3, 4, 5, 6, 7, 8] [0, 1, 0, 0, 12, 28, 63, 127, 255] [4, 6, 8] mixed (by decide +kernel) ?_
   refine du ?_
   refine D_atO rfl .no (.t .h) (fun ha hp => V_load (v := (.slice none 0 0)) ag24.h (EN ha (.tmp rfl rfl) rfl) hp.2 rfl rfl) ?_
   refine du ?_
   refine D_new rfl .no rfl (fun ha => N_buildSliceT (g := true) (len := 4) (parts := [(0, .const (.int .i64 17)), (1, .const (.int .i64 18)), (2, .const (.int .i64 3)), (3, .const (.int .i64 (-1)))]) sl24.h ty3.h (.cons (EN ha (.int _ _) rfl) (.cons (EN ha (.int _ _) rfl) (.cons (EN ha (.int _ _) rfl) (.cons (EN ha (.int _ _) rfl) .nil)))) (vs := [(.int .i64 17), (.int .i64 18), (.int .i64 3), (.int .i64 (-1))]) rfl rfl rfl (by intro v hv; simp at hv; rcases hv with rfl | rfl | rfl | rfl <;> rfl)) (fun k68 => ?_)
   refine Dv1 (.cons .h .nil) (own_lit (Ro := (roE rdInt)) (E := 3) (F := ([] ++ ([] ++ ([] ++ ([] ++ []))))) (xs := ([17, 18, 3, (-1)] : List Int)) (MkL_cons (Mk_pure (fun _ => rfl)) (MkL_cons (Mk_pure (fun _ => rfl)) (MkL_cons (Mk_pure (fun _ => rfl)) (MkL_cons (Mk_pure (fun _ => rfl)) MkL_nil apps) apps) apps) apps) rfl rfl) ?_
   refine bnd hF fun r69 hx70 hF => D_act2 rfl rfl .no (.cons .h (.cons .h (.rd (.t (.t (.t .h))) rfl .nil))) (.dep rfl (.own .h (fun _ h => h) .nil)) (fun ha => XC_bor frz_own (fun _ => (.cons .nil)) (XC_pre (.cons (.t .h) (.rd (.t .h) rfl (.rd .h rfl .nil))) (X_callS cf90.h (.cons (EN ha (.tmp rfl rfl) rfl) (.cons (EN ha (.tmp rfl rfl) rfl) .nil)) (s_l1PickInt_ok kq0 ({ b := a_c.b, i := r65.2.i, h := r65.2.h } : l1Cur) v0_0 ([17, 18, 3, (-1)] : List Int) (⟨(some ⟨k68, 0, none⟩), 4, 1⟩) _ hx70)))) (fun p71 => ?_)
   refine D_new rfl .no rfl (fun ha => N_buildSliceT (g := true) (len := 1) (parts := [(0, .tmp 23)]) sl24.h ty3.h (.cons (EN ha (.tmp rfl rfl) rfl) .nil) (vs := [(.int .i64 r69.1)]) rfl rfl rfl (by intro v hv; simp at hv; rcases hv with rfl <;> rfl)) (fun k72 => ?_)
   refine Dv1 (.cons .h .nil) (own_lit (Ro := (roE rdInt)) (E := 3) (F := ([] ++ [])) (xs := ([r69.1] : List Int)) (MkL_cons (Mk_pure (fun _ => rfl)) MkL_nil apps) rfl rfl) ?_
   refine Dv1 .nil (own_nil (Ro := (roE rdInt)) (E := 3)) ?_
   refine bnd hF fun z73 hx74 hF => D_act1 rfl rfl .no (.cons .h (.cons .h .nil)) (.dep rfl (.dep rfl (.dep rfl .nil))) (fun ha => X_appendO (Ro := (roE rdInt)) sl24.h ni24 ty3.h rfl rfl rfl (EN ha (.tmp rfl rfl) rfl) (EN ha (.tmp rfl rfl) rfl) hx74 src_own) (fun p75 => ?_)
   refine du ?_
   refine D_act1 rfl rfl .no (.cons (.t (.t (.t .h))) .nil) (.dep rfl (.dep rfl (.dep rfl .nil))) (fun ha => X_storeB (e' := (.agg [p75.1.v, (.slice (some ⟨k3, 0, none⟩) 1 1)].toArray)) ty24.h.sz (EN ha (.tmp rfl rfl) rfl) (EN ha (.tmp rfl rfl) rfl) rfl rfl rfl rfl rfl) (fun _ => ?_)
   refine du ?_
   iterate 2 refine au ?_
   refine As (.agg [p75.1.v, (.slice (some ⟨k3, 0, none⟩) 1 1)].toArray) ?_
   iterate 2 refine au ?_
   cases hF
   exact Er (p75.1, p75.2, ⟨(some ⟨k3, 0, none⟩), 1, 1⟩, (k3 :: ((k2 :: ([] ++ [])) ++ [])))
 iterate 4 refine au ?_
 refine Ci hF (fun hb117 hF => ?_) (fun hb117 hF => ?_)
 · refine CW_draw [0, 1, 2, 3, 4, 5, 6, 7, 8, 9] [0, 1, 3, 7, 15, 0, 0, 96, 255, 511] [7, 9] mixed (by decide +kernel) ?_
   refine du ?_
   refine D_atO rfl .no (.t .h) (fun ha hp => V_load (v := (.slice (some ⟨k3, 0, none⟩) 1 1)) ag49.h (EN ha (.tmp rfl rfl) rfl) hp.2 rfl rfl) ?_
   refine bnd hF fun x76 hx77 hF => ?_
   have hi80 := ix_chk hx77
   obtain ⟨hp78, hx79⟩ := ix_some hx77
   refine D_focus1 (s := 2) un98 hx79 (.t (.t .h)) (fun p81 es82 F83 G84 G85 he86 hl87 => ?_)
   refine D_idxO sl49.h ty98.h.sz rfl .no (.tmp rfl rfl) (.int _ _) rfl rfl .h (idx_len hl87 hi80) (fun k88 hk89 => ?_)
   refine du ?_
   refine D_ldO (w := p81.1.v) ag24.h rfl .no (.tmp rfl rfl) rfl .h hk89 he86 (lo_rawO rfl) ?_
   refine du ?_
   refine D_new rfl .no rfl (fun ha => N_buildSliceT (g := true) (len := 4) (parts := [(0, .const (.int .i64 (-1))), (1, .const (.int .i64 9)), (2, .const (.int .i64 17)), (3, .const (.int .i64 18))]) sl24.h ty3.h (.cons (EN ha (.int _ _) rfl) (.cons (EN ha (.int _ _) rfl) (.cons (EN ha (.int _ _) rfl) (.cons (EN ha (.int _ _) rfl) .nil)))) (vs := [(.int .i64 (-1)), (.int .i64 9), (.int .i64 17), (.int .i64 18)]) rfl rfl rfl (by intro v hv; simp at hv; rcases hv with rfl | rfl | rfl | rfl <;> rfl)) (fun k90 => ?_)
   refine Dv1 (.cons .h .nil) (own_lit (Ro := (roE rdInt)) (E := 3) (F := ([] ++ ([] ++ ([] ++ ([] ++ []))))) (xs := ([(-1), 9, 17, 18] : List Int)) (MkL_cons (Mk_pure (fun _ => rfl)) (MkL_cons (Mk_pure (fun _ => rfl)) (MkL_cons (Mk_pure (fun _ => rfl)) (MkL_cons (Mk_pure (fun _ => rfl)) MkL_nil apps) apps) apps) apps) rfl rfl) ?_
   refine bnd hF fun r91 hx92 hF => D_act2 rfl rfl .no (.cons .h (.cons (.t (.t (.t (.t .h)))) (.rd (.t (.t (.t (.t (.t (.t .h)))))) rfl .nil))) (.dep rfl (.own .h (fun _ h => h) (.own .h (fun _ h => h) (.own (.t (.t (.t (.t .h)))) (fun _ h => h) .nil)))) (fun ha => XC_bor frz_own (fun _ => (.cons .nil)) (XC_pre (.cons (.t .h) (.rd (.t .h) rfl (.rd .h rfl .nil))) (X_callS cf90.h (.cons (EN ha (.tmp rfl rfl) rfl) (.cons (EN ha (.tmp rfl rfl) rfl) .nil)) (s_l1PickInt_ok kq0 ({ b := a_c.b, i := r65.2.i, h := r65.2.h } : l1Cur) v0_0 ([(-1), 9, 17, 18] : List Int) (⟨(some ⟨k90, 0, none⟩), 4, 1⟩) _ hx92)))) (fun p93 => ?_)
   refine bnd hF fun u97 hx98 hF => ?_
   have hi96 := chk_some hx98
   refine D_idxO sl24.h ty3.h.sz rfl .no (.tmp rfl rfl) (.int _ _) rfl rfl (.t (.t (.t (.t .h)))) hi96 (fun k94 hk95 => ?_)
   refine bnd hF fun z99 hx100 hF => ?_
   replace hx100 := Option.some.inj hx100
   refine D_act1 rfl rfl .no (.cons (.t (.t (.t (.t .h)))) .nil) (.dep rfl (.dep rfl (.dep rfl (.dep rfl (.dep rfl .nil))))) (fun ha => X_storeO (Ro := (roE rdInt)) (a := r91.1) (i := 0) ty3.h.sz rfl (EN ha (.tmp rfl rfl) rfl) (EN ha (.tmp rfl rfl) rfl) hk95 hi96 (Mk_pure (fun _ => rfl)) (fun _ _ _ _ h => by obtain ⟨-, h⟩ := h; cases h; rfl)) (fun F101 => ?_)
   rw [hx100]
   refine bnd hF fun z102 hx103 hF => ?_
   replace hx103 := Option.some.inj hx103
   refine Dv1 (.cons (.t (.t (.t .h))) (.cons (.t (.t (.t .h))) (.cons .h (.cons (.t (.t .h)) .nil)))) (Cv_unfocus (mk98 (a := ({ Rel := x76.Rel, Terms := z99 } : Atom))) he86 hl87) ?_
   rw [hx103]
   refine du ?_
   iterate 2 refine au ?_
   refine As (.agg [(.slice none 0 0), (.slice (some ⟨k3, 0, none⟩) 1 1)].toArray) ?_
   iterate 2 refine au ?_
   cases hF
   exact End_ret (⟨none, 0, 0⟩, [], ⟨(some ⟨k3, 0, none⟩), 1, 1⟩, (F83 ++ (G84 ++ (F101 ++ G85)))) (.cellA rfl rfl .h rfl ag51.h ty51.h.sz rfl rfl .nil) rfl (.conv .nil (own_nil (Ro := (roE rdInt)) (E := 3)) (.cons .nil) (.sel (.cons .h (.cons (.t .h) (.cons (.t (.t .h)) .nil)))))
 iterate 4 refine au ?_
 refine Ci hF (fun hb116 hF => ?_) (fun hb116 hF => ?_)
 · refine CW_draw [0, 1, 2, 3, 4, 5, 6, 7] [0, 1, 0, 4, 12, 31, 63, 127] [3, 7] mixed (by decide +kernel) ?_
   refine du ?_
   refine D_atO rfl .no (.t .h) (fun ha hp => V_load (v := (.slice (some ⟨k3, 0, none⟩) 1 1)) ag49.h (EN ha (.tmp rfl rfl) rfl) hp.2 rfl rfl) ?_
   refine du ?_
   refine bnd hF fun r104 hx105 hF => D_act1 rfl rfl .no (.cons .h (.rd (.t (.t (.t .h))) rfl .nil)) (.own .h (fun _ h => h) .nil) (fun ha => X_callS cf89.h (.cons (EN ha (.tmp rfl rfl) rfl) (.cons (EN ha (.int _ _) rfl) .nil)) (s_l1Below_ok kq0 ({ b := a_c.b, i := r65.2.i, h := r65.2.h } : l1Cur) v0_0 5 _ hx105)) (fun p106 => ?_)
   refine du ?_
   refine bnd hF fun x110 hx111 hF => ?_
   have hi109 := ix_chk hx111
   obtain ⟨hp112, hx113⟩ := ix_some hx111
   refine D_idxO sl49.h ty98.h.sz rfl .no (.tmp rfl rfl) (.int _ _) rfl rfl (.t (.t .h)) hi109 (fun k107 hk108 => ?_)
   refine du ?_
   refine bnd hF fun z114 hx115 hF => ?_
   replace hx115 := Option.some.inj hx115
   refine D_act1 rfl rfl .no (.cons (.t (.t .h)) .nil) (.dep rfl (.dep rfl .nil)) (fun ha => X_storeF (Ro := ow98) (i := 0) ty3.h.sz rfl (EN ha (.tmp rfl rfl) rfl) (EN ha (.tmp rfl rfl) rfl) hk108 hx113 rfl rfl fsf98_0 (sf98_0 (d := (IntKind.i64.wrap (r104.1 - 1))))) (fun _ => ?_)
   rw [hx115]
   refine du ?_
   iterate 2 refine au ?_
   refine As (.agg [(.slice none 0 0), (.slice (some ⟨k3, 0, none⟩) 1 1)].toArray) ?_
   iterate 2 refine au ?_
   cases hF
   exact End_ret (⟨none, 0, 0⟩, [], ⟨(some ⟨k3, 0, none⟩), 1, 1⟩, (k3 :: ((k2 :: ([] ++ [])) ++ []))) (.cellA rfl rfl .h rfl ag51.h ty51.h.sz rfl rfl .nil) rfl (.conv .nil (own_nil (Ro := (roE rdInt)) (E := 3)) (.cons .nil) (.sel (.cons .h (.cons (.t .h) (.cons (.t .h) .nil)))))
 iterate 3 refine au ?_
 refine As (.agg [(.slice none 0 0), (.slice (some ⟨k3, 0, none⟩) 1 1)].toArray) ?_
 iterate 2 refine au ?_
 cases hF
 exact End_ret (⟨none, 0, 0⟩, [], ⟨(some ⟨k3, 0, none⟩), 1, 1⟩, (k3 :: ((k2 :: ([] ++ [])) ++ []))) (.cellA rfl rfl .h rfl ag51.h ty51.h.sz rfl rfl .nil) rfl (.conv .nil (own_nil (Ro := (roE rdInt)) (E := 3)) (.cons .nil) (.sel (.cons .h (.cons (.t (.t (.t .h))) (.cons (.t .h) .nil)))))
def s_l2AnySchema (a_c : l1Cur) : Option ((List Int) × l1Cur) :=
 (s_l2Schema a_c).bind fun r1 =>
 (s_l1Once ({ b := a_c.b, i := r1.2.i, h := r1.2.h } : l1Cur) 14).bind fun r4 =>
 if r4.1 then (
   (s_l1PickInt ({ b := a_c.b, i := r4.2.i, h := r4.2.h } : l1Cur) ([0, 1, 4] : List Int)).bind fun r8 =>
   (app r1.1 ([r8.1] : List Int)).bind fun z12 =>
   some (z12, ({ b := a_c.b, i := r8.2.i, h := r8.2.h } : l1Cur)))
 else (
   some (r1.1, ({ b := a_c.b, i := r4.2.i, h := r4.2.h } : l1Cur)))
theorem s_l2AnySchema_ok (kq0 : Nat) (a_c : l1Cur) (v0_0 : Sv) (R : (List Int) × l1Cur) (hF : s_l2AnySchema a_c = some R) :
   Fw.Spec Tryz.prog 234 [(pz kq0)] [cbox kq0 112 (.agg [v0_0.v, (.int .i64 a_c.i), (.int .i64 a_c.h)].toArray), crd (RdS 5 rdU8) v0_0.v a_c.b] (fun p : Sv × List Nat => p.1.v) (fun p => [cown (OwnS 3 (roE rdInt)) p.2 p.1.v R.1, cbox kq0 112 (.agg [v0_0.v, (.int .i64 R.2.i), (.int .i64 R.2.h)].toArray)]) := by
 refine Se 15 Tryz.func234 [.tmp 2] ?_
 intro H0 F0
 unfold s_l2AnySchema at hF
 iterate 5 refine au ?_
 refine bnd hF fun r1 hx2 hF => Cx2 (s_l2Schema_ok _ _ _ _ hx2) (fun p3 => ?_)
 iterate 5 refine au ?_
 refine bnd hF fun r4 hx5 hF => Cx1 (s_l1Once_ok _ _ _ _ _ hx5) (fun p6 => ?_)
 refine au ?_
 refine Ci hF (fun hb15 hF => ?_) (fun hb15 hF => ?_)
 · iterate 3 refine au ?_
   refine C_new rfl (N_buildSliceT (g := true) sl24.h ty3.h (.cons (.int _ _) (.cons (.int _ _) (.cons (.int _ _) .nil))) (vs := [(.int .i64 0), (.int .i64 1), (.int .i64 4)]) rfl rfl rfl (by intro v hv; simp at hv; rcases hv with rfl | rfl | rfl <;> rfl)) (fun k7 => ?_)
   refine Cv1 (.cons .h .nil) (own_lit (Ro := (roE rdInt)) (E := 3) (F := ([] ++ ([] ++ ([] ++ [])))) (xs := ([0, 1, 4] : List Int)) (MkL_cons (Mk_pure (fun _ => rfl)) (MkL_cons (Mk_pure (fun _ => rfl)) (MkL_cons (Mk_pure (fun _ => rfl)) MkL_nil apps) apps) apps) rfl rfl) ?_
   refine bnd hF fun r8 hx9 hF => C_x2 (.cons .h (.cons .h (.rd (.t .h) rfl .nil))) (XC_bor frz_own (fun _ => (.cons .nil)) (XC_pre (.cons (.t .h) (.rd (.t .h) rfl (.rd .h rfl .nil))) (X_callS cf90.h (.cons (.tmp rfl rfl) (.cons (.tmp rfl rfl) .nil)) (s_l1PickInt_ok kq0 ({ b := a_c.b, i := r4.2.i, h := r4.2.h } : l1Cur) v0_0 ([0, 1, 4] : List Int) (⟨(some ⟨k7, 0, none⟩), 3, 1⟩) _ hx9)))) (fun p10 => ?_)
   refine C_new rfl (N_buildSliceT (g := true) sl24.h ty3.h (.cons (.tmp rfl rfl) .nil) (vs := [(.int .i64 r8.1)]) rfl rfl rfl (by intro v hv; simp at hv; rcases hv with rfl <;> rfl)) (fun k11 => ?_)
   refine Cv1 (.cons .h .nil) (own_lit (Ro := (roE rdInt)) (E := 3) (F := ([] ++ [])) (xs := ([r8.1] : List Int)) (MkL_cons (Mk_pure (fun _ => rfl)) MkL_nil apps) rfl rfl) ?_
   refine bnd hF fun z12 hx13 hF => C_x1 (.cons (.t (.t (.t .h))) (.cons .h .nil)) (X_appendO (Ro := (roE rdInt)) sl24.h ni24 ty3.h rfl rfl rfl (.tmp rfl rfl) (.tmp rfl rfl) hx13 src_own) (fun p14 => ?_)
   iterate 7 refine au ?_
   cases hF
   exact Er (p14.1, p14.2)
 iterate 6 refine au ?_
 cases hF
 exact Er (p3.1, p3.2)
def s_l6Draw (fuel : Nat) (a_c : l1Cur) : Option ((List Int) × (List Method) × Query × l1Cur) :=
 (s_l2Schema a_c).bind fun r2 =>
 (s_l5Methods fuel ({ b := a_c.b, i := r2.2.i, h := r2.2.h } : l1Cur) r2.1).bind fun r5 =>
 (s_l3Query fuel ({ b := a_c.b, i := r5.2.i, h := r5.2.h } : l1Cur) r2.1).bind fun r8 =>
 (s_l1Below ({ b := a_c.b, i := r8.2.i, h := r8.2.h } : l1Cur) 20).bind fun r12 =>
 if ((r12.1 : Int) == 0) then (
   (s_l5AnyMethod fuel ({ b := a_c.b, i := r12.2.i, h := r12.2.h } : l1Cur) r2.1).bind fun r15 =>
   (app r5.1 ([r15.1] : List Method)).bind fun z19 =>
   some (r2.1, z19, r8.1, ({ b := a_c.b, i := r15.2.i, h := r15.2.h } : l1Cur)))
 else (
   if ((r12.1 : Int) == 1) then (
     (s_l3Any fuel ({ b := a_c.b, i := r12.2.i, h := r12.2.h } : l1Cur) r2.1).bind fun r22 =>
     some (r2.1, r5.1, r22.1, ({ b := a_c.b, i := r22.2.i, h := r22.2.h } : l1Cur)))
   else (
     if ((r12.1 : Int) == 2) then (
       (s_l2AnySchema ({ b := a_c.b, i := r12.2.i, h := r12.2.h } : l1Cur)).bind fun r25 =>
       some (r25.1, r5.1, r8.1, ({ b := a_c.b, i := r25.2.i, h := r25.2.h } : l1Cur)))
     else (
       some (r2.1, r5.1, r8.1, ({ b := a_c.b, i := r12.2.i, h := r12.2.h } : l1Cur)))))
theorem s_l6Draw_ok (fuel : Nat) (kq0 : Nat) (a_c : l1Cur) (v0_0 : Sv) (R : (List Int) × (List Method) × Query × l1Cur) (hF : s_l6Draw fuel a_c = some R) :
   Fw.Spec Tryz.prog 186 [(pz kq0)] [cbox kq0 112 (.agg [v0_0.v, (.int .i64 a_c.i), (.int .i64 a_c.h)].toArray), crd (RdS 5 rdU8) v0_0.v a_c.b] (fun p : Sv × List Nat × Sv × List Nat × Sv × List Nat × Sv × List Nat => (.tuple [p.1.v, p.2.2.1.v, (.agg [p.2.2.2.2.1.v, p.2.2.2.2.2.2.1.v].toArray)].toArray)) (fun p => [cown (OwnS 3 (roE rdInt)) p.2.1 p.1.v R.1, cown (OwnS 73 ow73) p.2.2.2.1 p.2.2.1.v R.2.1, cown (OwnS 3 (roE rdInt)) p.2.2.2.2.2.1 p.2.2.2.2.1.v R.2.2.1.Head, cown (OwnS 98 ow98) p.2.2.2.2.2.2.2 p.2.2.2.2.2.2.1.v R.2.2.1.Atoms, cbox kq0 112 (.agg [v0_0.v, (.int .i64 R.2.2.2.i), (.int .i64 R.2.2.2.h)].toArray)]) := by
 refine Se 38 Tryz.func186 [.tmp 2, .tmp 3, .cell 4 51] ?_
 intro H0 F0
 unfold s_l6Draw at hF
 iterate 3 refine au ?_
 refine AnW (fun k1 => ?_)
 iterate 3 refine au ?_
 refine bnd hF fun r2 hx3 hF => Cx2 (s_l2Schema_ok _ _ _ _ hx3) (fun p4 => ?_)
 iterate 5 refine au ?_
 refine bnd hF fun r5 hx6 hF => C_x3 (.cons .h (.cons .h (.rd (.t .h) rfl .nil))) (XC_bor frz_own (fun _ => (.cons (.cons .nil))) (XC_pre (.cons (.t .h) (.rd (.t .h) rfl (.rd .h rfl .nil))) (X_callS cf231.h (.cons (.tmp rfl rfl) (.cons (.tmp rfl rfl) .nil)) (s_l5Methods_ok fuel kq0 ({ b := a_c.b, i := r2.2.i, h := r2.2.h } : l1Cur) v0_0 r2.1 p4.1 _ hx6)))) (fun p7 => ?_)
 iterate 5 refine au ?_
 refine bnd hF fun r8 hx9 hF => C_x4 (.cons .h (.cons (.t .h) (.rd (.t (.t .h)) rfl .nil))) (XC_bor frz_own (fun _ => (.cons (.cons (.cons .nil)))) (XC_pre (.cons (.t .h) (.rd (.t .h) rfl (.rd .h rfl .nil))) (X_callS cf163.h (.cons (.tmp rfl rfl) (.cons (.tmp rfl rfl) .nil)) (s_l3Query_ok fuel kq0 ({ b := a_c.b, i := r5.2.i, h := r5.2.h } : l1Cur) v0_0 r2.1 p4.1 _ hx9)))) (fun p10 => ?_)
 refine AnW (fun k11 => ?_)
 refine As (.agg [p10.1.v, p10.2.2.1.v].toArray) ?_
 iterate 4 refine au ?_
 refine bnd hF fun r12 hx13 hF => Cx1 (s_l1Below_ok _ _ _ _ _ hx13) (fun p14 => ?_)
 refine au ?_
 refine CW_block (K_region (C_val (V_eql (i := r12.1) (j := 0) (.tmp rfl rfl) (.int _ _)) ?_))
 iterate 2 refine au ?_
 refine Ci hF (fun hb30 hF => ?_) (fun hb30 hF => ?_)
 · iterate 4 refine au ?_
   refine bnd hF fun r15 hx16 hF => C_x3 (.cons (.t (.t .h)) (.cons .h (.rd (.t (.t (.t (.t (.t .h))))) rfl .nil))) (XC_bor frz_own (fun _ => (.cons (.cons .nil))) (XC_pre (.cons (.t .h) (.rd (.t .h) rfl (.rd .h rfl .nil))) (X_callS cf232.h (.cons (.tmp rfl rfl) (.cons (.tmp rfl rfl) .nil)) (s_l5AnyMethod_ok fuel kq0 ({ b := a_c.b, i := r12.2.i, h := r12.2.h } : l1Cur) v0_0 r2.1 p4.1 _ hx16)))) (fun p17 => ?_)
   refine C_new rfl (N_buildSliceT (g := true) sl25.h ty73.h (.cons (.tmp rfl rfl) .nil) (vs := [(.agg [(.int .i64 r15.1.Rel), p17.1.v, (.int .i64 r15.1.Limit), (.int .i64 r15.1.Cost), (.int .i64 r15.1.Quota)].toArray)]) rfl rfl rfl (by intro v hv; simp at hv; rcases hv with rfl <;> rfl)) (fun k18 => ?_)
   refine Cv1 (.cons .h (.cons (.t .h) .nil)) (own_lit (Ro := ow73) (E := 73) (F := (p17.2 ++ [])) (xs := ([r15.1] : List Method)) (MkL_cons mk73 MkL_nil apps) rfl rfl) ?_
   refine bnd hF fun z19 hx20 hF => C_x1 (.cons (.t (.t (.t (.t (.t (.t .h)))))) (.cons .h .nil)) (X_appendO (Ro := ow73) sl25.h ni25 ty73.h rfl rfl rfl (.tmp rfl rfl) (.tmp rfl rfl) hx20 src_own) (fun p21 => ?_)
   iterate 2 refine au ?_
   refine K_draw [0, 1, 2, 3, 4, 5] [0, 0, 0, 1, 11, 31] [5] mixed (by decide +kernel) ?_
   iterate 2 refine du ?_
   refine D_atO rfl .no (.t (.t (.t .h))) (fun ha hp => V_loadBox ag51.h ty51.h.sz rfl (EN ha (.tmp rfl rfl) rfl) hp.2 rfl) ?_
   iterate 2 refine du ?_
   refine D_act1 rfl rfl .no (.cons (.t (.t (.t (.t (.t (.t .h)))))) .nil) (.dep rfl .nil) (fun ha => X_storeB (e' := (.agg [p10.1.v, p10.2.2.1.v].toArray)) (v := (.agg [p10.1.v, p10.2.2.1.v].toArray)) ty51.h.sz (EN ha (.tmp rfl rfl) rfl) (EN ha (.tmp rfl rfl) rfl) rfl rfl rfl rfl rfl) (fun _ => ?_)
   refine du ?_
   refine au ?_
   cases hF
   exact End_ret (p4.1, p4.2, p21.1, p21.2, p10.1, p10.2.1, p10.2.2.1, p10.2.2.2) (.tmp rfl rfl (.tmp rfl rfl (.cellA rfl rfl .h rfl ag51.h ty51.h.sz rfl rfl .nil))) rfl (.sel (.cons (.t (.t .h)) (.cons (.t .h) (.cons (.t (.t (.t .h))) (.cons (.t (.t (.t .h))) (.cons (.t .h) .nil))))))
 iterate 4 refine au ?_
 refine Ci hF (fun hb29 hF => ?_) (fun hb29 hF => ?_)
 · iterate 3 refine au ?_
   refine bnd hF fun r22 hx23 hF => C_x4 (.cons (.t (.t .h)) (.cons .h (.rd (.t (.t (.t (.t (.t .h))))) rfl .nil))) (XC_bor frz_own (fun _ => (.cons (.cons (.cons .nil)))) (XC_pre (.cons (.t .h) (.rd (.t .h) rfl (.rd .h rfl .nil))) (X_callS cf233.h (.cons (.tmp rfl rfl) (.cons (.tmp rfl rfl) .nil)) (s_l3Any_ok fuel kq0 ({ b := a_c.b, i := r12.2.i, h := r12.2.h } : l1Cur) v0_0 r2.1 p4.1 _ hx23)))) (fun p24 => ?_)
   refine As (.agg [p24.1.v, p24.2.2.1.v].toArray) ?_
   refine au ?_
   refine K_draw [0, 1, 2, 3, 4, 5] [0, 0, 0, 1, 11, 31] [5] mixed (by decide +kernel) ?_
   iterate 2 refine du ?_
   refine D_atO rfl .no .h (fun ha hp => V_loadBox ag51.h ty51.h.sz rfl (EN ha (.tmp rfl rfl) rfl) hp.2 rfl) ?_
   iterate 2 refine du ?_
   refine D_act1 rfl rfl .no (.cons (.t (.t (.t (.t (.t (.t (.t (.t .h)))))))) .nil) (.dep rfl .nil) (fun ha => X_storeB (e' := (.agg [p24.1.v, p24.2.2.1.v].toArray)) (v := (.agg [p24.1.v, p24.2.2.1.v].toArray)) ty51.h.sz (EN ha (.tmp rfl rfl) rfl) (EN ha (.tmp rfl rfl) rfl) rfl rfl rfl rfl rfl) (fun _ => ?_)
   refine du ?_
   refine au ?_
   cases hF
   exact End_ret (p4.1, p4.2, p7.1, p7.2, p24.1, p24.2.1, p24.2.2.1, p24.2.2.2) (.tmp rfl rfl (.tmp rfl rfl (.cellA rfl rfl .h rfl ag51.h ty51.h.sz rfl rfl .nil))) rfl (.sel (.cons (.t (.t .h)) (.cons (.t (.t (.t (.t (.t (.t (.t .h))))))) (.cons (.t (.t .h)) (.cons (.t (.t .h)) (.cons (.t (.t .h)) .nil))))))
 iterate 4 refine au ?_
 refine Ci hF (fun hb28 hF => ?_) (fun hb28 hF => ?_)
 · iterate 2 refine au ?_
   refine bnd hF fun r25 hx26 hF => Cx2 (s_l2AnySchema_ok _ _ _ _ hx26) (fun p27 => ?_)
   iterate 2 refine au ?_
   refine K_draw [0, 1, 2, 3, 4, 5] [0, 0, 0, 1, 11, 31] [5] mixed (by decide +kernel) ?_
   iterate 2 refine du ?_
   refine D_atO rfl .no (.t (.t .h)) (fun ha hp => V_loadBox ag51.h ty51.h.sz rfl (EN ha (.tmp rfl rfl) rfl) hp.2 rfl) ?_
   iterate 2 refine du ?_
   refine D_act1 rfl rfl .no (.cons (.t (.t (.t (.t (.t (.t (.t .h))))))) .nil) (.dep rfl .nil) (fun ha => X_storeB (e' := (.agg [p10.1.v, p10.2.2.1.v].toArray)) (v := (.agg [p10.1.v, p10.2.2.1.v].toArray)) ty51.h.sz (EN ha (.tmp rfl rfl) rfl) (EN ha (.tmp rfl rfl) rfl) rfl rfl rfl rfl rfl) (fun _ => ?_)
   refine du ?_
   refine au ?_
   cases hF
   exact End_ret (p27.1, p27.2, p7.1, p7.2, p10.1, p10.2.1, p10.2.2.1, p10.2.2.2) (.tmp rfl rfl (.tmp rfl rfl (.cellA rfl rfl .h rfl ag51.h ty51.h.sz rfl rfl .nil))) rfl (.sel (.cons (.t .h) (.cons (.t (.t (.t (.t (.t (.t .h)))))) (.cons (.t (.t (.t (.t .h)))) (.cons (.t (.t (.t (.t .h)))) (.cons (.t .h) .nil))))))
 refine au ?_
 refine K_draw [0, 1, 2, 3, 4, 5] [0, 0, 0, 1, 11, 31] [5] mixed (by decide +kernel) ?_
 iterate 2 refine du ?_
 refine D_atO rfl .no (.t .h) (fun ha hp => V_loadBox ag51.h ty51.h.sz rfl (EN ha (.tmp rfl rfl) rfl) hp.2 rfl) ?_
 iterate 2 refine du ?_
 refine D_act1 rfl rfl .no (.cons (.t (.t (.t (.t (.t (.t .h)))))) .nil) (.dep rfl .nil) (fun ha => X_storeB (e' := (.agg [p10.1.v, p10.2.2.1.v].toArray)) (v := (.agg [p10.1.v, p10.2.2.1.v].toArray)) ty51.h.sz (EN ha (.tmp rfl rfl) rfl) (EN ha (.tmp rfl rfl) rfl) rfl rfl rfl rfl rfl) (fun _ => ?_)
 refine du ?_
 refine au ?_
 cases hF
 exact End_ret (p4.1, p4.2, p7.1, p7.2, p10.1, p10.2.1, p10.2.2.1, p10.2.2.2) (.tmp rfl rfl (.tmp rfl rfl (.cellA rfl rfl .h rfl ag51.h ty51.h.sz rfl rfl .nil))) rfl (.sel (.cons (.t (.t (.t .h))) (.cons (.t (.t (.t (.t (.t .h))))) (.cons (.t (.t (.t .h))) (.cons (.t (.t (.t .h))) (.cons (.t .h) .nil))))))
def s_l3Atom (a_rel : Int) (a_terms : List Int) : Option (Atom) :=
 (app ([] : List Int) a_terms).bind fun z3 =>
 some ({ Rel := a_rel, Terms := z3 } : Atom)
theorem s_l3Atom_ok (a_rel : Int) (a_terms : List Int) (v1_0 : Sv) (R : Atom) (hF : s_l3Atom a_rel a_terms = some R) :
   Fw.Spec Tryz.prog 235 [(.int .i64 a_rel), v1_0.v] [crd (RdS 3 rdInt) v1_0.v a_terms] (fun p : Sv × List Nat => (.agg [(.int .i64 R.Rel), p.1.v].toArray)) (fun p => [cown (OwnS 3 (roE rdInt)) p.2 p.1.v R.Terms]) := by
 refine Se 10 Tryz.func235 [.cell 4 98] ?_
 intro H0 F0
 unfold s_l3Atom at hF
 refine au ?_
 refine AnW (fun k1 => ?_)
 iterate 3 refine au ?_
 refine C_new rfl (N_buildSliceT (g := true) sl24.h ty3.h .nil (vs := []) rfl rfl rfl (by simp)) (fun k2 => ?_)
 refine Cv1 (.cons .h .nil) (own_lit (Ro := (roE rdInt)) (E := 3) (F := []) (xs := ([] : List Int)) MkL_nil rfl rfl) ?_
 refine au ?_
 refine bnd hF fun z3 hx4 hF => C_x1 (.cons .h (.rd (.t .h) rfl .nil)) (X_appendO (Ro := (roE rdInt)) sl24.h ni24 ty3.h rfl rfl rfl (.tmp rfl rfl) (.tmp rfl rfl) hx4 src_rd) (fun p5 => ?_)
 refine C_val (V_build ty98.h rfl (vs := [(.int .i64 a_rel), p5.1.v]) (.cons (.tmp rfl rfl) (.cons (.tmp rfl rfl) .nil)) (cells := [(.int .i64 a_rel), p5.1.v]) rfl) ?_
 refine As (.agg [(.int .i64 a_rel), p5.1.v].toArray) ?_
 iterate 2 refine au ?_
 cases hF
 exact Er (p5.1, p5.2)
def s_l9Rich (fuel : Nat) (a_c : l1Cur) (a_s : List Int) : Option (Query × l1Cur) :=
 (s_l3Query fuel a_c a_s).bind fun r2 =>
 (bif (decide (((r2.1.Atoms.length : Int) : Int) < 4)) then ((s_l1Once ({ b := a_c.b, i := r2.2.i, h := r2.2.h } : l1Cur) 2).bind fun r9 =>
     some (r9.2.i, r9.2.h, r9.1))
   else (some (r2.2.i, r2.2.h, false))).bind fun o6 =>
 match o6 with
 | (c12, c13, c14) => if c14 then (
     (ix r2.1.Atoms 0).bind fun x18 =>
     (s_l3Atom x18.Rel x18.Terms).bind fun r24 =>
     (chk (decide (0 ≤ 0) && decide (0 < (r24.Terms.length : Int)))).bind fun u31 =>
     (some (r24.Terms.set (0 : Int).toNat 15)).bind fun z33 =>
     (app r2.1.Atoms ([({ Rel := r24.Rel, Terms := z33 } : Atom)] : List Atom)).bind fun z37 =>
     some (({ Head := r2.1.Head, Atoms := z37 } : Query), ({ b := a_c.b, i := c12, h := c13 } : l1Cur)))
   else (
     some (r2.1, ({ b := a_c.b, i := c12, h := c13 } : l1Cur)))
theorem s_l9Rich_ok (fuel : Nat) (kq0 : Nat) (a_c : l1Cur) (v0_0 : Sv) (a_s : List Int) (v1_0 : Sv) (R : Query × l1Cur) (hF : s_l9Rich fuel a_c a_s = some R) :
   Fw.Spec Tryz.prog 188 [(pz kq0), v1_0.v] [cbox kq0 112 (.agg [v0_0.v, (.int .i64 a_c.i), (.int .i64 a_c.h)].toArray), crd (RdS 5 rdU8) v0_0.v a_c.b, crd (RdS 3 rdInt) v1_0.v a_s] (fun p : Sv × List Nat × Sv => (.agg [p.1.v, p.2.2.v].toArray)) (fun p => [cown (OwnS 3 (roE rdInt)) p.2.1 p.1.v R.1.Head, crd (RdS 98 rd98) p.2.2.v R.1.Atoms, cbox kq0 112 (.agg [v0_0.v, (.int .i64 R.2.i), (.int .i64 R.2.h)].toArray)]) := by
 refine Se 38 Tryz.func188 [.cell 4 51] ?_
 intro H0 F0
 unfold s_l9Rich at hF
 refine au ?_
 refine AnW (fun k1 => ?_)
 iterate 4 refine au ?_
 refine bnd hF fun r2 hx3 hF => Cx3 (s_l3Query_ok _ _ _ _ _ _ _ hx3) (fun p4 => ?_)
 refine AnW (fun k5 => ?_)
 refine As (.agg [p4.1.v, p4.2.2.1.v].toArray) ?_
 iterate 2 refine au ?_
 obtain ⟨o6, hio6, hO7⟩ := bind_some hF
 refine au ?_
 refine C_cut (fun f' cs' => ∃ (c12 : Int) (c13 : Int) (c14 : Bool) (g : Fr), o6 = (c12, c13, c14) ∧ f' = updL g [(0, (pz kq0)), (4, (pz k1)), (5, (pz k5)), (18, (.bool c14))] ∧ Ent cs' [cbox kq0 112 (.agg [v0_0.v, (.int .i64 c12), (.int .i64 c13)].toArray), crd (RdS 5 rdU8) v0_0.v a_c.b, cbox k1 51 (.agg [(.slice none 0 0), (.slice none 0 0)].toArray), cbox k5 51 (.agg [p4.1.v, p4.2.2.1.v].toArray), cown (OwnS 3 (roE rdInt)) p4.2.1 p4.1.v r2.1.Head, cown (OwnS 98 ow98) p4.2.2.2 p4.2.2.1.v r2.1.Atoms]) ?_ ?_
 · replace hF := hio6
   iterate 5 refine au ?_
   rcases Bool.eq_false_or_eq_true (decide (((r2.1.Atoms.length : Int) : Int) < 4)) with hg8 | hg8
   · rw [hg8]
     try rw [hg8] at hF; dsimp only [cond_true, cond_false] at hF
     iterate 3 refine au ?_
     refine bnd hF fun r9 hx10 hF => Cx1 (s_l1Once_ok _ _ _ _ _ hx10) (fun p11 => ?_)
     iterate 2 refine au ?_
     cases hF
     exact ⟨_, _, _, _, rfl, eqA, entA⟩
   rw [hg8]
   try rw [hg8] at hF; dsimp only [cond_true, cond_false] at hF
   iterate 4 refine au ?_
   cases hF
   exact ⟨_, _, _, _, rfl, eqA, entA⟩
 rintro _ _ ⟨c12, c13, c14, g41, rfl, rfl, hE⟩
 replace hF := hO7
 try dsimp only at hF
 refine K_ent hE ?_
 refine Ci hF (fun hb40 hF => ?_) (fun hb40 hF => ?_)
 · refine K_half (.t (.t (.t (.t (.t .h))))) ?_
   iterate 3 refine au ?_
   refine bnd hF fun x18 hx19 hF => ?_
   have hi17 := ix_chk hx19
   obtain ⟨hp20, hx21⟩ := ix_some hx19
   refine C_idxO sl49.h ty98.h.sz (.tmp rfl rfl) (.int _ _) .h hi17 (fun k15 hk16 => ?_)
   refine C_ldOA1 (ul98_0_98 x18) ag98.h ty98.h.sz rfl (.tmp rfl rfl) .h hk16 hx21 la98_0_98 (fun p22 => ?_)
   refine AnW (fun k23 => ?_)
   refine As (.agg [(.int .i64 x18.Rel), p22.v].toArray) ?_
   iterate 6 refine au ?_
   refine bnd hF fun r24 hx25 hF => Cx1 (s_l3Atom_ok _ _ _ _ hx25) (fun p26 => ?_)
   refine AnW (fun k27 => ?_)
   refine As (.agg [(.int .i64 r24.Rel), p26.1.v].toArray) ?_
   iterate 4 refine au ?_
   refine bnd hF fun u31 hx32 hF => ?_
   have hi30 := chk_some hx32
   refine C_idxO sl24.h ty3.h.sz (.tmp rfl rfl) (.int _ _) (.t .h) hi30 (fun k28 hk29 => ?_)
   refine bnd hF fun z33 hx34 hF => ?_
   replace hx34 := Option.some.inj hx34
   refine C_x1 (.cons (.t .h) .nil) (X_storeO (Ro := (roE rdInt)) (a := 15) (i := 0) ty3.h.sz rfl (.tmp rfl rfl) (.int _ _) hk29 hi30 (Mk_pure (fun _ => rfl)) (fun _ _ _ _ h => by obtain ⟨-, h⟩ := h; cases h; rfl)) (fun F35 => ?_)
   rw [hx34]
   iterate 5 refine au ?_
   refine C_new rfl (N_buildSliceT (g := true) sl49.h ty98.h (.cons (.tmp rfl rfl) .nil) (vs := [(.agg [(.int .i64 r24.Rel), p26.1.v].toArray)]) rfl rfl rfl (by intro v hv; simp at hv; rcases hv with rfl <;> rfl)) (fun k36 => ?_)
   refine Cv1 (.cons .h (.cons .h .nil)) (own_lit (Ro := ow98) (E := 98) (F := (F35 ++ [])) (xs := ([({ Rel := r24.Rel, Terms := z33 } : Atom)] : List Atom)) (MkL_cons (mk98 (a := ({ Rel := r24.Rel, Terms := z33 } : Atom))) MkL_nil apps) rfl rfl) ?_
   refine C_frz .h frz_own ?_
   refine bnd hF fun z37 hx38 hF => C_x1 (.cons (.t (.t (.t (.t .h)))) (.rd .h rfl .nil)) (X_appendO (Ro := (roE rd98)) sl49.h ni49 ty98.h rfl rfl rfl (.tmp rfl rfl) (.tmp rfl rfl) hx38 src_rd) (fun p39 => ?_)
   refine au ?_
   refine As (.agg [p4.1.v, p39.1.v].toArray) ?_
   iterate 3 refine au ?_
   refine As (.agg [p4.1.v, p39.1.v].toArray) ?_
   iterate 2 refine au ?_
   cases hF
   exact End_ret (p4.1, p4.2.1, p39.1) (.cellA rfl rfl .h rfl ag51.h ty51.h.sz rfl rfl .nil) rfl (.frz (.t (.t .h)) frz_own (.sel (.cons (.t (.t (.t (.t (.t (.t (.t (.t (.t .h))))))))) (.rd .h rfl (.cons (.t (.t (.t (.t (.t (.t (.t .h))))))) .nil)))))
 iterate 3 refine au ?_
 refine As (.agg [p4.1.v, p4.2.2.1.v].toArray) ?_
 iterate 2 refine au ?_
 cases hF
 exact End_ret (p4.1, p4.2.1, p4.2.2.1) (.cellA rfl rfl .h rfl ag51.h ty51.h.sz rfl rfl .nil) rfl (.frz (.t (.t (.t (.t (.t .h))))) frz_own (.sel (.cons (.t (.t (.t (.t (.t .h))))) (.rd .h rfl (.cons (.t (.t .h)) .nil)))))
def s_l10Draw (fuel : Nat) (a_c : l1Cur) : Option ((List Int) × (List Method) × Query × l1Cur) :=
 (s_l6Draw fuel a_c).bind fun r2 =>
 ((s_IsSchema r2.1).bind fun r8 =>
   bif r8 then ((s_l1Once ({ b := a_c.b, i := r2.2.2.2.i, h := r2.2.2.2.h } : l1Cur) 3).bind fun r12 =>
     some (r12.2.i, r12.2.h, r12.1))
   else (some (r2.2.2.2.i, r2.2.2.2.h, false))).bind fun o6 =>
 match o6 with
 | (c15, c16, c17) => if c17 then (
     (s_l9Rich fuel ({ b := a_c.b, i := c15, h := c16 } : l1Cur) r2.1).bind fun r18 =>
     some (r2.1, r2.2.1, r18.1, ({ b := a_c.b, i := r18.2.i, h := r18.2.h } : l1Cur)))
   else (
     some (r2.1, r2.2.1, r2.2.2.1, ({ b := a_c.b, i := c15, h := c16 } : l1Cur)))
theorem s_l10Draw_ok (fuel : Nat) (kq0 : Nat) (a_c : l1Cur) (v0_0 : Sv) (R : (List Int) × (List Method) × Query × l1Cur) (hF : s_l10Draw fuel a_c = some R) :
   Fw.Spec Tryz.prog 124 [(pz kq0)] [cbox kq0 112 (.agg [v0_0.v, (.int .i64 a_c.i), (.int .i64 a_c.h)].toArray), crd (RdS 5 rdU8) v0_0.v a_c.b] (fun p : Sv × Sv × List Nat × Sv × List Nat × Sv => (.tuple [p.1.v, p.2.1.v, (.agg [p.2.2.2.1.v, p.2.2.2.2.2.v].toArray)].toArray)) (fun p => [crd (RdS 3 rdInt) p.1.v R.1, cown (OwnS 73 ow73) p.2.2.1 p.2.1.v R.2.1, cown (OwnS 3 (roE rdInt)) p.2.2.2.2.1 p.2.2.2.1.v R.2.2.1.Head, crd (RdS 98 rd98) p.2.2.2.2.2.v R.2.2.1.Atoms, cbox kq0 112 (.agg [v0_0.v, (.int .i64 R.2.2.2.i), (.int .i64 R.2.2.2.h)].toArray)]) := by
 refine Se 28 Tryz.func124 [.tmp 2, .tmp 3, .cell 4 51] ?_
 intro H0 F0
 unfold s_l10Draw at hF
 iterate 3 refine au ?_
 refine AnW (fun k1 => ?_)
 iterate 3 refine au ?_
 refine bnd hF fun r2 hx3 hF => Cx5 (s_l6Draw_ok _ _ _ _ _ hx3) (fun p4 => ?_)
 refine au ?_
 refine C_val (V_extract (l := [p4.1.v, p4.2.2.1.v, (.agg [p4.2.2.2.2.1.v, p4.2.2.2.2.2.2.1.v].toArray)]) (v := p4.1.v) (.tmp rfl rfl) rfl) ?_
 refine C_val (V_extract (l := [p4.1.v, p4.2.2.1.v, (.agg [p4.2.2.2.2.1.v, p4.2.2.2.2.2.2.1.v].toArray)]) (v := p4.2.2.1.v) (.tmp rfl rfl) rfl) ?_
 refine C_val (V_extract (l := [p4.1.v, p4.2.2.1.v, (.agg [p4.2.2.2.2.1.v, p4.2.2.2.2.2.2.1.v].toArray)]) (v := (.agg [p4.2.2.2.2.1.v, p4.2.2.2.2.2.2.1.v].toArray)) (.tmp rfl rfl) rfl) ?_
 refine AnW (fun k5 => ?_)
 iterate 2 refine au ?_
 refine As (.agg [p4.2.2.2.2.1.v, p4.2.2.2.2.2.2.1.v].toArray) ?_
 iterate 2 refine au ?_
 obtain ⟨o6, hio6, hO7⟩ := bind_some hF
 refine au ?_
 refine C_cut (fun f' cs' => ∃ (c15 : Int) (c16 : Int) (c17 : Bool) (g : Fr), o6 = (c15, c16, c17) ∧ f' = updL g [(0, (pz kq0)), (4, (pz k1)), (5, p4.1.v), (6, p4.2.2.1.v), (7, (pz k5)), (19, (.bool c17))] ∧ Ent cs' [cbox kq0 112 (.agg [v0_0.v, (.int .i64 c15), (.int .i64 c16)].toArray), crd (RdS 5 rdU8) v0_0.v a_c.b, cbox k1 51 (.agg [(.slice none 0 0), (.slice none 0 0)].toArray), cown (OwnS 3 (roE rdInt)) p4.2.1 p4.1.v r2.1, cown (OwnS 73 ow73) p4.2.2.2.1 p4.2.2.1.v r2.2.1, cbox k5 51 (.agg [p4.2.2.2.2.1.v, p4.2.2.2.2.2.2.1.v].toArray), cown (OwnS 3 (roE rdInt)) p4.2.2.2.2.2.1 p4.2.2.2.2.1.v r2.2.2.1.Head, cown (OwnS 98 ow98) p4.2.2.2.2.2.2.2 p4.2.2.2.2.2.2.1.v r2.2.2.1.Atoms]) ?_ ?_
 · replace hF := hio6
   refine au ?_
   refine bnd hF fun r8 hx9 hF => C_x1 (.cons (.t .h) .nil) (XC_bor frz_own (fun _ => .nil) (X_callS cf75.h (.cons (.tmp rfl rfl) .nil) (s_IsSchema_ok r2.1 p4.1 _ hx9))) (fun _ => ?_)
   refine au ?_
   rcases Bool.eq_false_or_eq_true r8 with hg11 | hg11
   · rw [hg11]
     try rw [hg11] at hF; dsimp only [cond_true, cond_false] at hF
     iterate 3 refine au ?_
     refine bnd hF fun r12 hx13 hF => Cx1 (s_l1Once_ok _ _ _ _ _ hx13) (fun p14 => ?_)
     iterate 2 refine au ?_
     cases hF
     exact ⟨_, _, _, _, rfl, eqA, entA⟩
   rw [hg11]
   try rw [hg11] at hF; dsimp only [cond_true, cond_false] at hF
   iterate 4 refine au ?_
   cases hF
   exact ⟨_, _, _, _, rfl, eqA, entA⟩
 rintro _ _ ⟨c15, c16, c17, g22, rfl, rfl, hE⟩
 replace hF := hO7
 try dsimp only at hF
 refine K_ent hE ?_
 refine Ci hF (fun hb21 hF => ?_) (fun hb21 hF => ?_)
 · refine K_frz (.t (.t (.t .h))) frz_own ?_
   iterate 5 refine au ?_
   refine bnd hF fun r18 hx19 hF => Cx3 (s_l9Rich_ok _ _ _ _ _ _ _ hx19) (fun p20 => ?_)
   iterate 2 refine au ?_
   refine As (.agg [p20.1.v, p20.2.2.v].toArray) ?_
   iterate 2 refine au ?_
   cases hF
   exact End_ret (p4.1, p4.2.2.1, p4.2.2.2.1, p20.1, p20.2.1, p20.2.2) (.tmp rfl rfl (.tmp rfl rfl (.cellA rfl rfl .h rfl ag51.h ty51.h.sz rfl rfl .nil))) rfl (.sel (.rd (.t (.t (.t (.t .h)))) rfl (.cons (.t (.t (.t (.t (.t (.t .h)))))) (.cons (.t .h) (.rd (.t .h) rfl (.cons (.t (.t .h)) .nil))))))
 refine au ?_
 refine K_draw [0, 1, 2, 3, 4, 5] [0, 0, 0, 1, 11, 31] [5] mixed (by decide +kernel) ?_
 iterate 2 refine du ?_
 refine D_atO rfl .no (.t (.t (.t (.t (.t .h))))) (fun ha hp => V_loadBox ag51.h ty51.h.sz rfl (EN ha (.tmp rfl rfl) rfl) hp.2 rfl) ?_
 iterate 2 refine du ?_
 refine D_act1 rfl rfl .no (.cons (.t (.t .h)) .nil) (.dep rfl .nil) (fun ha => X_storeB (e' := (.agg [p4.2.2.2.2.1.v, p4.2.2.2.2.2.2.1.v].toArray)) (v := (.agg [p4.2.2.2.2.1.v, p4.2.2.2.2.2.2.1.v].toArray)) ty51.h.sz (EN ha (.tmp rfl rfl) rfl) (EN ha (.tmp rfl rfl) rfl) rfl rfl rfl rfl rfl) (fun _ => ?_)
 refine du ?_
 refine au ?_
 cases hF
 exact End_ret (p4.1, p4.2.2.1, p4.2.2.2.1, p4.2.2.2.2.1, p4.2.2.2.2.2.1, p4.2.2.2.2.2.2.1) (.tmp rfl rfl (.tmp rfl rfl (.cellA rfl rfl .h rfl ag51.h ty51.h.sz rfl rfl .nil))) rfl (.frz (.t (.t (.t .h))) frz_own (.frz (.t (.t (.t (.t (.t (.t (.t .h))))))) frz_own (.sel (.rd (.t .h) rfl (.cons (.t (.t (.t (.t (.t .h))))) (.cons (.t (.t (.t (.t (.t (.t .h)))))) (.rd .h rfl (.cons (.t (.t (.t .h))) .nil))))))))
def s_l2Fact_L1 (a_c : l1Cur) (a_s : List Int) (a_wide : Int) (r2 : Int × l1Cur) : Nat → Int → Int → (List Int) → Int → Option (Fact × l1Cur)
 | 0, _, _, _, _ => none
 | m34 + 1, c28, c29, c30, c33 => (ix a_s r2.1).bind fun x42 =>
   if (decide ((c33 : Int) < x42)) then (
     (s_l1Below ({ b := a_c.b, i := c28, h := c29 } : l1Cur) a_wide).bind fun r48 =>
     (app c30 ([r48.1] : List Int)).bind fun z52 =>
     s_l2Fact_L1 a_c a_s a_wide r2 m34 r48.2.i r48.2.h z52 (IntKind.i64.wrap (c33 + 1)))
   else (
     some (({ Rel := r2.1, Values := c30 } : Fact), ({ b := a_c.b, i := c28, h := c29 } : l1Cur)))
def s_l2Fact (fuel : Nat) (a_c : l1Cur) (a_s : List Int) (a_wide : Int) : Option (Fact × l1Cur) :=
 (s_l1Below a_c (a_s.length : Int)).bind fun r2 =>
 s_l2Fact_L1 a_c a_s a_wide r2 fuel r2.2.i r2.2.h ([] : List Int) 0
theorem s_l2Fact_ok (fuel : Nat) (kq0 : Nat) (a_c : l1Cur) (v0_0 : Sv) (a_s : List Int) (v1_0 : Sv) (a_wide : Int) (R : Fact × l1Cur) (hF : s_l2Fact fuel a_c a_s a_wide = some R) :
   Fw.Spec Tryz.prog 219 [(.pointer (some ⟨kq0, 0, some 0⟩)), v1_0.v, (.int .i64 a_wide)] [cbox kq0 112 (.agg [v0_0.v, (.int .i64 a_c.i), (.int .i64 a_c.h)].toArray), crd (RdS 5 rdU8) v0_0.v a_c.b, crd (RdS 3 rdInt) v1_0.v a_s] (fun p : Sv × List Nat => (.agg [(.int .i64 R.1.Rel), p.1.v].toArray)) (fun p => [cown (OwnS 3 (roE rdInt)) p.2 p.1.v R.1.Values, cbox kq0 112 (.agg [v0_0.v, (.int .i64 R.2.i), (.int .i64 R.2.h)].toArray)]) := by
 refine Spec_enter (n := 34) Tryz.func219 rfl rfl (rs := [.cell 6 86]) rfl rfl rfl ?_
 intro H0 F0
 unfold s_l2Fact at hF
 refine K_region (C_new rfl (N_allocT (g := true) ty86.h rfl rfl) (fun k1 => ?_))
 refine C_nil (K_region (Cm (.pointer (some ⟨kq0, 0, some 0⟩)) rfl rfl ?_))
 refine Cm v1_0.v rfl rfl ?_
 refine C_at (.t (.t (.t .h))) (fun hp => V_lenR (l := a_s.length) sl24.h (.tmp rfl rfl) (crd_len hp)) ?_
 obtain ⟨r2, hx3, hF⟩ := bind_some hF
 refine C_x1 (.cons (.t .h) (.rd (.t .h) rfl .nil)) (X_callS cf89.h (.cons (.tmp rfl rfl) (.cons (.tmp rfl rfl) .nil)) (s_l1Below_ok kq0 a_c v0_0 (a_s.length : Int) _ hx3)) (fun p4 => ?_)
 refine C_val (V_build ty86.h rfl (vs := [(.int .i64 r2.1)]) (.cons (.tmp rfl rfl) .nil) (cells := [(.int .i64 r2.1), (.slice none 0 0)]) rfl) ?_
 refine C_new rfl (N_allocT (g := true) ty86.h rfl rfl) (fun k5 => ?_)
 refine C_x1 (.cons .h .nil) (X_storeB (e' := (.agg [(.int .i64 r2.1), (.slice none 0 0)].toArray)) (v := (.agg [(.int .i64 r2.1), (.slice none 0 0)].toArray)) ty86.h.sz (.tmp rfl rfl) (.tmp rfl rfl) rfl rfl rfl rfl rfl) (fun _ => ?_)
 refine C_nil (K_in (K_region (C_val (V_assign (v := (.int .i64 0)) (.int _ _)) ?_)))
 refine C_nil (CW_block (CW_loop (m := fuel) (fun m34 f' cs' => ∃ (g : Fr) (c28 : Int) (c29 : Int) (c30 : List Int) (c33 : Int) (v31 : Sv) (F32 : List Nat), f' = updL g [(0, (.pointer (some ⟨kq0, 0, some 0⟩))), (1, v1_0.v), (2, (.int .i64 a_wide)), (6, (.pointer (some ⟨k1, 0, some 0⟩))), (7, (.pointer (some ⟨k5, 0, some 0⟩))), (8, (.int .i64 c33))] ∧ Ent cs' [cbox kq0 112 (.agg [v0_0.v, (.int .i64 c28), (.int .i64 c29)].toArray), crd (RdS 5 rdU8) v0_0.v a_c.b, crd (RdS 3 rdInt) v1_0.v a_s, cbox k1 86 (.agg [(.int .i64 0), (.slice none 0 0)].toArray), cbox k5 86 (.agg [(.int .i64 r2.1), v31.v].toArray), cown (OwnS 3 (roE rdInt)) F32 v31.v c30] ∧ s_l2Fact_L1 a_c a_s a_wide r2 m34 c28 c29 c30 c33 = some R) ⟨_, _, _, _, _, ⟨none, 0, 0⟩, [], (EqL.cons rfl (EqL.cons rfl (EqL.cons rfl (EqL.cons rfl (EqL.cons rfl (EqL.cons rfl (EqL.nil))))))).eq, (.conv .nil (own_nil (Ro := (roE rdInt)) (E := 3)) (.cons .nil) (.sel (.cons (.t (.t .h)) (.rd (.t (.t (.t .h))) rfl (.rd (.t (.t (.t (.t .h)))) rfl (.cons (.t (.t .h)) (.cons (.t .h) (.cons .h .nil)))))))), hF⟩ ?_))
 clear hF
 rintro m34 _ _ ⟨g35, c28, c29, c30, c33, v31, F32, rfl, hE, hF⟩
 refine K_ent hE ?_
 clear hE
 rcases m34 with _ | m34
 · rw [s_l2Fact_L1] at hF
   exact absurd hF (by simp)
 rw [s_l2Fact_L1] at hF
 refine K_in (K_region (Cm (.int .i64 c33) rfl rfl ?_))
 refine Cm v1_0.v rfl rfl ?_
 refine C_val (V_fieldAddr (off := 0) fd86_0.h (.tmp rfl rfl)) ?_
 refine C_at (.t (.t (.t (.t .h)))) (fun hp => V_load (v := (.int .i64 r2.1)) ag3.h (.tmp rfl rfl) hp.2 rfl rfl) ?_
 obtain ⟨x42, hx43, hF⟩ := bind_some hF
 obtain ⟨hp44, hx45⟩ := ix_some hx43
 refine C_idx (a := x42) sl24.h ty3.h.sz (.tmp rfl rfl) (.tmp rfl rfl) (.t (.t .h)) hp44 hx45 (fun k46 j47 => ?_)
 refine C_ldS (w := (.int .i64 x42)) ag3.h (.tmp rfl rfl) .h ls3_0 ?_
 refine C_val (V_lss (i := c33) (j := x42) (.tmp rfl rfl) (.tmp rfl rfl)) ?_
 refine C_nil (CW_cond (b := (decide ((c33 : Int) < x42))) (.tmp rfl rfl) (fun hb55 => ?_) (fun hb55 => ?_))
 · rw [if_pos hb55] at hF
   refine CW_skip (K_block (K_region (Cm (.pointer (some ⟨kq0, 0, some 0⟩)) rfl rfl ?_)))
   refine Cm (.int .i64 a_wide) rfl rfl ?_
   obtain ⟨r48, hx49, hF⟩ := bind_some hF
   refine C_x1 (.cons (.t .h) (.rd (.t .h) rfl .nil)) (X_callS cf89.h (.cons (.tmp rfl rfl) (.cons (.tmp rfl rfl) .nil)) (s_l1Below_ok kq0 ({ b := a_c.b, i := c28, h := c29 } : l1Cur) v0_0 a_wide _ hx49)) (fun p50 => ?_)
   refine Ca (.int .i64 r48.1) rfl rfl ?_
   refine C_nil (CW_region (C_val (V_fieldAddr (off := 1) fd86_1.h (.tmp rfl rfl)) ?_))
   refine C_at (.t (.t (.t (.t (.t .h))))) (fun hp => V_load (v := v31.v) ag24.h (.tmp rfl rfl) hp.2 rfl rfl) ?_
   refine Cm (.int .i64 r48.1) rfl rfl ?_
   refine C_new rfl (N_buildSliceT (g := true) sl24.h ty3.h (.cons (.tmp rfl rfl) .nil) (vs := [(.int .i64 r48.1)]) rfl rfl rfl (by intro v hv; simp at hv; rcases hv with rfl <;> rfl)) (fun k51 => ?_)
   refine C_conv (.cons .h .nil) (own_lit (Ro := (roE rdInt)) (E := 3) (F := ([] ++ [])) (xs := ([r48.1] : List Int)) (MkL_cons (Mk_pure (fun _ => rfl)) MkL_nil apps) rfl rfl) apps ?_
   obtain ⟨z52, hx53, hF⟩ := bind_some hF
   refine C_x1 (.cons (.t (.t (.t (.t (.t (.t (.t .h))))))) (.cons .h .nil)) (X_appendO (Ro := (roE rdInt)) sl24.h ni24 ty3.h rfl rfl rfl (.tmp rfl rfl) (.tmp rfl rfl) hx53 src_own) (fun p54 => ?_)
   refine C_val (V_fieldAddr (off := 1) fd86_1.h (.tmp rfl rfl)) ?_
   refine C_x1 (.cons (.t (.t (.t (.t (.t (.t .h)))))) .nil) (X_storeB (e' := (.agg [(.int .i64 r2.1), p54.1.v].toArray)) ty24.h.sz (.tmp rfl rfl) (.tmp rfl rfl) rfl rfl rfl rfl rfl) (fun _ => ?_)
   refine C_nil (CW_region (Cm (.int .i64 c33) rfl rfl ?_))
   refine C_val (V_add (i := c33) (j := 1) (.tmp rfl rfl) (.int _ _)) ?_
   refine Ca (.int .i64 (IntKind.i64.wrap (c33 + 1))) rfl rfl ?_
   refine C_nil ?_
   exact ⟨m34, Nat.lt_succ_self _, _, _, _, _, _, p54.1, p54.2, (EqL.cons rfl (EqL.cons rfl (EqL.cons rfl (EqL.cons rfl (EqL.cons rfl (EqL.cons rfl (EqL.nil))))))).eq, (.sel (.cons (.t (.t .h)) (.rd (.t (.t (.t .h))) rfl (.rd (.t (.t (.t (.t .h)))) rfl (.cons (.t (.t (.t (.t (.t .h))))) (.cons .h (.cons .h .nil))))))), hF⟩
 rw [if_neg (by rw [hb55]; exact Bool.false_ne_true)] at hF
 refine CW_exit ?_
 iterate 2 refine CThen_exit ?_
 refine CIn_self (K_region (C_at (.t (.t (.t (.t (.t .h))))) (fun hp => V_loadBox ag86.h ty86.h.sz rfl (.tmp rfl rfl) hp.2 rfl) ?_))
 refine C_x1 (.cons (.t (.t (.t (.t .h)))) .nil) (X_storeB (e' := (.agg [(.int .i64 r2.1), v31.v].toArray)) (v := (.agg [(.int .i64 r2.1), v31.v].toArray)) ty86.h.sz (.tmp rfl rfl) (.tmp rfl rfl) rfl rfl rfl rfl rfl) (fun _ => ?_)
 refine C_nil (CW_ret ?_)
 obtain rfl := Option.some.inj hF
 exact End_ret (v31, F32) (.cellA rfl rfl .h rfl ag86.h ty86.h.sz rfl rfl .nil) rfl (.sel (.cons (.t (.t (.t (.t (.t (.t .h)))))) (.cons (.t (.t .h)) .nil)))
def s_CompareFacts_L1 (a_a : Fact) (a_b : Fact) : Nat → Int → Option (Int)
 | 0, _ => none
 | m5 + 1, c4 => if ((decide ((c4 : Int) < (a_a.Values.length : Int))) && (decide ((c4 : Int) < (a_b.Values.length : Int)))) then (
     (ix a_a.Values c4).bind fun x15 =>
     (ix a_b.Values c4).bind fun x21 =>
     if (decide ((x15 : Int) < x21)) then (
       some (-1))
     else (
       (ix a_a.Values c4).bind fun x27 =>
       (ix a_b.Values c4).bind fun x33 =>
       if (decide ((x33 : Int) < x27)) then (
         some 1)
       else (
         s_CompareFacts_L1 a_a a_b m5 (IntKind.i64.wrap (c4 + 1)))))
   else (
     if (decide (((a_a.Values.length : Int) : Int) < (a_b.Values.length : Int))) then (
       some (-1))
     else (
       if (decide (((a_b.Values.length : Int) : Int) < (a_a.Values.length : Int))) then (
         some 1)
       else (
         some 0)))
def s_CompareFacts (a_a : Fact) (a_b : Fact) : Option (Int) :=
 if ((a_a.Rel : Int) != a_b.Rel) then (
   if (decide ((a_a.Rel : Int) < a_b.Rel)) then (
     some (-1))
   else (
     some 1))
 else (
   s_CompareFacts_L1 a_a a_b (((a_a.Values.length : Int) - 0).toNat + 2) 0)
theorem s_CompareFacts_ok (a_a : Fact) (v0_1 : Sv) (a_b : Fact) (v1_1 : Sv) (R : Int) (hF : s_CompareFacts a_a a_b = some R) :
   Fw.Spec Tryz.prog 60 [(.agg [(.int .i64 a_a.Rel), v0_1.v].toArray), (.agg [(.int .i64 a_b.Rel), v1_1.v].toArray)] [crd (RdS 3 rdInt) v0_1.v a_a.Values, crd (RdS 3 rdInt) v1_1.v a_b.Values] (fun _ : Unit => (.int .i64 R)) (fun _ => []) := by
 refine Se 66 Tryz.func60 [.tmp 4] ?_
 intro H0 F0
 unfold s_CompareFacts at hF
 refine au ?_
 refine AbR (fun k1 => ?_)
 refine AbR (fun k2 => ?_)
 iterate 10 refine au ?_
 refine Ci hF (fun hb44 hF => ?_) (fun hb44 hF => ?_)
 · iterate 8 refine au ?_
   refine Ci hF (fun hb3 hF => ?_) (fun hb3 hF => ?_)
   · iterate 4 refine au ?_
     cases hF
     exact Er ()
   iterate 5 refine au ?_
   cases hF
   exact Er ()
 iterate 5 refine au ?_
 refine CW_block (CW_loop (m := (((a_a.Values.length : Int) - 0).toNat + 2)) (fun m5 f' cs' => ∃ (g : Fr) (c4 : Int), f' = updL g [(2, (pz k1)), (3, (pz k2)), (5, (.int .i64 c4))] ∧ Ent cs' [cboR k1 86 (.agg [(.int .i64 a_a.Rel), v0_1.v].toArray), crd (RdS 3 rdInt) v0_1.v a_a.Values, cboR k2 86 (.agg [(.int .i64 a_b.Rel), v1_1.v].toArray), crd (RdS 3 rdInt) v1_1.v a_b.Values] ∧ s_CompareFacts_L1 a_a a_b m5 c4 = some R) ⟨_, _, eqA, entA, hF⟩ ?_)
 rintro m5 _ _ ⟨g6, c4, rfl, hE, hF⟩
 refine K_ent hE ?_
 rcases m5 with _ | m5
 · rw [s_CompareFacts_L1] at hF
   exact absurd hF (by simp)
 rw [s_CompareFacts_L1] at hF
 iterate 2 refine au ?_
 refine C_cut (fun f' cs' => ∃ (g : Fr), f' = updL g [(2, (pz k1)), (3, (pz k2)), (5, (.int .i64 c4)), (27, (.bool ((decide ((c4 : Int) < (a_a.Values.length : Int))) && (decide ((c4 : Int) < (a_b.Values.length : Int))))))] ∧ Ent cs' [cboR k1 86 (.agg [(.int .i64 a_a.Rel), v0_1.v].toArray), crd (RdS 3 rdInt) v0_1.v a_a.Values, cboR k2 86 (.agg [(.int .i64 a_b.Rel), v1_1.v].toArray), crd (RdS 3 rdInt) v1_1.v a_b.Values]) ?_ ?_
 · iterate 6 refine au ?_
   rcases Bool.eq_false_or_eq_true (decide ((c4 : Int) < (a_a.Values.length : Int))) with hg13 | hg13
   · rw [hg13]
     try rw [hg13] at hF; dsimp only [cond_true, cond_false] at hF
     iterate 12 refine au ?_
     exact ⟨_, eqA, entA⟩
   rw [hg13]
   try rw [hg13] at hF; dsimp only [cond_true, cond_false] at hF
   iterate 7 refine au ?_
   exact ⟨_, eqA, entA⟩
 rintro _ _ ⟨g14, rfl, hE⟩
 refine K_ent hE ?_
 refine Ci hF (fun hb43 hF => ?_) (fun hb43 hF => ?_)
 · iterate 3 refine au ?_
   refine K_draw [0, 1, 2, 3, 4, 5, 6, 7, 8, 9, 10] [0, 1, 0, 7, 15, 0, 32, 0, 224, 480, 1023] [] mixed (by decide +kernel) ?_
   iterate 3 refine du ?_
   refine bnd hF fun x15 hx16 hF => ?_
   obtain ⟨hp17, hx18⟩ := ix_some hx16
   refine Di hx18 (fun k19 j20 => ?_)
   refine Dl ls3_0 ?_
   iterate 3 refine du ?_
   refine bnd hF fun x21 hx22 hF => ?_
   obtain ⟨hp23, hx24⟩ := ix_some hx22
   refine Di hx24 (fun k25 j26 => ?_)
   refine Dl ls3_0 ?_
   iterate 2 refine du ?_
   refine Ci hF (fun hb40 hF => ?_) (fun hb40 hF => ?_)
   · iterate 4 refine au ?_
     cases hF
     exact Er ()
   refine au ?_
   refine K_draw [0, 1, 2, 3, 4, 5, 6, 7, 8, 9, 10] [0, 1, 0, 7, 15, 0, 32, 0, 224, 480, 1023] [] mixed (by decide +kernel) ?_
   iterate 3 refine du ?_
   refine bnd hF fun x27 hx28 hF => ?_
   obtain ⟨hp29, hx30⟩ := ix_some hx28
   refine Di hx30 (fun k31 j32 => ?_)
   refine Dl ls3_0 ?_
   iterate 3 refine du ?_
   refine bnd hF fun x33 hx34 hF => ?_
   obtain ⟨hp35, hx36⟩ := ix_some hx34
   refine Di hx36 (fun k37 j38 => ?_)
   refine Dl ls3_0 ?_
   iterate 2 refine du ?_
   refine Ci hF (fun hb39 hF => ?_) (fun hb39 hF => ?_)
   · iterate 4 refine au ?_
     cases hF
     exact Er ()
   iterate 6 refine au ?_
   exact ⟨m5, Nat.lt_succ_self _, _, _, eqA, entA, hF⟩
 iterate 14 refine au ?_
 refine Ci hF (fun hb42 hF => ?_) (fun hb42 hF => ?_)
 · iterate 4 refine au ?_
   cases hF
   exact Er ()
 iterate 11 refine au ?_
 refine Ci hF (fun hb41 hF => ?_) (fun hb41 hF => ?_)
 · iterate 4 refine au ?_
   cases hF
   exact Er ()
 iterate 5 refine au ?_
 cases hF
 exact Er ()
def s_HasFact_L1 (a_f : Fact) : List Fact → Nat → Option (Bool)
 | [], k5 => some false
 | x7 :: rest6, k5 => (s_CompareFacts x7 a_f).bind fun r17 =>
   if ((r17 : Int) == 0) then (
     some true)
   else (
     s_HasFact_L1 a_f rest6 (k5 + 1))
def s_HasFact (a_l : List Fact) (a_f : Fact) : Option (Bool) :=
 s_HasFact_L1 a_f a_l 0
theorem s_HasFact_ok (a_l : List Fact) (v0_0 : Sv) (a_f : Fact) (v1_1 : Sv) (R : Bool) (hF : s_HasFact a_l a_f = some R) :
   Fw.Spec Tryz.prog 122 [v0_0.v, (.agg [(.int .i64 a_f.Rel), v1_1.v].toArray)] [crd (RdS 86 rd86) v0_0.v a_l, crd (RdS 3 rdInt) v1_1.v a_f.Values] (fun _ : Unit => (.bool R)) (fun _ => []) := by
 refine Se 19 Tryz.func122 [.tmp 4] ?_
 intro H0 F0
 unfold s_HasFact at hF
 refine au ?_
 refine AbR (fun k1 => ?_)
 iterate 6 refine au ?_
 refine CW_block (CW_loop (m := a_l.length) (fun m3 f' cs' => ∃ (g : Fr) (k5 : Nat) (rest6 : List Fact), m3 = rest6.length ∧ f' = updL g [(0, v0_0.v), (3, (pz k1)), (5, (.int .i64 (k5 : Int)))] ∧ List.drop k5 a_l = rest6 ∧ Ent cs' [crd (RdS 86 rd86) v0_0.v a_l, cboR k1 86 (.agg [(.int .i64 a_f.Rel), v1_1.v].toArray), crd (RdS 3 rdInt) v1_1.v a_f.Values] ∧ s_HasFact_L1 a_f rest6 k5 = some R) ⟨_, 0, _, rfl, eqA, rfl, entA, hF⟩ ?_)
 rintro m3 _ _ ⟨g4, k5, rest6, rfl, rfl, hd8, hE, hF⟩
 refine Kb hE a_l (fun hbd13 => ?_)
 rcases rest6 with _ | ⟨x7, rest6⟩
 · have hk9 := dn hd8
   rw [s_HasFact_L1] at hF
   iterate 7 refine au ?_
   refine CdF ?_
   iterate 8 refine au ?_
   cases hF
   exact Er ()
 obtain ⟨hk9, hx10, hd11⟩ := drop_cons hd8
 rw [s_HasFact_L1] at hF
 iterate 7 refine au ?_
 refine CdT ?_
 iterate 2 refine au ?_
 refine K_draw [0, 1, 2, 3, 4, 5, 6] [0, 0, 3, 7, 0, 31, 63] [5] mixed (by decide +kernel) ?_
 iterate 2 refine du ?_
 refine Di hx10 (fun k14 j15 => ?_)
 refine DlA1 (ul86_0_86 x7) la86_0_86 (fun p16 => ?_)
 refine du ?_
 refine bnd hF fun r17 hx18 hF => Dx0 (s_CompareFacts_ok _ _ _ _ _ hx18) (fun _ => ?_)
 iterate 2 refine du ?_
 refine Ci hF (fun hb21 hF => ?_) (fun hb21 hF => ?_)
 · iterate 4 refine au ?_
   cases hF
   exact Er ()
 iterate 6 refine au ?_
 rw [wk k5]
 exact ⟨_, Nat.lt_succ_self _, _, k5 + 1, rest6, rfl, eqA, hd11, entA, hF⟩
def s_l2One (a_rel : Int) (a_values : List Int) : Option (Fact) :=
 (app ([] : List Int) a_values).bind fun z3 =>
 some ({ Rel := a_rel, Values := z3 } : Fact)
theorem s_l2One_ok (a_rel : Int) (a_values : List Int) (v1_0 : Sv) (R : Fact) (hF : s_l2One a_rel a_values = some R) :
   Fw.Spec Tryz.prog 111 [(.int .i64 a_rel), v1_0.v] [crd (RdS 3 rdInt) v1_0.v a_values] (fun p : Sv × List Nat => (.agg [(.int .i64 R.Rel), p.1.v].toArray)) (fun p => [cown (OwnS 3 (roE rdInt)) p.2 p.1.v R.Values]) := by
 refine Se 10 Tryz.func111 [.cell 4 86] ?_
 intro H0 F0
 unfold s_l2One at hF
 refine au ?_
 refine AnW (fun k1 => ?_)
 iterate 3 refine au ?_
 refine C_new rfl (N_buildSliceT (g := true) sl24.h ty3.h .nil (vs := []) rfl rfl rfl (by simp)) (fun k2 => ?_)
 refine Cv1 (.cons .h .nil) (own_lit (Ro := (roE rdInt)) (E := 3) (F := []) (xs := ([] : List Int)) MkL_nil rfl rfl) ?_
 refine au ?_
 refine bnd hF fun z3 hx4 hF => C_x1 (.cons .h (.rd (.t .h) rfl .nil)) (X_appendO (Ro := (roE rdInt)) sl24.h ni24 ty3.h rfl rfl rfl (.tmp rfl rfl) (.tmp rfl rfl) hx4 src_rd) (fun p5 => ?_)
 refine C_val (V_build ty86.h rfl (vs := [(.int .i64 a_rel), p5.1.v]) (.cons (.tmp rfl rfl) (.cons (.tmp rfl rfl) .nil)) (cells := [(.int .i64 a_rel), p5.1.v]) rfl) ?_
 refine As (.agg [(.int .i64 a_rel), p5.1.v].toArray) ?_
 iterate 2 refine au ?_
 cases hF
 exact Er (p5.1, p5.2)
def s_AddFact_L1 (a_f : Fact) : List Fact → Nat → (List Fact) → Bool → Option ((List Fact))
 | [], k13, c6, c9 => if (!c9) then (
     (s_l2One a_f.Rel a_f.Values).bind fun r22 =>
     (app c6 ([r22] : List Fact)).bind fun z26 =>
     some z26)
   else (
     some c6)
 | x15 :: rest14, k13, c6, c9 => ((bif (!c9) then ((s_CompareFacts a_f x15).bind fun r38 =>
         some (decide ((r38 : Int) < 0)))
       else (some false)).bind fun o32 =>
     match o32 with
     | c41 => if c41 then (
         (s_l2One a_f.Rel a_f.Values).bind fun r42 =>
         (app c6 ([r42] : List Fact)).bind fun z46 =>
         (s_l2One x15.Rel x15.Values).bind fun r54 =>
         (app z46 ([r54] : List Fact)).bind fun z58 =>
         some (z58, true))
       else (
         (s_l2One x15.Rel x15.Values).bind fun r66 =>
         (app c6 ([r66] : List Fact)).bind fun z70 =>
         some (z70, c9))).bind fun o30 =>
   match o30 with
   | (c75, c78) => s_AddFact_L1 a_f rest14 (k13 + 1) c75 c78
def s_AddFact (a_l : List Fact) (a_f : Fact) : Option ((List Fact)) :=
 (s_HasFact a_l a_f).bind fun r3 =>
 s_AddFact_L1 a_f a_l 0 ([] : List Fact) r3
theorem s_AddFact_ok (a_l : List Fact) (v0_0 : Sv) (a_f : Fact) (v1_1 : Sv) (R : (List Fact)) (hF : s_AddFact a_l a_f = some R) :
   Fw.Spec Tryz.prog 123 [v0_0.v, (.agg [(.int .i64 a_f.Rel), v1_1.v].toArray)] [crd (RdS 86 rd86) v0_0.v a_l, crd (RdS 3 rdInt) v1_1.v a_f.Values] (fun p : Sv × List Nat => p.1.v) (fun p => [cown (OwnS 86 ow86) p.2 p.1.v R]) := by
 refine Se 62 Tryz.func123 [.tmp 4] ?_
 intro H0 F0
 unfold s_AddFact at hF
 refine au ?_
 refine AbR (fun k1 => ?_)
 iterate 3 refine au ?_
 refine C_new rfl (N_buildSliceT (g := true) sl27.h ty86.h .nil (vs := []) rfl rfl rfl (by simp)) (fun k2 => ?_)
 refine Cv1 (.cons .h .nil) (own_lit (Ro := ow86) (E := 86) (F := []) (xs := ([] : List Fact)) MkL_nil rfl rfl) ?_
 iterate 5 refine au ?_
 refine bnd hF fun r3 hx4 hF => Cx0 (s_HasFact_ok _ _ _ _ _ hx4) (fun _ => ?_)
 iterate 6 refine au ?_
 refine CW_block (CW_loop (m := a_l.length) (fun m11 f' cs' => ∃ (g : Fr) (k13 : Nat) (rest14 : List Fact) (c6 : List Fact) (c9 : Bool) (v7 : Sv) (F8 : List Nat), m11 = rest14.length ∧ f' = updL g [(0, v0_0.v), (3, (pz k1)), (5, v7.v), (6, (.bool c9)), (7, (.int .i64 (k13 : Int)))] ∧ List.drop k13 a_l = rest14 ∧ Ent cs' [crd (RdS 86 rd86) v0_0.v a_l, cboR k1 86 (.agg [(.int .i64 a_f.Rel), v1_1.v].toArray), crd (RdS 3 rdInt) v1_1.v a_f.Values, cown (OwnS 86 ow86) F8 v7.v c6] ∧ s_AddFact_L1 a_f rest14 k13 c6 c9 = some R) ⟨_, 0, _, _, _, ⟨(some ⟨k2, 0, none⟩), 0, 1⟩, (k2 :: []), rfl, eqA, rfl, entA, hF⟩ ?_)
 rintro m11 _ _ ⟨g12, k13, rest14, c6, c9, v7, F8, rfl, rfl, hd16, hE, hF⟩
 refine Kb hE a_l (fun hbd21 => ?_)
 rcases rest14 with _ | ⟨x15, rest14⟩
 · have hk17 := dn hd16
   rw [s_AddFact_L1] at hF
   iterate 7 refine au ?_
   refine CdF ?_
   iterate 9 refine au ?_
   refine Ci hF (fun hb29 hF => ?_) (fun hb29 hF => ?_)
   · iterate 6 refine au ?_
     refine bnd hF fun r22 hx23 hF => Cx1 (s_l2One_ok _ _ _ _ hx23) (fun p24 => ?_)
     refine C_new rfl (N_buildSliceT (g := true) sl27.h ty86.h (.cons (.tmp rfl rfl) .nil) (vs := [(.agg [(.int .i64 r22.Rel), p24.1.v].toArray)]) rfl rfl rfl (by intro v hv; simp at hv; rcases hv with rfl <;> rfl)) (fun k25 => ?_)
     refine Cv1 (.cons .h (.cons .h .nil)) (own_lit (Ro := ow86) (E := 86) (F := (p24.2 ++ [])) (xs := ([r22] : List Fact)) (MkL_cons mk86 MkL_nil apps) rfl rfl) ?_
     refine bnd hF fun z26 hx27 hF => C_x1 (.cons (.t (.t (.t (.t .h)))) (.cons .h .nil)) (X_appendO (Ro := ow86) sl27.h ni27 ty86.h rfl rfl rfl (.tmp rfl rfl) (.tmp rfl rfl) hx27 src_own) (fun p28 => ?_)
     iterate 7 refine au ?_
     cases hF
     exact Er (p28.1, p28.2)
   iterate 6 refine au ?_
   cases hF
   exact Er (v7, F8)
 obtain ⟨hk17, hx18, hd19⟩ := drop_cons hd16
 rw [s_AddFact_L1] at hF
 iterate 7 refine au ?_
 refine CdT ?_
 refine au ?_
 obtain ⟨o30, hio30, hO31⟩ := bind_some hF
 refine K_cut (fun f' cs' => ∃ (c75 : List Fact) (c78 : Bool) (v76 : Sv) (F77 : List Nat) (g : Fr), o30 = (c75, c78) ∧ f' = updL g [(0, v0_0.v), (3, (pz k1)), (5, v76.v), (6, (.bool c78)), (7, (.int .i64 (k13 : Int)))] ∧ Ent cs' [crd (RdS 86 rd86) v0_0.v a_l, cboR k1 86 (.agg [(.int .i64 a_f.Rel), v1_1.v].toArray), crd (RdS 3 rdInt) v1_1.v a_f.Values, cown (OwnS 86 ow86) F77 v76.v c75]) ?_ ?_
 · replace hF := hio30
   refine CW_block (K_in ?_)
   obtain ⟨o32, hio32, hO33⟩ := bind_some hF
   refine K_draw [0, 1, 2, 3, 4, 5, 6, 7, 8, 9, 10] [0, 1, 3, 7, 7, 7, 55, 119, 255, 511, 1023] [8] mixed (by decide +kernel) ?_
   refine D_cut (fun f' cs' => ∃ (c41 : Bool) (g : Fr), c41 = o32 ∧ f' = updL g [(0, v0_0.v), (3, (pz k1)), (5, v7.v), (6, (.bool c9)), (7, (.int .i64 (k13 : Int))), (28, (.bool c41))] ∧ Ent cs' [crd (RdS 86 rd86) v0_0.v a_l, cboR k1 86 (.agg [(.int .i64 a_f.Rel), v1_1.v].toArray), crd (RdS 3 rdInt) v1_1.v a_f.Values, cown (OwnS 86 ow86) F8 v7.v c6]) ?_ ?_
   · replace hF := hio32
     iterate 3 refine du ?_
     rcases Bool.eq_false_or_eq_true (!c9) with hg34 | hg34
     · rw [hg34]
       try rw [hg34] at hF; dsimp only [cond_true, cond_false] at hF
       iterate 3 refine du ?_
       refine Di hx18 (fun k35 j36 => ?_)
       refine DlA1 (ul86_0_86 x15) la86_0_86 (fun p37 => ?_)
       refine bnd hF fun r38 hx39 hF => Dx0 (s_CompareFacts_ok _ _ _ _ _ hx39) (fun _ => ?_)
       iterate 3 refine du ?_
       cases hF
       exact ⟨_, _, rfl, eqA, entA⟩
     rw [hg34]
     try rw [hg34] at hF; dsimp only [cond_true, cond_false] at hF
     iterate 9 refine du ?_
     cases hF
     exact ⟨_, _, rfl, eqA, entA⟩
   rintro _ _ ⟨c41, g74, rfl, rfl, hE⟩
   replace hF := hO33
   try dsimp only at hF
   refine K_ent hE ?_
   refine Ci hF (fun hb73 hF => ?_) (fun hb73 hF => ?_)
   · iterate 6 refine au ?_
     refine bnd hF fun r42 hx43 hF => Cx1 (s_l2One_ok _ _ _ _ hx43) (fun p44 => ?_)
     refine C_new rfl (N_buildSliceT (g := true) sl27.h ty86.h (.cons (.tmp rfl rfl) .nil) (vs := [(.agg [(.int .i64 r42.Rel), p44.1.v].toArray)]) rfl rfl rfl (by intro v hv; simp at hv; rcases hv with rfl <;> rfl)) (fun k45 => ?_)
     refine Cv1 (.cons .h (.cons .h .nil)) (own_lit (Ro := ow86) (E := 86) (F := (p44.2 ++ [])) (xs := ([r42] : List Fact)) (MkL_cons mk86 MkL_nil apps) rfl rfl) ?_
     refine bnd hF fun z46 hx47 hF => C_x1 (.cons (.t (.t (.t (.t .h)))) (.cons .h .nil)) (X_appendO (Ro := ow86) sl27.h ni27 ty86.h rfl rfl rfl (.tmp rfl rfl) (.tmp rfl rfl) hx47 src_own) (fun p48 => ?_)
     iterate 5 refine au ?_
     refine CW_draw [0, 1, 2, 3, 4, 5, 6, 7, 8, 9, 10, 11, 12, 13, 14] [0, 0, 0, 6, 14, 30, 0, 0, 192, 448, 960, 2046, 4094, 8191, 16383] [11, 13] mixed (by decide +kernel) ?_
     iterate 3 refine du ?_
     refine Di hx18 (fun k49 j50 => ?_)
     refine du ?_
     refine Dl ls86_0 ?_
     iterate 2 refine du ?_
     refine Di hx18 (fun k51 j52 => ?_)
     refine du ?_
     refine D_ldV (R' := (RdS 3 rdInt)) ag24.h rfl .no (.tmp rfl rfl) rfl .h lv86_1 (fun w53 => ?_)
     refine bnd hF fun r54 hx55 hF => Dx1 (s_l2One_ok _ _ _ _ hx55) (fun p56 => ?_)
     refine D_new rfl .no rfl (fun ha => N_buildSliceT (g := true) (len := 1) (parts := [(0, .tmp 48)]) sl27.h ty86.h (.cons (EN ha (.tmp rfl rfl) rfl) .nil) (vs := [(.agg [(.int .i64 r54.Rel), p56.1.v].toArray)]) rfl rfl rfl (by intro v hv; simp at hv; rcases hv with rfl <;> rfl)) (fun k57 => ?_)
     refine Dv1 (.cons .h (.cons .h .nil)) (own_lit (Ro := ow86) (E := 86) (F := (p56.2 ++ [])) (xs := ([r54] : List Fact)) (MkL_cons mk86 MkL_nil apps) rfl rfl) ?_
     refine bnd hF fun z58 hx59 hF => D_act1 rfl rfl .no (.cons (.t (.t (.t (.t .h)))) (.cons .h .nil)) (.dep rfl .nil) (fun ha => X_appendO (Ro := ow86) sl27.h ni27 ty86.h rfl rfl rfl (EN ha (.tmp rfl rfl) rfl) (EN ha (.tmp rfl rfl) rfl) hx59 src_own) (fun p60 => ?_)
     iterate 2 refine du ?_
     cases hF
     exact ⟨_, _, p60.1, p60.2, _, rfl, eqA, entA⟩
   refine au ?_
   refine CW_draw [0, 1, 2, 3, 4, 5, 6, 7, 8, 9, 10, 11, 12, 13, 14] [0, 0, 0, 6, 14, 30, 0, 0, 192, 448, 960, 2046, 4094, 8191, 16383] [11, 13] mixed (by decide +kernel) ?_
   iterate 3 refine du ?_
   refine Di hx18 (fun k61 j62 => ?_)
   refine du ?_
   refine Dl ls86_0 ?_
   iterate 2 refine du ?_
   refine Di hx18 (fun k63 j64 => ?_)
   refine du ?_
   refine D_ldV (R' := (RdS 3 rdInt)) ag24.h rfl .no (.tmp rfl rfl) rfl .h lv86_1 (fun w65 => ?_)
   refine bnd hF fun r66 hx67 hF => Dx1 (s_l2One_ok _ _ _ _ hx67) (fun p68 => ?_)
   refine D_new rfl .no rfl (fun ha => N_buildSliceT (g := true) (len := 1) (parts := [(0, .tmp 48)]) sl27.h ty86.h (.cons (EN ha (.tmp rfl rfl) rfl) .nil) (vs := [(.agg [(.int .i64 r66.Rel), p68.1.v].toArray)]) rfl rfl rfl (by intro v hv; simp at hv; rcases hv with rfl <;> rfl)) (fun k69 => ?_)
   refine Dv1 (.cons .h (.cons .h .nil)) (own_lit (Ro := ow86) (E := 86) (F := (p68.2 ++ [])) (xs := ([r66] : List Fact)) (MkL_cons mk86 MkL_nil apps) rfl rfl) ?_
   refine bnd hF fun z70 hx71 hF => D_act1 rfl rfl .no (.cons (.t (.t (.t (.t (.t (.t (.t .h))))))) (.cons .h .nil)) (.dep rfl .nil) (fun ha => X_appendO (Ro := ow86) sl27.h ni27 ty86.h rfl rfl rfl (EN ha (.tmp rfl rfl) rfl) (EN ha (.tmp rfl rfl) rfl) hx71 src_own) (fun p72 => ?_)
   iterate 2 refine du ?_
   cases hF
   exact ⟨_, _, p72.1, p72.2, _, rfl, eqA, entA⟩
 rintro _ _ ⟨c75, c78, v76, F77, g80, rfl, rfl, hE⟩
 replace hF := hO31
 try dsimp only at hF
 refine K_ent hE ?_
 iterate 5 refine au ?_
 rw [wk k13]
 exact ⟨_, Nat.lt_succ_self _, _, k13 + 1, rest14, _, _, v76, F77, rfl, eqA, hd19, entA, hF⟩
def s_l2Facts_L1 (a_c : l1Cur) (a_s : List Int) (fuel : Nat) : Nat → Int → Int → (List Fact) → Int → Option ((List Fact) × l1Cur)
 | 0, _, _, _, _ => none
 | m29 + 1, c23, c24, c25, c28 => if (decide ((0 : Int) < c28)) then (
     (s_l2Fact fuel ({ b := a_c.b, i := c23, h := c24 } : l1Cur) a_s 4).bind fun r37 =>
     (s_AddFact c25 r37.1).bind fun r40 =>
     s_l2Facts_L1 a_c a_s fuel m29 r37.2.i r37.2.h r40 (IntKind.i64.wrap (c28 - 1)))
   else (
     some (c25, ({ b := a_c.b, i := c23, h := c24 } : l1Cur)))
def s_l2Facts (fuel : Nat) (a_c : l1Cur) (a_s : List Int) (a_most : Int) : Option ((List Fact) × l1Cur) :=
 (s_l1Below a_c (IntKind.i64.wrap (a_most + 1))).bind fun r2 =>
 s_l2Facts_L1 a_c a_s fuel ((r2.1 - 0).toNat + 2) r2.2.i r2.2.h ([] : List Fact) r2.1
theorem s_l2Facts_ok (fuel : Nat) (kq0 : Nat) (a_c : l1Cur) (v0_0 : Sv) (a_s : List Int) (v1_0 : Sv) (a_most : Int) (R : (List Fact) × l1Cur) (hF : s_l2Facts fuel a_c a_s a_most = some R) :
   Fw.Spec Tryz.prog 189 [(pz kq0), v1_0.v, (.int .i64 a_most)] [cbox kq0 112 (.agg [v0_0.v, (.int .i64 a_c.i), (.int .i64 a_c.h)].toArray), crd (RdS 5 rdU8) v0_0.v a_c.b, crd (RdS 3 rdInt) v1_0.v a_s] (fun p : Sv × List Nat => p.1.v) (fun p => [cown (OwnS 86 ow86) p.2 p.1.v R.1, cbox kq0 112 (.agg [v0_0.v, (.int .i64 R.2.i), (.int .i64 R.2.h)].toArray)]) := by
 refine Se 24 Tryz.func189 [.tmp 6] ?_
 intro H0 F0
 unfold s_l2Facts at hF
 iterate 4 refine au ?_
 refine C_new rfl (N_buildSliceT (g := true) sl27.h ty86.h .nil (vs := []) rfl rfl rfl (by simp)) (fun k1 => ?_)
 refine Cv1 (.cons .h .nil) (own_lit (Ro := ow86) (E := 86) (F := []) (xs := ([] : List Fact)) MkL_nil rfl rfl) ?_
 iterate 7 refine au ?_
 refine bnd hF fun r2 hx3 hF => Cx1 (s_l1Below_ok _ _ _ _ _ hx3) (fun p4 => ?_)
 iterate 2 refine au ?_
 refine CW_block (CW_loop (m := ((r2.1 - 0).toNat + 2)) (fun m29 f' cs' => ∃ (g : Fr) (c23 : Int) (c24 : Int) (c25 : List Fact) (c28 : Int) (v26 : Sv) (F27 : List Nat), f' = updL g [(0, (pz kq0)), (1, v1_0.v), (7, v26.v), (8, (.int .i64 c28))] ∧ Ent cs' [cbox kq0 112 (.agg [v0_0.v, (.int .i64 c23), (.int .i64 c24)].toArray), crd (RdS 5 rdU8) v0_0.v a_c.b, crd (RdS 3 rdInt) v1_0.v a_s, cown (OwnS 86 ow86) F27 v26.v c25] ∧ s_l2Facts_L1 a_c a_s fuel m29 c23 c24 c25 c28 = some R) ⟨_, _, _, _, _, ⟨(some ⟨k1, 0, none⟩), 0, 1⟩, (k1 :: []), eqA, entA, hF⟩ ?_)
 rintro m29 _ _ ⟨g30, c23, c24, c25, c28, v26, F27, rfl, hE, hF⟩
 refine K_ent hE ?_
 rcases m29 with _ | m29
 · rw [s_l2Facts_L1] at hF
   exact absurd hF (by simp)
 rw [s_l2Facts_L1] at hF
 iterate 5 refine au ?_
 refine Ci hF (fun hb43 hF => ?_) (fun hb43 hF => ?_)
 · iterate 6 refine au ?_
   refine bnd hF fun r37 hx38 hF => Cx2 (s_l2Fact_ok _ _ _ _ _ _ _ _ hx38) (fun p39 => ?_)
   refine bnd hF fun r40 hx41 hF => C_x3 (.cons .h (.cons (.t (.t (.t .h))) .nil)) (XC_borL (pre := []) (.cons frz_own (.cons frz_own .nil)) (fun _ => (.cons .nil)) (X_callS cf123.h (.cons (.tmp rfl rfl) (.cons (.tmp rfl rfl) .nil)) (s_AddFact_ok c25 v26 r37.1 p39.1 _ hx41))) (fun p42 => ?_)
   iterate 7 refine au ?_
   exact ⟨m29, Nat.lt_succ_self _, _, _, _, _, _, p42.1, p42.2, eqA, entA, hF⟩
 iterate 9 refine au ?_
 cases hF
 exact Er (v26, F27)
def s_l2AnyFact (fuel : Nat) (a_c : l1Cur) (a_s : List Int) : Option (Fact × l1Cur) :=
 (s_IsSchema a_s).bind fun r4 =>
 if r4 then (
   (s_l2Fact fuel a_c a_s 10).bind fun r7 =>
   (s_l1Below ({ b := a_c.b, i := r7.2.i, h := r7.2.h } : l1Cur) 8).bind fun r10 =>
   if ((r10.1 : Int) == 0) then (
     (s_l1Below ({ b := a_c.b, i := r10.2.i, h := r10.2.h } : l1Cur) 5).bind fun r13 =>
     some (({ Rel := (IntKind.i64.wrap (r13.1 - 1)), Values := r7.1.Values } : Fact), ({ b := a_c.b, i := r13.2.i, h := r13.2.h } : l1Cur)))
   else (
     if ((r10.1 : Int) == 1) then (
       (s_l1PickInt ({ b := a_c.b, i := r10.2.i, h := r10.2.h } : l1Cur) ([(-1), 9, 10] : List Int)).bind fun r17 =>
       (chk (decide (0 ≤ 0) && decide (0 < (r7.1.Values.length : Int)))).bind fun u23 =>
       (some (r7.1.Values.set (0 : Int).toNat r17.1)).bind fun z25 =>
       some (({ Rel := r7.1.Rel, Values := z25 } : Fact), ({ b := a_c.b, i := r17.2.i, h := r17.2.h } : l1Cur)))
     else (
       if ((r10.1 : Int) == 2) then (
         (app r7.1.Values ([1] : List Int)).bind fun z29 =>
         some (({ Rel := r7.1.Rel, Values := z29 } : Fact), ({ b := a_c.b, i := r10.2.i, h := r10.2.h } : l1Cur)))
       else (
         some (r7.1, ({ b := a_c.b, i := r10.2.i, h := r10.2.h } : l1Cur))))))
 else (
   (s_l1Below a_c 8).bind fun r35 =>
   if ((r35.1 : Int) == 0) then (
     (s_l1Below ({ b := a_c.b, i := r35.2.i, h := r35.2.h } : l1Cur) 5).bind fun r38 =>
     some (({ Rel := (IntKind.i64.wrap (r38.1 - 1)), Values := ([1] : List Int) } : Fact), ({ b := a_c.b, i := r38.2.i, h := r38.2.h } : l1Cur)))
   else (
     if ((r35.1 : Int) == 1) then (
       (s_l1PickInt ({ b := a_c.b, i := r35.2.i, h := r35.2.h } : l1Cur) ([(-1), 9, 10] : List Int)).bind fun r42 =>
       (chk (decide (0 ≤ 0) && decide (0 < (([1] : List Int).length : Int)))).bind fun u48 =>
       (some (([1] : List Int).set (0 : Int).toNat r42.1)).bind fun z50 =>
       some (({ Rel := 0, Values := z50 } : Fact), ({ b := a_c.b, i := r42.2.i, h := r42.2.h } : l1Cur)))
     else (
       if ((r35.1 : Int) == 2) then (
         (app ([1] : List Int) ([1] : List Int)).bind fun z54 =>
         some (({ Rel := 0, Values := z54 } : Fact), ({ b := a_c.b, i := r35.2.i, h := r35.2.h } : l1Cur)))
       else (
         some (({ Rel := 0, Values := ([1] : List Int) } : Fact), ({ b := a_c.b, i := r35.2.i, h := r35.2.h } : l1Cur))))))
theorem s_l2AnyFact_ok (fuel : Nat) (kq0 : Nat) (a_c : l1Cur) (v0_0 : Sv) (a_s : List Int) (v1_0 : Sv) (R : Fact × l1Cur) (hF : s_l2AnyFact fuel a_c a_s = some R) :
   Fw.Spec Tryz.prog 190 [(pz kq0), v1_0.v] [cbox kq0 112 (.agg [v0_0.v, (.int .i64 a_c.i), (.int .i64 a_c.h)].toArray), crd (RdS 5 rdU8) v0_0.v a_c.b, crd (RdS 3 rdInt) v1_0.v a_s] (fun p : Sv × List Nat => (.agg [(.int .i64 R.1.Rel), p.1.v].toArray)) (fun p => [cown (OwnS 3 (roE rdInt)) p.2 p.1.v R.1.Values, cbox kq0 112 (.agg [v0_0.v, (.int .i64 R.2.i), (.int .i64 R.2.h)].toArray)]) := by
 refine Se 37 Tryz.func190 [.cell 4 86] ?_
 intro H0 F0
 unfold s_l2AnyFact at hF
 refine au ?_
 refine AnW (fun k1 => ?_)
 iterate 2 refine au ?_
 refine C_new rfl (N_buildSliceT (g := true) sl24.h ty3.h (.cons (.int _ _) .nil) (vs := [(.int .i64 1)]) rfl rfl rfl (by intro v hv; simp at hv; rcases hv with rfl <;> rfl)) (fun k2 => ?_)
 refine Cv1 (.cons .h .nil) (own_lit (Ro := (roE rdInt)) (E := 3) (F := ([] ++ [])) (xs := ([1] : List Int)) (MkL_cons (Mk_pure (fun _ => rfl)) MkL_nil apps) rfl rfl) ?_
 refine C_val (V_build ty86.h rfl (vs := [(.slice (some ⟨k2, 0, none⟩) 1 1)]) (.cons (.tmp rfl rfl) .nil) (cells := [(.int .i64 0), (.slice (some ⟨k2, 0, none⟩) 1 1)]) rfl) ?_
 refine AnW (fun k3 => ?_)
 refine As (.agg [(.int .i64 0), (.slice (some ⟨k2, 0, none⟩) 1 1)].toArray) ?_
 iterate 4 refine au ?_
 refine bnd hF fun r4 hx5 hF => Cx0 (s_IsSchema_ok _ _ _ hx5) (fun _ => ?_)
 refine au ?_
 refine Ci hF (fun hb60 hF => ?_) (fun hb60 hF => ?_)
 · iterate 3 refine au ?_
   refine bnd hF fun r7 hx8 hF => Cx2 (s_l2Fact_ok _ _ _ _ _ _ _ _ hx8) (fun p9 => ?_)
   refine As (.agg [(.int .i64 r7.1.Rel), p9.1.v].toArray) ?_
   iterate 4 refine au ?_
   refine bnd hF fun r10 hx11 hF => Cx1 (s_l1Below_ok _ _ _ _ _ hx11) (fun p12 => ?_)
   refine au ?_
   refine CW_block (K_region (C_val (V_eql (i := r10.1) (j := 0) (.tmp rfl rfl) (.int _ _)) ?_))
   iterate 2 refine au ?_
   refine Ci hF (fun hb34 hF => ?_) (fun hb34 hF => ?_)
   · iterate 2 refine au ?_
     refine bnd hF fun r13 hx14 hF => Cx1 (s_l1Below_ok _ _ _ _ _ hx14) (fun p15 => ?_)
     iterate 2 refine au ?_
     refine As (.agg [(.int .i64 (IntKind.i64.wrap (r13.1 - 1))), p9.1.v].toArray) ?_
     iterate 3 refine au ?_
     refine As (.agg [(.int .i64 (IntKind.i64.wrap (r13.1 - 1))), p9.1.v].toArray) ?_
     iterate 2 refine au ?_
     cases hF
     exact Er (p9.1, p9.2)
   iterate 4 refine au ?_
   refine Ci hF (fun hb33 hF => ?_) (fun hb33 hF => ?_)
   · refine CW_draw [0, 1, 2, 3, 4, 5, 6] [0, 1, 0, 0, 12, 31, 63] [4, 6] mixed (by decide +kernel) ?_
     refine du ?_
     refine D_atO rfl .no (.t .h) (fun ha hp => V_load (v := p9.1.v) ag24.h (EN ha (.tmp rfl rfl) rfl) hp.2 rfl rfl) ?_
     refine du ?_
     refine D_new rfl .no rfl (fun ha => N_buildSliceT (g := true) (len := 3) (parts := [(0, .const (.int .i64 (-1))), (1, .const (.int .i64 9)), (2, .const (.int .i64 10))]) sl24.h ty3.h (.cons (EN ha (.int _ _) rfl) (.cons (EN ha (.int _ _) rfl) (.cons (EN ha (.int _ _) rfl) .nil))) (vs := [(.int .i64 (-1)), (.int .i64 9), (.int .i64 10)]) rfl rfl rfl (by intro v hv; simp at hv; rcases hv with rfl | rfl | rfl <;> rfl)) (fun k16 => ?_)
     refine Dv1 (.cons .h .nil) (own_lit (Ro := (roE rdInt)) (E := 3) (F := ([] ++ ([] ++ ([] ++ [])))) (xs := ([(-1), 9, 10] : List Int)) (MkL_cons (Mk_pure (fun _ => rfl)) (MkL_cons (Mk_pure (fun _ => rfl)) (MkL_cons (Mk_pure (fun _ => rfl)) MkL_nil apps) apps) apps) rfl rfl) ?_
     refine bnd hF fun r17 hx18 hF => D_act2 rfl rfl .no (.cons .h (.cons .h (.rd (.t (.t (.t (.t .h)))) rfl .nil))) (.dep rfl (.own .h (fun _ h => h) .nil)) (fun ha => XC_bor frz_own (fun _ => (.cons .nil)) (XC_pre (.cons (.t .h) (.rd (.t .h) rfl (.rd .h rfl .nil))) (X_callS cf90.h (.cons (EN ha (.tmp rfl rfl) rfl) (.cons (EN ha (.tmp rfl rfl) rfl) .nil)) (s_l1PickInt_ok kq0 ({ b := a_c.b, i := r10.2.i, h := r10.2.h } : l1Cur) v0_0 ([(-1), 9, 10] : List Int) (⟨(some ⟨k16, 0, none⟩), 3, 1⟩) _ hx18)))) (fun p19 => ?_)
     refine bnd hF fun u23 hx24 hF => ?_
     have hi22 := chk_some hx24
     refine D_idxO sl24.h ty3.h.sz rfl .no (.tmp rfl rfl) (.int _ _) rfl rfl (.t (.t (.t .h))) hi22 (fun k20 hk21 => ?_)
     refine bnd hF fun z25 hx26 hF => ?_
     replace hx26 := Option.some.inj hx26
     refine D_act1 rfl rfl .no (.cons (.t (.t (.t .h))) .nil) (.dep rfl (.dep rfl (.dep rfl .nil))) (fun ha => X_storeO (Ro := (roE rdInt)) (a := r17.1) (i := 0) ty3.h.sz rfl (EN ha (.tmp rfl rfl) rfl) (EN ha (.tmp rfl rfl) rfl) hk21 hi22 (Mk_pure (fun _ => rfl)) (fun _ _ _ _ h => by obtain ⟨-, h⟩ := h; cases h; rfl)) (fun F27 => ?_)
     rw [hx26]
     refine du ?_
     iterate 2 refine au ?_
     refine As (.agg [(.int .i64 r7.1.Rel), p9.1.v].toArray) ?_
     iterate 2 refine au ?_
     cases hF
     exact Er (p9.1, F27)
   iterate 4 refine au ?_
   refine Ci hF (fun hb32 hF => ?_) (fun hb32 hF => ?_)
   · iterate 3 refine au ?_
     refine C_new rfl (N_buildSliceT (g := true) sl24.h ty3.h (.cons (.int _ _) .nil) (vs := [(.int .i64 1)]) rfl rfl rfl (by intro v hv; simp at hv; rcases hv with rfl <;> rfl)) (fun k28 => ?_)
     refine Cv1 (.cons .h .nil) (own_lit (Ro := (roE rdInt)) (E := 3) (F := ([] ++ [])) (xs := ([1] : List Int)) (MkL_cons (Mk_pure (fun _ => rfl)) MkL_nil apps) rfl rfl) ?_
     refine bnd hF fun z29 hx30 hF => C_x1 (.cons (.t (.t (.t .h))) (.cons .h .nil)) (X_appendO (Ro := (roE rdInt)) sl24.h ni24 ty3.h rfl rfl rfl (.tmp rfl rfl) (.tmp rfl rfl) hx30 src_own) (fun p31 => ?_)
     refine au ?_
     refine As (.agg [(.int .i64 r7.1.Rel), p31.1.v].toArray) ?_
     iterate 3 refine au ?_
     refine As (.agg [(.int .i64 r7.1.Rel), p31.1.v].toArray) ?_
     iterate 2 refine au ?_
     cases hF
     exact Er (p31.1, p31.2)
   iterate 3 refine au ?_
   refine As (.agg [(.int .i64 r7.1.Rel), p9.1.v].toArray) ?_
   iterate 2 refine au ?_
   cases hF
   exact Er (p9.1, p9.2)
 iterate 4 refine au ?_
 refine bnd hF fun r35 hx36 hF => Cx1 (s_l1Below_ok _ _ _ _ _ hx36) (fun p37 => ?_)
 refine au ?_
 refine CW_block (K_region (C_val (V_eql (i := r35.1) (j := 0) (.tmp rfl rfl) (.int _ _)) ?_))
 iterate 2 refine au ?_
 refine Ci hF (fun hb59 hF => ?_) (fun hb59 hF => ?_)
 · iterate 2 refine au ?_
   refine bnd hF fun r38 hx39 hF => Cx1 (s_l1Below_ok _ _ _ _ _ hx39) (fun p40 => ?_)
   iterate 2 refine au ?_
   refine As (.agg [(.int .i64 (IntKind.i64.wrap (r38.1 - 1))), (.slice (some ⟨k2, 0, none⟩) 1 1)].toArray) ?_
   iterate 3 refine au ?_
   refine As (.agg [(.int .i64 (IntKind.i64.wrap (r38.1 - 1))), (.slice (some ⟨k2, 0, none⟩) 1 1)].toArray) ?_
   iterate 2 refine au ?_
   cases hF
   exact Er (⟨(some ⟨k2, 0, none⟩), 1, 1⟩, (k2 :: ([] ++ [])))
 iterate 4 refine au ?_
 refine Ci hF (fun hb58 hF => ?_) (fun hb58 hF => ?_)
 · refine CW_draw [0, 1, 2, 3, 4, 5, 6] [0, 1, 0, 0, 12, 31, 63] [4, 6] mixed (by decide +kernel) ?_
   refine du ?_
   refine D_atO rfl .no (.t .h) (fun ha hp => V_load (v := (.slice (some ⟨k2, 0, none⟩) 1 1)) ag24.h (EN ha (.tmp rfl rfl) rfl) hp.2 rfl rfl) ?_
   refine du ?_
   refine D_new rfl .no rfl (fun ha => N_buildSliceT (g := true) (len := 3) (parts := [(0, .const (.int .i64 (-1))), (1, .const (.int .i64 9)), (2, .const (.int .i64 10))]) sl24.h ty3.h (.cons (EN ha (.int _ _) rfl) (.cons (EN ha (.int _ _) rfl) (.cons (EN ha (.int _ _) rfl) .nil))) (vs := [(.int .i64 (-1)), (.int .i64 9), (.int .i64 10)]) rfl rfl rfl (by intro v hv; simp at hv; rcases hv with rfl | rfl | rfl <;> rfl)) (fun k41 => ?_)
   refine Dv1 (.cons .h .nil) (own_lit (Ro := (roE rdInt)) (E := 3) (F := ([] ++ ([] ++ ([] ++ [])))) (xs := ([(-1), 9, 10] : List Int)) (MkL_cons (Mk_pure (fun _ => rfl)) (MkL_cons (Mk_pure (fun _ => rfl)) (MkL_cons (Mk_pure (fun _ => rfl)) MkL_nil apps) apps) apps) rfl rfl) ?_
   refine bnd hF fun r42 hx43 hF => D_act2 rfl rfl .no (.cons .h (.cons .h (.rd (.t (.t (.t .h))) rfl .nil))) (.dep rfl (.own .h (fun _ h => h) .nil)) (fun ha => XC_bor frz_own (fun _ => (.cons .nil)) (XC_pre (.cons (.t .h) (.rd (.t .h) rfl (.rd .h rfl .nil))) (X_callS cf90.h (.cons (EN ha (.tmp rfl rfl) rfl) (.cons (EN ha (.tmp rfl rfl) rfl) .nil)) (s_l1PickInt_ok kq0 ({ b := a_c.b, i := r35.2.i, h := r35.2.h } : l1Cur) v0_0 ([(-1), 9, 10] : List Int) (⟨(some ⟨k41, 0, none⟩), 3, 1⟩) _ hx43)))) (fun p44 => ?_)
   refine bnd hF fun u48 hx49 hF => ?_
   have hi47 := chk_some hx49
   refine D_idxO sl24.h ty3.h.sz rfl .no (.tmp rfl rfl) (.int _ _) rfl rfl (.t (.t (.t .h))) hi47 (fun k45 hk46 => ?_)
   refine bnd hF fun z50 hx51 hF => ?_
   replace hx51 := Option.some.inj hx51
   refine D_act1 rfl rfl .no (.cons (.t (.t (.t .h))) .nil) (.dep rfl (.dep rfl (.dep rfl .nil))) (fun ha => X_storeO (Ro := (roE rdInt)) (a := r42.1) (i := 0) ty3.h.sz rfl (EN ha (.tmp rfl rfl) rfl) (EN ha (.tmp rfl rfl) rfl) hk46 hi47 (Mk_pure (fun _ => rfl)) (fun _ _ _ _ h => by obtain ⟨-, h⟩ := h; cases h; rfl)) (fun F52 => ?_)
   rw [hx51]
   refine du ?_
   iterate 2 refine au ?_
   refine As (.agg [(.int .i64 0), (.slice (some ⟨k2, 0, none⟩) 1 1)].toArray) ?_
   iterate 2 refine au ?_
   cases hF
   exact Er (⟨(some ⟨k2, 0, none⟩), 1, 1⟩, F52)
 iterate 4 refine au ?_
 refine Ci hF (fun hb57 hF => ?_) (fun hb57 hF => ?_)
 · iterate 3 refine au ?_
   refine C_new rfl (N_buildSliceT (g := true) sl24.h ty3.h (.cons (.int _ _) .nil) (vs := [(.int .i64 1)]) rfl rfl rfl (by intro v hv; simp at hv; rcases hv with rfl <;> rfl)) (fun k53 => ?_)
   refine Cv1 (.cons .h .nil) (own_lit (Ro := (roE rdInt)) (E := 3) (F := ([] ++ [])) (xs := ([1] : List Int)) (MkL_cons (Mk_pure (fun _ => rfl)) MkL_nil apps) rfl rfl) ?_
   refine bnd hF fun z54 hx55 hF => C_x1 (.cons (.t (.t (.t .h))) (.cons .h .nil)) (X_appendO (Ro := (roE rdInt)) sl24.h ni24 ty3.h rfl rfl rfl (.tmp rfl rfl) (.tmp rfl rfl) hx55 src_own) (fun p56 => ?_)
   refine au ?_
   refine As (.agg [(.int .i64 0), p56.1.v].toArray) ?_
   iterate 3 refine au ?_
   refine As (.agg [(.int .i64 0), p56.1.v].toArray) ?_
   iterate 2 refine au ?_
   cases hF
   exact Er (p56.1, p56.2)
 iterate 3 refine au ?_
 refine As (.agg [(.int .i64 0), (.slice (some ⟨k2, 0, none⟩) 1 1)].toArray) ?_
 iterate 2 refine au ?_
 cases hF
 exact Er (⟨(some ⟨k2, 0, none⟩), 1, 1⟩, (k2 :: ([] ++ [])))
def s_l2AnyFacts (fuel : Nat) (a_c : l1Cur) (a_s : List Int) : Option ((List Fact) × l1Cur) :=
 (s_IsSchema a_s).bind fun r2 =>
 if r2 then (
   (s_l2Facts fuel a_c a_s 8).bind fun r5 =>
   (s_l1Once ({ b := a_c.b, i := r5.2.i, h := r5.2.h } : l1Cur) 10).bind fun r8 =>
   if r8.1 then (
     (s_l2AnyFact fuel ({ b := a_c.b, i := r8.2.i, h := r8.2.h } : l1Cur) a_s).bind fun r11 =>
     (app r5.1 ([r11.1] : List Fact)).bind fun z15 =>
     some (z15, ({ b := a_c.b, i := r11.2.i, h := r11.2.h } : l1Cur)))
   else (
     some (r5.1, ({ b := a_c.b, i := r8.2.i, h := r8.2.h } : l1Cur))))
 else (
   (s_l1Once a_c 10).bind fun r19 =>
   if r19.1 then (
     (s_l2AnyFact fuel ({ b := a_c.b, i := r19.2.i, h := r19.2.h } : l1Cur) a_s).bind fun r22 =>
     (app ([] : List Fact) ([r22.1] : List Fact)).bind fun z26 =>
     some (z26, ({ b := a_c.b, i := r22.2.i, h := r22.2.h } : l1Cur)))
   else (
     some (([] : List Fact), ({ b := a_c.b, i := r19.2.i, h := r19.2.h } : l1Cur))))
theorem s_l2AnyFacts_ok (fuel : Nat) (kq0 : Nat) (a_c : l1Cur) (v0_0 : Sv) (a_s : List Int) (v1_0 : Sv) (R : (List Fact) × l1Cur) (hF : s_l2AnyFacts fuel a_c a_s = some R) :
   Fw.Spec Tryz.prog 125 [(pz kq0), v1_0.v] [cbox kq0 112 (.agg [v0_0.v, (.int .i64 a_c.i), (.int .i64 a_c.h)].toArray), crd (RdS 5 rdU8) v0_0.v a_c.b, crd (RdS 3 rdInt) v1_0.v a_s] (fun p : Sv × List Nat => p.1.v) (fun p => [cown (OwnS 86 ow86) p.2 p.1.v R.1, cbox kq0 112 (.agg [v0_0.v, (.int .i64 R.2.i), (.int .i64 R.2.h)].toArray)]) := by
 refine Se 21 Tryz.func125 [.tmp 4] ?_
 intro H0 F0
 unfold s_l2AnyFacts at hF
 iterate 4 refine au ?_
 refine C_new rfl (N_buildSliceT (g := true) sl27.h ty86.h .nil (vs := []) rfl rfl rfl (by simp)) (fun k1 => ?_)
 refine Cv1 (.cons .h .nil) (own_lit (Ro := ow86) (E := 86) (F := []) (xs := ([] : List Fact)) MkL_nil rfl rfl) ?_
 iterate 5 refine au ?_
 refine bnd hF fun r2 hx3 hF => Cx0 (s_IsSchema_ok _ _ _ hx3) (fun _ => ?_)
 refine au ?_
 refine Ci hF (fun hb30 hF => ?_) (fun hb30 hF => ?_)
 · iterate 3 refine au ?_
   refine bnd hF fun r5 hx6 hF => Cx2 (s_l2Facts_ok _ _ _ _ _ _ _ _ hx6) (fun p7 => ?_)
   iterate 5 refine au ?_
   refine bnd hF fun r8 hx9 hF => Cx1 (s_l1Once_ok _ _ _ _ _ hx9) (fun p10 => ?_)
   refine au ?_
   refine Ci hF (fun hb18 hF => ?_) (fun hb18 hF => ?_)
   · iterate 4 refine au ?_
     refine bnd hF fun r11 hx12 hF => Cx2 (s_l2AnyFact_ok _ _ _ _ _ _ _ hx12) (fun p13 => ?_)
     refine C_new rfl (N_buildSliceT (g := true) sl27.h ty86.h (.cons (.tmp rfl rfl) .nil) (vs := [(.agg [(.int .i64 r11.1.Rel), p13.1.v].toArray)]) rfl rfl rfl (by intro v hv; simp at hv; rcases hv with rfl <;> rfl)) (fun k14 => ?_)
     refine Cv1 (.cons .h (.cons .h .nil)) (own_lit (Ro := ow86) (E := 86) (F := (p13.2 ++ [])) (xs := ([r11.1] : List Fact)) (MkL_cons mk86 MkL_nil apps) rfl rfl) ?_
     refine bnd hF fun z15 hx16 hF => C_x1 (.cons (.t (.t .h)) (.cons .h .nil)) (X_appendO (Ro := ow86) sl27.h ni27 ty86.h rfl rfl rfl (.tmp rfl rfl) (.tmp rfl rfl) hx16 src_own) (fun p17 => ?_)
     iterate 7 refine au ?_
     cases hF
     exact Er (p17.1, p17.2)
   iterate 6 refine au ?_
   cases hF
   exact Er (p7.1, p7.2)
 iterate 4 refine au ?_
 refine bnd hF fun r19 hx20 hF => Cx1 (s_l1Once_ok _ _ _ _ _ hx20) (fun p21 => ?_)
 refine au ?_
 refine Ci hF (fun hb29 hF => ?_) (fun hb29 hF => ?_)
 · iterate 4 refine au ?_
   refine bnd hF fun r22 hx23 hF => Cx2 (s_l2AnyFact_ok _ _ _ _ _ _ _ hx23) (fun p24 => ?_)
   refine C_new rfl (N_buildSliceT (g := true) sl27.h ty86.h (.cons (.tmp rfl rfl) .nil) (vs := [(.agg [(.int .i64 r22.1.Rel), p24.1.v].toArray)]) rfl rfl rfl (by intro v hv; simp at hv; rcases hv with rfl <;> rfl)) (fun k25 => ?_)
   refine Cv1 (.cons .h (.cons .h .nil)) (own_lit (Ro := ow86) (E := 86) (F := (p24.2 ++ [])) (xs := ([r22.1] : List Fact)) (MkL_cons mk86 MkL_nil apps) rfl rfl) ?_
   refine bnd hF fun z26 hx27 hF => C_x1 (.cons (.t (.t .h)) (.cons .h .nil)) (X_appendO (Ro := ow86) sl27.h ni27 ty86.h rfl rfl rfl (.tmp rfl rfl) (.tmp rfl rfl) hx27 src_own) (fun p28 => ?_)
   iterate 7 refine au ?_
   cases hF
   exact Er (p28.1, p28.2)
 iterate 6 refine au ?_
 cases hF
 exact Er (⟨(some ⟨k1, 0, none⟩), 0, 1⟩, (k1 :: []))
def s_DrawFeasibleAnswers (fuel : Nat) (a_code : List UInt8) : Option ((List Int) × (List Method) × Query × (List Fact)) :=
 (s_l1New a_code).bind fun r2 =>
 (s_l10Draw fuel r2).bind fun r5 =>
 (s_l2AnyFacts fuel ({ b := r2.b, i := r5.2.2.2.i, h := r5.2.2.2.h } : l1Cur) r5.1).bind fun r9 =>
 some (r5.1, r5.2.1, r5.2.2.1, r9.1)
theorem s_DrawFeasibleAnswers_ok (fuel : Nat) (a_code : List UInt8) (v0_0 : Sv) (R : (List Int) × (List Method) × Query × (List Fact)) (hF : s_DrawFeasibleAnswers fuel a_code = some R) :
   Fw.Spec Tryz.prog 64 [v0_0.v] [crd (RdS 5 rdU8) v0_0.v a_code] (fun p : Sv × Sv × List Nat × Sv × List Nat × Sv × Sv × List Nat => (.tuple [p.1.v, p.2.1.v, (.agg [p.2.2.2.1.v, p.2.2.2.2.2.1.v].toArray), p.2.2.2.2.2.2.1.v].toArray)) (fun p => [crd (RdS 3 rdInt) p.1.v R.1, cown (OwnS 73 ow73) p.2.2.1 p.2.1.v R.2.1, cown (OwnS 3 (roE rdInt)) p.2.2.2.2.1 p.2.2.2.1.v R.2.2.1.Head, crd (RdS 98 rd98) p.2.2.2.2.2.1.v R.2.2.1.Atoms, cown (OwnS 86 ow86) p.2.2.2.2.2.2.2 p.2.2.2.2.2.2.1.v R.2.2.2]) := by
 refine Se 24 Tryz.func64 [.tmp 2, .tmp 3, .cell 4 51, .tmp 5] ?_
 intro H0 F0
 unfold s_DrawFeasibleAnswers at hF
 iterate 3 refine au ?_
 refine AnW (fun k1 => ?_)
 iterate 4 refine au ?_
 refine bnd hF fun r2 hx3 hF => Cx2 (s_l1New_ok _ _ _ hx3) (fun p4 => ?_)
 iterate 4 refine au ?_
 refine bnd hF fun r5 hx6 hF => Cx5 (s_l10Draw_ok _ _ _ _ _ hx6) (fun p7 => ?_)
 refine au ?_
 refine C_val (V_extract (l := [p7.1.v, p7.2.1.v, (.agg [p7.2.2.2.1.v, p7.2.2.2.2.2.v].toArray)]) (v := p7.1.v) (.tmp rfl rfl) rfl) ?_
 refine C_val (V_extract (l := [p7.1.v, p7.2.1.v, (.agg [p7.2.2.2.1.v, p7.2.2.2.2.2.v].toArray)]) (v := p7.2.1.v) (.tmp rfl rfl) rfl) ?_
 refine C_val (V_extract (l := [p7.1.v, p7.2.1.v, (.agg [p7.2.2.2.1.v, p7.2.2.2.2.2.v].toArray)]) (v := (.agg [p7.2.2.2.1.v, p7.2.2.2.2.2.v].toArray)) (.tmp rfl rfl) rfl) ?_
 refine AnW (fun k8 => ?_)
 iterate 2 refine au ?_
 refine As (.agg [p7.2.2.2.1.v, p7.2.2.2.2.2.v].toArray) ?_
 refine au ?_
 refine K_draw [0, 1, 2, 3, 4, 5, 6, 7, 8, 9] [0, 0, 0, 0, 0, 24, 57, 123, 255, 511] [5, 8] mixed (by decide +kernel) ?_
 iterate 2 refine du ?_
 refine D_atO rfl .no .h (fun ha hp => V_loadBox ag51.h ty51.h.sz rfl (EN ha (.tmp rfl rfl) rfl) hp.2 rfl) ?_
 iterate 2 refine du ?_
 refine bnd hF fun r9 hx10 hF => D_act2 rfl rfl .no (.cons (.t (.t (.t (.t (.t .h))))) (.rd (.t (.t (.t (.t (.t .h))))) rfl (.rd (.t .h) rfl .nil))) (.own .h (fun _ h => h) .nil) (fun ha => X_callS cf125.h (.cons (EN ha (.tmp rfl rfl) rfl) (.cons (EN ha (.tmp rfl rfl) rfl) .nil)) (s_l2AnyFacts_ok fuel p4.1 ({ b := r2.b, i := r5.2.2.2.i, h := r5.2.2.2.h } : l1Cur) p4.2 r5.1 p7.1 _ hx10)) (fun p11 => ?_)
 iterate 2 refine du ?_
 refine D_act1 rfl rfl .no (.cons (.t (.t (.t (.t (.t (.t (.t (.t .h)))))))) .nil) (.dep rfl .nil) (fun ha => X_storeB (e' := (.agg [p7.2.2.2.1.v, p7.2.2.2.2.2.v].toArray)) (v := (.agg [p7.2.2.2.1.v, p7.2.2.2.2.2.v].toArray)) ty51.h.sz (EN ha (.tmp rfl rfl) rfl) (EN ha (.tmp rfl rfl) rfl) rfl rfl rfl rfl rfl) (fun _ => ?_)
 iterate 2 refine du ?_
 refine au ?_
 cases hF
 exact End_ret (p7.1, p7.2.1, p7.2.2.1, p7.2.2.2.1, p7.2.2.2.2.1, p7.2.2.2.2.2, p11.1, p11.2) (.tmp rfl rfl (.tmp rfl rfl (.cellA rfl rfl .h rfl ag51.h ty51.h.sz rfl rfl (.tmp rfl rfl .nil)))) rfl (.sel (.rd (.t (.t (.t (.t .h)))) rfl (.cons (.t (.t (.t (.t (.t .h))))) (.cons (.t (.t (.t (.t (.t .h))))) (.rd (.t (.t (.t (.t (.t .h))))) rfl (.cons (.t .h) .nil))))))
def s_DrawMaximalAnswers (fuel : Nat) (a_code : List UInt8) : Option ((List Int) × (List Method) × Query × (List Fact)) :=
 (s_DrawFeasibleAnswers fuel a_code).bind fun r2 =>
 some (r2.1, r2.2.1, r2.2.2.1, r2.2.2.2)
theorem s_DrawMaximalAnswers_ok (fuel : Nat) (a_code : List UInt8) (v0_0 : Sv) (R : (List Int) × (List Method) × Query × (List Fact)) (hF : s_DrawMaximalAnswers fuel a_code = some R) :
   Fw.Spec Tryz.prog 25 [v0_0.v] [crd (RdS 5 rdU8) v0_0.v a_code] (fun p : Sv × Sv × List Nat × Sv × List Nat × Sv × Sv × List Nat => (.tuple [p.1.v, p.2.1.v, (.agg [p.2.2.2.1.v, p.2.2.2.2.2.1.v].toArray), p.2.2.2.2.2.2.1.v].toArray)) (fun p => [crd (RdS 3 rdInt) p.1.v R.1, cown (OwnS 73 ow73) p.2.2.1 p.2.1.v R.2.1, cown (OwnS 3 (roE rdInt)) p.2.2.2.2.1 p.2.2.2.1.v R.2.2.1.Head, crd (RdS 98 rd98) p.2.2.2.2.2.1.v R.2.2.1.Atoms, cown (OwnS 86 ow86) p.2.2.2.2.2.2.2 p.2.2.2.2.2.2.1.v R.2.2.2]) := by
 refine Se 21 Tryz.func25 [.tmp 2, .tmp 3, .cell 4 51, .tmp 5] ?_
 intro H0 F0
 unfold s_DrawMaximalAnswers at hF
 iterate 3 refine au ?_
 refine AnW (fun k1 => ?_)
 iterate 4 refine au ?_
 refine bnd hF fun r2 hx3 hF => Cx5 (s_DrawFeasibleAnswers_ok _ _ _ _ hx3) (fun p4 => ?_)
 refine au ?_
 refine C_val (V_extract (l := [p4.1.v, p4.2.1.v, (.agg [p4.2.2.2.1.v, p4.2.2.2.2.2.1.v].toArray), p4.2.2.2.2.2.2.1.v]) (v := p4.1.v) (.tmp rfl rfl) rfl) ?_
 refine C_val (V_extract (l := [p4.1.v, p4.2.1.v, (.agg [p4.2.2.2.1.v, p4.2.2.2.2.2.1.v].toArray), p4.2.2.2.2.2.2.1.v]) (v := p4.2.1.v) (.tmp rfl rfl) rfl) ?_
 refine C_val (V_extract (l := [p4.1.v, p4.2.1.v, (.agg [p4.2.2.2.1.v, p4.2.2.2.2.2.1.v].toArray), p4.2.2.2.2.2.2.1.v]) (v := (.agg [p4.2.2.2.1.v, p4.2.2.2.2.2.1.v].toArray)) (.tmp rfl rfl) rfl) ?_
 refine C_val (V_extract (l := [p4.1.v, p4.2.1.v, (.agg [p4.2.2.2.1.v, p4.2.2.2.2.2.1.v].toArray), p4.2.2.2.2.2.2.1.v]) (v := p4.2.2.2.2.2.2.1.v) (.tmp rfl rfl) rfl) ?_
 refine AnW (fun k5 => ?_)
 iterate 2 refine au ?_
 refine As (.agg [p4.2.2.2.1.v, p4.2.2.2.2.2.1.v].toArray) ?_
 iterate 2 refine au ?_
 refine K_draw [0, 1, 2, 3, 4, 5, 6, 7] [0, 0, 0, 0, 1, 19, 55, 127] [6] mixed (by decide +kernel) ?_
 iterate 2 refine du ?_
 refine D_atO rfl .no .h (fun ha hp => V_loadBox ag51.h ty51.h.sz rfl (EN ha (.tmp rfl rfl) rfl) hp.2 rfl) ?_
 iterate 3 refine du ?_
 refine D_act1 rfl rfl .no (.cons (.t (.t (.t (.t (.t (.t .h)))))) .nil) (.dep rfl .nil) (fun ha => X_storeB (e' := (.agg [p4.2.2.2.1.v, p4.2.2.2.2.2.1.v].toArray)) (v := (.agg [p4.2.2.2.1.v, p4.2.2.2.2.2.1.v].toArray)) ty51.h.sz (EN ha (.tmp rfl rfl) rfl) (EN ha (.tmp rfl rfl) rfl) rfl rfl rfl rfl rfl) (fun _ => ?_)
 iterate 2 refine du ?_
 refine au ?_
 cases hF
 exact End_ret (p4.1, p4.2.1, p4.2.2.1, p4.2.2.2.1, p4.2.2.2.2.1, p4.2.2.2.2.2.1, p4.2.2.2.2.2.2.1, p4.2.2.2.2.2.2.2) (.tmp rfl rfl (.tmp rfl rfl (.cellA rfl rfl .h rfl ag51.h ty51.h.sz rfl rfl (.tmp rfl rfl .nil)))) rfl (.sel (.rd (.t (.t .h)) rfl (.cons (.t (.t (.t .h))) (.cons (.t (.t (.t .h))) (.rd (.t (.t (.t .h))) rfl (.cons (.t (.t (.t (.t .h)))) .nil))))))
def i_within (a_n : Int) (a_low : Int) (a_high : Int) : Option (Bool) :=
 some ((decide ((a_low : Int) ≤ a_n)) && (decide ((a_n : Int) ≤ a_high)))
theorem i_within_ok (a_n : Int) (a_low : Int) (a_high : Int) (R : Bool) (hF : i_within a_n a_low a_high = some R) :
   Fw.Spec Tryz.prog 98 [(.int .i64 a_n), (.int .i64 a_low), (.int .i64 a_high)] [] (fun _ : Unit => (.bool R)) (fun _ => []) := by
 refine Se 15 Tryz.func98 [.tmp 6] ?_
 intro H0 F0
 unfold i_within at hF
 iterate 4 refine au ?_
 refine C_cut (fun f' cs' => ∃ (g : Fr), f' = updL g [(6, (.bool ((decide ((a_low : Int) ≤ a_n)) && (decide ((a_n : Int) ≤ a_high)))))] ∧ Ent cs' []) ?_ ?_
 · iterate 4 refine au ?_
   rcases Bool.eq_false_or_eq_true (decide ((a_low : Int) ≤ a_n)) with hg1 | hg1
   · rw [hg1]
     try rw [hg1] at hF; dsimp only [cond_true, cond_false] at hF
     iterate 9 refine au ?_
     exact ⟨_, eqA, entA⟩
   rw [hg1]
   try rw [hg1] at hF; dsimp only [cond_true, cond_false] at hF
   iterate 6 refine au ?_
   exact ⟨_, eqA, entA⟩
 rintro _ _ ⟨g2, rfl, hE⟩
 refine K_ent hE ?_
 refine au ?_
 cases hF
 exact Er ()
def i_IsSchema_1 (a_n : Int) : Option (Bool) :=
 (i_within a_n 1 3).bind fun r1 =>
 some (!r1)
theorem i_IsSchema_1_ok (a_n : Int) (R : Bool) (hF : i_IsSchema_1 a_n = some R) :
   Fw.Spec Tryz.prog 192 [(.int .i64 a_n)] [] (fun _ : Unit => (.bool R)) (fun _ => []) := by
 refine Se 6 Tryz.func192 [.tmp 2] ?_
 intro H0 F0
 unfold i_IsSchema_1 at hF
 iterate 5 refine au ?_
 refine bnd hF fun r1 hx2 hF => Cx0 (i_within_ok _ _ _ _ hx2) (fun _ => ?_)
 iterate 4 refine au ?_
 cases hF
 exact Er ()
def g_slices_IndexFunc_int_int_iIsSchema1_L1 : List Int → Nat → Option (Int)
 | [], k4 => some (-1)
 | x6 :: rest5, k4 => (i_IsSchema_1 x6).bind fun r15 =>
   if r15 then (
     some (k4 : Int))
   else (
     g_slices_IndexFunc_int_int_iIsSchema1_L1 rest5 (k4 + 1))
def g_slices_IndexFunc_int_int_iIsSchema1 (a_s : List Int) : Option (Int) :=
 g_slices_IndexFunc_int_int_iIsSchema1_L1 a_s 0
theorem g_slices_IndexFunc_int_int_iIsSchema1_ok (a_s : List Int) (v0_0 : Sv) (R : Int) (hF : g_slices_IndexFunc_int_int_iIsSchema1 a_s = some R) :
   Fw.Spec Tryz.prog 114 [v0_0.v, (.func (.func 192) [].toArray [].toArray)] [crd (RdS 3 rdInt) v0_0.v a_s] (fun _ : Unit => (.int .i64 R)) (fun _ => []) := by
 refine Se 19 Tryz.func114 [.tmp 4] ?_
 intro H0 F0
 unfold g_slices_IndexFunc_int_int_iIsSchema1 at hF
 iterate 9 refine au ?_
 refine CW_block (CW_loop (m := a_s.length) (fun m2 f' cs' => ∃ (g : Fr) (k4 : Nat) (rest5 : List Int), m2 = rest5.length ∧ f' = updL g [(0, v0_0.v), (1, (.func (.func 192) [].toArray [].toArray)), (7, (.int .i64 (a_s.length : Int))), (8, (.int .i64 (k4 : Int)))] ∧ List.drop k4 a_s = rest5 ∧ Ent cs' [crd (RdS 3 rdInt) v0_0.v a_s] ∧ g_slices_IndexFunc_int_int_iIsSchema1_L1 rest5 k4 = some R) ⟨_, 0, _, rfl, eqA, rfl, entA, hF⟩ ?_)
 rintro m2 _ _ ⟨g3, k4, rest5, rfl, rfl, hd7, hE, hF⟩
 refine Kb hE a_s (fun hbd12 => ?_)
 rcases rest5 with _ | ⟨x6, rest5⟩
 · have hk8 := dn hd7
   rw [g_slices_IndexFunc_int_int_iIsSchema1_L1] at hF
   iterate 4 refine au ?_
   refine CdF ?_
   iterate 8 refine au ?_
   cases hF
   exact Er ()
 obtain ⟨hk8, hx9, hd10⟩ := drop_cons hd7
 rw [g_slices_IndexFunc_int_int_iIsSchema1_L1] at hF
 iterate 4 refine au ?_
 refine CdT ?_
 iterate 10 refine au ?_
 refine Ai hx9 (fun k13 j14 => ?_)
 refine Al ls3_0 ?_
 refine bnd hF fun r15 hx16 hF => C_x0 .nil (X_callCS cf192.h (.tmp rfl rfl) (.cons (.tmp rfl rfl) .nil) (i_IsSchema_1_ok x6 _ hx16)) (fun _ => ?_)
 refine au ?_
 refine Ci hF (fun hb19 hF => ?_) (fun hb19 hF => ?_)
 · iterate 5 refine au ?_
   cases hF
   exact Er ()
 iterate 5 refine au ?_
 rw [wk k4]
 exact ⟨_, Nat.lt_succ_self _, _, k4 + 1, rest5, rfl, eqA, hd10, entA, hF⟩
def g_slices_ContainsFunc_int_int_iIsSchema1 (a_s : List Int) : Option (Bool) :=
 (g_slices_IndexFunc_int_int_iIsSchema1 a_s).bind fun r1 =>
 some (decide ((0 : Int) ≤ r1))
theorem g_slices_ContainsFunc_int_int_iIsSchema1_ok (a_s : List Int) (v0_0 : Sv) (R : Bool) (hF : g_slices_ContainsFunc_int_int_iIsSchema1 a_s = some R) :
   Fw.Spec Tryz.prog 53 [v0_0.v, (.func (.func 192) [].toArray [].toArray)] [crd (RdS 3 rdInt) v0_0.v a_s] (fun _ : Unit => (.bool R)) (fun _ => []) := by
 refine Se 9 Tryz.func53 [.tmp 4] ?_
 intro H0 F0
 unfold g_slices_ContainsFunc_int_int_iIsSchema1 at hF
 iterate 6 refine au ?_
 refine bnd hF fun r1 hx2 hF => Cx0 (g_slices_IndexFunc_int_int_iIsSchema1_ok _ _ _ hx2) (fun _ => ?_)
 iterate 4 refine au ?_
 cases hF
 exact Er ()
def i_IsSchema (a_s : List Int) : Option (Bool) :=
 ((i_within (a_s.length : Int) 1 3).bind fun r3 =>
   bif r3 then ((g_slices_ContainsFunc_int_int_iIsSchema1 a_s).bind fun r7 =>
     some (!r7))
   else (some false)).bind fun o1 =>
 match o1 with
 | c10 => some c10
theorem i_IsSchema_ok (a_s : List Int) (v0_0 : Sv) (R : Bool) (hF : i_IsSchema a_s = some R) :
   Fw.Spec Tryz.prog 127 [v0_0.v] [crd (RdS 3 rdInt) v0_0.v a_s] (fun _ : Unit => (.bool R)) (fun _ => []) := by
 refine Se 11 Tryz.func127 [.tmp 2] ?_
 intro H0 F0
 unfold i_IsSchema at hF
 iterate 3 refine au ?_
 obtain ⟨o1, hio1, hO2⟩ := bind_some hF
 refine au ?_
 refine C_cut (fun f' cs' => ∃ (c10 : Bool) (g : Fr), c10 = o1 ∧ f' = updL g [(2, (.bool c10))] ∧ Ent cs' []) ?_ ?_
 · replace hF := hio1
   iterate 2 refine au ?_
   refine bnd hF fun r3 hx4 hF => Cx0 (i_within_ok _ _ _ _ hx4) (fun _ => ?_)
   refine au ?_
   rcases Bool.eq_false_or_eq_true r3 with hg6 | hg6
   · rw [hg6]
     try rw [hg6] at hF; dsimp only [cond_true, cond_false] at hF
     iterate 3 refine au ?_
     refine bnd hF fun r7 hx8 hF => Cx0 (g_slices_ContainsFunc_int_int_iIsSchema1_ok _ _ _ hx8) (fun _ => ?_)
     iterate 5 refine au ?_
     cases hF
     exact ⟨_, _, rfl, eqA, entA⟩
   rw [hg6]
   try rw [hg6] at hF; dsimp only [cond_true, cond_false] at hF
   iterate 6 refine au ?_
   cases hF
   exact ⟨_, _, rfl, eqA, entA⟩
 rintro _ _ ⟨c10, g11, rfl, rfl, hE⟩
 replace hF := hO2
 try dsimp only at hF
 refine K_ent hE ?_
 refine au ?_
 cases hF
 exact Er ()
def i_hasRel (a_s : List Int) (a_rel : Int) : Option (Bool) :=
 ((i_IsSchema a_s).bind fun r3 =>
   bif r3 then ((i_within a_rel 0 (IntKind.i64.wrap ((a_s.length : Int) - 1))).bind fun r7 =>
     some r7)
   else (some false)).bind fun o1 =>
 match o1 with
 | c10 => some c10
theorem i_hasRel_ok (a_s : List Int) (v0_0 : Sv) (a_rel : Int) (R : Bool) (hF : i_hasRel a_s a_rel = some R) :
   Fw.Spec Tryz.prog 191 [v0_0.v, (.int .i64 a_rel)] [crd (RdS 3 rdInt) v0_0.v a_s] (fun _ : Unit => (.bool R)) (fun _ => []) := by
 refine Se 14 Tryz.func191 [.tmp 4] ?_
 intro H0 F0
 unfold i_hasRel at hF
 iterate 3 refine au ?_
 obtain ⟨o1, hio1, hO2⟩ := bind_some hF
 refine au ?_
 refine C_cut (fun f' cs' => ∃ (c10 : Bool) (g : Fr), c10 = o1 ∧ f' = updL g [(4, (.bool c10))] ∧ Ent cs' []) ?_ ?_
 · replace hF := hio1
   refine au ?_
   refine bnd hF fun r3 hx4 hF => Cx0 (i_IsSchema_ok _ _ _ hx4) (fun _ => ?_)
   refine au ?_
   rcases Bool.eq_false_or_eq_true r3 with hg6 | hg6
   · rw [hg6]
     try rw [hg6] at hF; dsimp only [cond_true, cond_false] at hF
     iterate 9 refine au ?_
     refine bnd hF fun r7 hx8 hF => Cx0 (i_within_ok _ _ _ _ hx8) (fun _ => ?_)
     iterate 3 refine au ?_
     cases hF
     exact ⟨_, _, rfl, eqA, entA⟩
   rw [hg6]
   try rw [hg6] at hF; dsimp only [cond_true, cond_false] at hF
   iterate 8 refine au ?_
   cases hF
   exact ⟨_, _, rfl, eqA, entA⟩
 rintro _ _ ⟨c10, g11, rfl, rfl, hE⟩
 replace hF := hO2
 try dsimp only at hF
 refine K_ent hE ?_
 refine au ?_
 cases hF
 exact Er ()
def i_ascending_L1 (a_l : List Int) : List Int → Nat → Option (Bool)
 | [], k4 => some true
 | x6 :: rest5, k4 => (bif (decide ((0 : Int) < (k4 : Int))) then ((ix a_l (IntKind.i64.wrap ((k4 : Int) - 1))).bind fun x18 =>
       some (decide ((x6 : Int) ≤ x18)))
     else (some false)).bind fun o13 =>
   match o13 with
   | c24 => if c24 then (
       some false)
     else (
       i_ascending_L1 a_l rest5 (k4 + 1))
def i_ascending (a_l : List Int) : Option (Bool) :=
 i_ascending_L1 a_l a_l 0
theorem i_ascending_ok (a_l : List Int) (v0_0 : Sv) (R : Bool) (hF : i_ascending a_l = some R) :
   Fw.Spec Tryz.prog 244 [v0_0.v] [crd (RdS 3 rdInt) v0_0.v a_l] (fun _ : Unit => (.bool R)) (fun _ => []) := by
 refine Se 24 Tryz.func244 [.tmp 2] ?_
 intro H0 F0
 unfold i_ascending at hF
 iterate 9 refine au ?_
 refine CW_block (CW_loop (m := a_l.length) (fun m2 f' cs' => ∃ (g : Fr) (k4 : Nat) (rest5 : List Int), m2 = rest5.length ∧ f' = updL g [(0, v0_0.v), (5, (.int .i64 (a_l.length : Int))), (6, (.int .i64 (k4 : Int)))] ∧ List.drop k4 a_l = rest5 ∧ Ent cs' [crd (RdS 3 rdInt) v0_0.v a_l] ∧ i_ascending_L1 a_l rest5 k4 = some R) ⟨_, 0, _, rfl, eqA, rfl, entA, hF⟩ ?_)
 rintro m2 _ _ ⟨g3, k4, rest5, rfl, rfl, hd7, hE, hF⟩
 refine Kb hE a_l (fun hbd12 => ?_)
 rcases rest5 with _ | ⟨x6, rest5⟩
 · have hk8 := dn hd7
   rw [i_ascending_L1] at hF
   iterate 4 refine au ?_
   refine CdF ?_
   iterate 8 refine au ?_
   cases hF
   exact Er ()
 obtain ⟨hk8, hx9, hd10⟩ := drop_cons hd7
 rw [i_ascending_L1] at hF
 iterate 4 refine au ?_
 refine CdT ?_
 iterate 6 refine au ?_
 obtain ⟨o13, hio13, hO14⟩ := bind_some hF
 refine K_draw [0, 1, 2, 3, 4, 5, 6, 7, 8, 9, 10, 11, 12, 13] [0, 1, 3, 7, 7, 31, 63, 7, 7, 263, 903, 1927, 4095, 8191] [] mixed (by decide +kernel) ?_
 refine D_cut (fun f' cs' => ∃ (c24 : Bool) (g : Fr), c24 = o13 ∧ f' = updL g [(0, v0_0.v), (5, (.int .i64 (a_l.length : Int))), (6, (.int .i64 (k4 : Int))), (22, (.bool c24))] ∧ Ent cs' [crd (RdS 3 rdInt) v0_0.v a_l]) ?_ ?_
 · replace hF := hio13
   iterate 3 refine du ?_
   rcases Bool.eq_false_or_eq_true (decide ((0 : Int) < (k4 : Int))) with hg15 | hg15
   · rw [hg15]
     try rw [hg15] at hF; dsimp only [cond_true, cond_false] at hF
     iterate 2 refine du ?_
     refine Di hx9 (fun k16 j17 => ?_)
     refine Dl ls3_0 ?_
     iterate 3 refine du ?_
     refine bnd hF fun x18 hx19 hF => ?_
     obtain ⟨hp20, hx21⟩ := ix_some hx19
     refine Di hx21 (fun k22 j23 => ?_)
     refine Dl ls3_0 ?_
     iterate 3 refine du ?_
     cases hF
     exact ⟨_, _, rfl, eqA, entA⟩
   rw [hg15]
   try rw [hg15] at hF; dsimp only [cond_true, cond_false] at hF
   iterate 12 refine du ?_
   cases hF
   exact ⟨_, _, rfl, eqA, entA⟩
 rintro _ _ ⟨c24, g27, rfl, rfl, hE⟩
 replace hF := hO14
 try dsimp only at hF
 refine K_ent hE ?_
 refine Ci hF (fun hb26 hF => ?_) (fun hb26 hF => ?_)
 · iterate 4 refine au ?_
   cases hF
   exact Er ()
 iterate 5 refine au ?_
 rw [wk k4]
 exact ⟨_, Nat.lt_succ_self _, _, k4 + 1, rest5, rfl, eqA, hd10, entA, hF⟩
end Go.Proofs.YtndckmfbndmkhabGreat
