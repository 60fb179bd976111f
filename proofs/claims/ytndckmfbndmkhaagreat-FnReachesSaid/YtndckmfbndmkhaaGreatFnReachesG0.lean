/-
  Functions of the program as Lean functions, and that the calls return what these say: part 1. No conditions.
-/
import Derived.Test.YtndckmfbndmkhaaGreatFc
import Derived.Shelf.Sort.Plain
import Derived.Shelf.Slices.In.SortNone
import Derived.Shelf.Slices.CompactI
import Derived.Test.YtndckmfbndmkhaaGreatProg
import Derived.KernelRfl
set_option maxRecDepth 100000
set_option maxHeartbeats 1000000
set_option linter.unusedVariables false
namespace Go.Proofs.YtndckmfbndmkhaaGreat
open Go Go.Fw

instance : LaidP Tryz.prog := ⟨fun _ => True⟩
instance cf5 : ICF Tryz.prog 5 := ⟨Tryz.call5⟩
instance sl22 : ISL Tryz.prog 22 5 := ⟨by unfold SL; kernel_rfl⟩
instance cf19 : ICF Tryz.prog 19 := ⟨Tryz.call19⟩
structure Method where
 Rel : Int
 Inputs : List Int
 Limit : Int
 Cost : Int
 Quota : Int
structure Fact where
 Rel : Int
 Values : List Int
instance cf41 : ICF Tryz.prog 41 := ⟨Tryz.call41⟩
structure l1Cur where
 b : List UInt8
 i : Int
 h : Int
instance ty5 : ITY Tryz.prog 5 1 1 (.int .u8 0) := ⟨by unfold TY; kernel_rfl⟩
theorem ls5_0 {a : UInt8} : ∀ H e, rdU8 H e a → e.cells.toList[0]? = some (.int .u8 (a.toNat : Int)) := by
 intro H e h
 subst h
 rfl
instance ag5 : IAG Tryz.prog 5 false := ⟨by unfold AG; kernel_rfl⟩
theorem ik5 : IK Tryz.prog 5 .u8 := by unfold IK; kernel_rfl
theorem ik3 : IK Tryz.prog 3 .i64 := by unfold IK; kernel_rfl
instance ty116 : ITY Tryz.prog 116 3 40 (.agg [(.slice none 0 0), (.int .i64 0), (.int .i64 0)].toArray) := ⟨by unfold TY; kernel_rfl⟩
instance cf63 : ICF Tryz.prog 63 := ⟨Tryz.call63⟩
instance cf118 : ICF Tryz.prog 118 := ⟨Tryz.call118⟩
instance cf90 : ICF Tryz.prog 90 := ⟨Tryz.call90⟩
instance sl24 : ISL Tryz.prog 24 3 := ⟨by unfold SL; kernel_rfl⟩
instance ty3 : ITY Tryz.prog 3 1 8 (.int .i64 0) := ⟨by unfold TY; kernel_rfl⟩
instance cf75 : ICF Tryz.prog 75 := ⟨Tryz.call75⟩
instance cf134 : ICF Tryz.prog 134 := ⟨Tryz.call134⟩
instance fd116_2 : IFD Tryz.prog 116 2 2 := ⟨by unfold FD; kernel_rfl⟩
instance ag3 : IAG Tryz.prog 3 false := ⟨by unfold AG; kernel_rfl⟩
theorem mixed : Tryz.prog.follows .mixedOrders = true := by kernel_rfl
instance fd116_1 : IFD Tryz.prog 116 1 1 := ⟨by unfold FD; kernel_rfl⟩
instance fd116_0 : IFD Tryz.prog 116 0 0 := ⟨by unfold FD; kernel_rfl⟩
instance ag22 : IAG Tryz.prog 22 false := ⟨by unfold AG; kernel_rfl⟩
instance cf82 : ICF Tryz.prog 82 := ⟨Tryz.call82⟩
theorem ni24 : NotInt Tryz.prog 24 := .inr ⟨3, by kernel_rfl⟩
instance cf166 : ICF Tryz.prog 166 := ⟨Tryz.call166⟩
instance sl41 : ISL Tryz.prog 41 97 := ⟨by unfold SL; kernel_rfl⟩
instance ty97 : ITY Tryz.prog 97 5 56 (.agg [(.int .i64 0), (.slice none 0 0), (.int .i64 0), (.int .i64 0), (.int .i64 0)].toArray) := ⟨by unfold TY; kernel_rfl⟩
def rd97 (H : AHeap) (v : Value) (a : Method) : Prop := ∃ v0 : Sv, v = .agg [(.int .i64 a.Rel), v0.v, (.int .i64 a.Limit), (.int .i64 a.Cost), (.int .i64 a.Quota)].toArray ∧ (RdS 3 rdInt) H v0.v a.Inputs
instance : Mono rd97 := ⟨fun h hi => by
 obtain ⟨v0, h, h0⟩ := h
 exact ⟨v0, h, Mono.up h0 hi⟩⟩
instance : Cells rd97 5 := ⟨fun h => by
 obtain ⟨v0, rfl, h0⟩ := h
 exact ⟨rfl, rfl⟩⟩
def ow97 : ORel Method := fun F H v a => ∃ (v0 : Sv) (F0 : List Nat), v = .agg [(.int .i64 a.Rel), v0.v, (.int .i64 a.Limit), (.int .i64 a.Cost), (.int .i64 a.Quota)].toArray ∧ F0 = F ∧ (OwnS 3 (roE rdInt)) F0 H v0.v a.Inputs
instance : Keep ow97 := ⟨fun h hi hg => by
 obtain ⟨v0, F0, rfl, rfl, h0⟩ := h
 exact ⟨v0, F0, rfl, rfl, Keep.keep h0 hi (fun k hk => hg k (by simp [hk]))⟩⟩
instance : Local ow97 := ⟨fun h hg => by
 obtain ⟨v0, F0, rfl, rfl, h0⟩ := h
 exact ⟨v0, F0, rfl, rfl, Local.keep h0 (fun k hk => hg k (by simp [hk]))⟩⟩
instance : Owns ow97 := ⟨fun h k hk => by
 obtain ⟨v0, F0, rfl, rfl, h0⟩ := h
 exact Owns.owns h0 k hk
⟩
instance : OCells ow97 5 := ⟨fun h => by
 obtain ⟨v0, F0, rfl, rfl, h0⟩ := h
 exact ⟨rfl, rfl⟩⟩
instance : Frz ow97 rd97 := ⟨fun h hg => by
 obtain ⟨v0, F0, rfl, rfl, h0⟩ := h
 exact ⟨v0, rfl, Frz.frz h0 (fun k hk => hg k (by simp [hk]))⟩⟩
instance cf197 : ICF Tryz.prog 197 := ⟨Tryz.call197⟩
instance cf76 : ICF Tryz.prog 76 := ⟨Tryz.call76⟩
theorem ls3_0 {a : Int} : ∀ H e, rdInt H e a → e.cells.toList[0]? = some (.int .i64 a) := by
 intro H e h
 subst h
 rfl
instance fd97_0 : IFD Tryz.prog 97 0 0 := ⟨by unfold FD; kernel_rfl⟩
instance fd97_1 : IFD Tryz.prog 97 1 1 := ⟨by unfold FD; kernel_rfl⟩
instance ag24 : IAG Tryz.prog 24 false := ⟨by unfold AG; kernel_rfl⟩
instance ty24 : ITY Tryz.prog 24 1 24 (.slice none 0 0) := ⟨by unfold TY; kernel_rfl⟩
instance ag97 : IAG Tryz.prog 97 true := ⟨by unfold AG; kernel_rfl⟩
theorem mk97 {a : Method} {v0 : Sv} {F0 : List Nat} : Mk ow97 F0 (.agg [(.int .i64 a.Rel), v0.v, (.int .i64 a.Limit), (.int .i64 a.Cost), (.int .i64 a.Quota)].toArray) a [cown (OwnS 3 (roE rdInt)) F0 v0.v a.Inputs] :=
 ⟨fun H h => ⟨v0, F0, rfl, rfl, h (cown (OwnS 3 (roE rdInt)) F0 v0.v a.Inputs) (by simp)⟩, by simp [cown]⟩
theorem ni41 : NotInt Tryz.prog 41 := .inr ⟨97, by kernel_rfl⟩
instance cf92 : ICF Tryz.prog 92 := ⟨Tryz.call92⟩
instance sl28 : ISL Tryz.prog 28 58 := ⟨by unfold SL; kernel_rfl⟩
instance ty58 : ITY Tryz.prog 58 2 32 (.agg [(.int .i64 0), (.slice none 0 0)].toArray) := ⟨by unfold TY; kernel_rfl⟩
def rd58 (H : AHeap) (v : Value) (a : Fact) : Prop := ∃ v0 : Sv, v = .agg [(.int .i64 a.Rel), v0.v].toArray ∧ (RdS 3 rdInt) H v0.v a.Values
instance : Mono rd58 := ⟨fun h hi => by
 obtain ⟨v0, h, h0⟩ := h
 exact ⟨v0, h, Mono.up h0 hi⟩⟩
instance : Cells rd58 2 := ⟨fun h => by
 obtain ⟨v0, rfl, h0⟩ := h
 exact ⟨rfl, rfl⟩⟩
def ow58 : ORel Fact := fun F H v a => ∃ (v0 : Sv) (F0 : List Nat), v = .agg [(.int .i64 a.Rel), v0.v].toArray ∧ F0 = F ∧ (OwnS 3 (roE rdInt)) F0 H v0.v a.Values
instance : Keep ow58 := ⟨fun h hi hg => by
 obtain ⟨v0, F0, rfl, rfl, h0⟩ := h
 exact ⟨v0, F0, rfl, rfl, Keep.keep h0 hi (fun k hk => hg k (by simp [hk]))⟩⟩
instance : Local ow58 := ⟨fun h hg => by
 obtain ⟨v0, F0, rfl, rfl, h0⟩ := h
 exact ⟨v0, F0, rfl, rfl, Local.keep h0 (fun k hk => hg k (by simp [hk]))⟩⟩
instance : Owns ow58 := ⟨fun h k hk => by
 obtain ⟨v0, F0, rfl, rfl, h0⟩ := h
 exact Owns.owns h0 k hk
⟩
instance : OCells ow58 2 := ⟨fun h => by
 obtain ⟨v0, F0, rfl, rfl, h0⟩ := h
 exact ⟨rfl, rfl⟩⟩
instance : Frz ow58 rd58 := ⟨fun h hg => by
 obtain ⟨v0, F0, rfl, rfl, h0⟩ := h
 exact ⟨v0, rfl, Frz.frz h0 (fun k hk => hg k (by simp [hk]))⟩⟩
instance cf145 : ICF Tryz.prog 145 := ⟨Tryz.call145⟩
instance fd58_0 : IFD Tryz.prog 58 0 0 := ⟨by unfold FD; kernel_rfl⟩
instance fd58_1 : IFD Tryz.prog 58 1 1 := ⟨by unfold FD; kernel_rfl⟩
instance ag58 : IAG Tryz.prog 58 true := ⟨by unfold AG; kernel_rfl⟩
instance cf48 : ICF Tryz.prog 48 := ⟨Tryz.call48⟩
instance cf29 : ICF Tryz.prog 29 := ⟨Tryz.call29⟩
def ul58_0_58 (a : Fact) (p : Sv) : List Value := [(.int .i64 a.Rel), p.v]
theorem la58_0_58 {a : Fact} : ∀ H e, rd58 H e a → ∃ i : Sv, 0 + 2 ≤ e.cells.size ∧ (e.cells.toList.drop 0).take 2 = ul58_0_58 a i ∧ ∀ c ∈ ([crd (RdS 3 rdInt) i.v a.Values] : List Comp), c.P H ∧ c.F = [] := by
 intro H e h
 obtain ⟨v0, rfl, h0⟩ := h
 refine ⟨v0, Nat.le_of_ble_eq_true rfl, rfl, fun c hc => by
   simp only [List.mem_cons, List.not_mem_nil, or_false] at hc
   rcases hc with rfl
   · exact ⟨h0, rfl⟩
⟩
instance cf46 : ICF Tryz.prog 46 := ⟨Tryz.call46⟩
instance cf103 : ICF Tryz.prog 103 := ⟨Tryz.call103⟩
theorem mk58 {a : Fact} {v0 : Sv} {F0 : List Nat} : Mk ow58 F0 (.agg [(.int .i64 a.Rel), v0.v].toArray) a [cown (OwnS 3 (roE rdInt)) F0 v0.v a.Values] :=
 ⟨fun H h => ⟨v0, F0, rfl, rfl, h (cown (OwnS 3 (roE rdInt)) F0 v0.v a.Values) (by simp)⟩, by simp [cown]⟩
theorem ni28 : NotInt Tryz.prog 28 := .inr ⟨58, by kernel_rfl⟩
theorem ls58_0 {a : Fact} : ∀ H e, rd58 H e a → e.cells.toList[0]? = some (.int .i64 a.Rel) := by
 intro H e h
 obtain ⟨_, rfl, _⟩ := h
 rfl
theorem lv58_1 {a : Fact} : ∀ H e, rd58 H e a → ∃ w : Sv, e.cells.toList[1]? = some w.v ∧ (RdS 3 rdInt) H w.v a.Values := by
 intro H e h
 obtain ⟨v0, rfl, h0⟩ := h
 exact ⟨v0, rfl, h0⟩
instance cf167 : ICF Tryz.prog 167 := ⟨Tryz.call167⟩
instance cf55 : ICF Tryz.prog 55 := ⟨Tryz.call55⟩
instance cf51 : ICF Tryz.prog 51 := ⟨Tryz.call51⟩
instance fd97_2 : IFD Tryz.prog 97 2 2 := ⟨by unfold FD; kernel_rfl⟩
instance fd97_4 : IFD Tryz.prog 97 4 4 := ⟨by unfold FD; kernel_rfl⟩
instance fd97_3 : IFD Tryz.prog 97 3 3 := ⟨by unfold FD; kernel_rfl⟩
instance cf94 : ICF Tryz.prog 94 := ⟨Tryz.call94⟩
instance cf146 : ICF Tryz.prog 146 := ⟨Tryz.call146⟩
instance cf95 : ICF Tryz.prog 95 := ⟨Tryz.call95⟩
instance cf83 : ICF Tryz.prog 83 := ⟨Tryz.call83⟩
instance cf20 : ICF Tryz.prog 20 := ⟨Tryz.call20⟩
structure Access where
 Method : Int
 Values : List Int
structure Reached where
 Facts : List Fact
 Values : List Int
 Log : List Access
 Rounds : Int
instance ty46 : ITY Tryz.prog 46 4 80 (.agg [(.slice none 0 0), (.slice none 0 0), (.slice none 0 0), (.int .i64 0)].toArray) := ⟨by unfold TY; kernel_rfl⟩
instance cf64 : ICF Tryz.prog 64 := ⟨Tryz.call64⟩
instance cf110 : ICF Tryz.prog 110 := ⟨Tryz.call110⟩
instance cf78 : ICF Tryz.prog 78 := ⟨Tryz.call78⟩
instance cf155 : ICF Tryz.prog 155 := ⟨Tryz.call155⟩
instance cf185 : ICF Tryz.prog 185 := ⟨Tryz.call185⟩
instance cf156 : ICF Tryz.prog 156 := ⟨Tryz.call156⟩
instance cf119 : ICF Tryz.prog 119 := ⟨Tryz.call119⟩
instance cf168 : ICF Tryz.prog 168 := ⟨Tryz.call168⟩
def ul97_0_97 (a : Method) (p : Sv) : List Value := [(.int .i64 a.Rel), p.v, (.int .i64 a.Limit), (.int .i64 a.Cost), (.int .i64 a.Quota)]
theorem la97_0_97 {a : Method} : ∀ H e, rd97 H e a → ∃ i : Sv, 0 + 5 ≤ e.cells.size ∧ (e.cells.toList.drop 0).take 5 = ul97_0_97 a i ∧ ∀ c ∈ ([crd (RdS 3 rdInt) i.v a.Inputs] : List Comp), c.P H ∧ c.F = [] := by
 intro H e h
 obtain ⟨v0, rfl, h0⟩ := h
 refine ⟨v0, Nat.le_of_ble_eq_true rfl, rfl, fun c hc => by
   simp only [List.mem_cons, List.not_mem_nil, or_false] at hc
   rcases hc with rfl
   · exact ⟨h0, rfl⟩
⟩
instance cf120 : ICF Tryz.prog 120 := ⟨Tryz.call120⟩
instance cf121 : ICF Tryz.prog 121 := ⟨Tryz.call121⟩
instance cf158 : ICF Tryz.prog 158 := ⟨Tryz.call158⟩
instance cf169 : ICF Tryz.prog 169 := ⟨Tryz.call169⟩
instance cf123 : ICF Tryz.prog 123 := ⟨Tryz.call123⟩
instance cf198 : ICF Tryz.prog 198 := ⟨Tryz.call198⟩
instance cf199 : ICF Tryz.prog 199 := ⟨Tryz.call199⟩
instance cf60 : ICF Tryz.prog 60 := ⟨Tryz.call60⟩
instance cf115 : ICF Tryz.prog 115 := ⟨Tryz.call115⟩
instance cf124 : ICF Tryz.prog 124 := ⟨Tryz.call124⟩
instance cf170 : ICF Tryz.prog 170 := ⟨Tryz.call170⟩
instance cf45 : ICF Tryz.prog 45 := ⟨Tryz.call45⟩
instance cf98 : ICF Tryz.prog 98 := ⟨Tryz.call98⟩
instance cf148 : ICF Tryz.prog 148 := ⟨Tryz.call148⟩
instance cf180 : ICF Tryz.prog 180 := ⟨Tryz.call180⟩
instance cf149 : ICF Tryz.prog 149 := ⟨Tryz.call149⟩
instance cf147 : ICF Tryz.prog 147 := ⟨Tryz.call147⟩
instance cf38 : ICF Tryz.prog 38 := ⟨Tryz.call38⟩
instance cf88 : ICF Tryz.prog 88 := ⟨Tryz.call88⟩
instance sl38 : ISL Tryz.prog 38 24 := ⟨by unfold SL; kernel_rfl⟩
instance cf142 : ICF Tryz.prog 142 := ⟨Tryz.call142⟩
instance cf177 : ICF Tryz.prog 177 := ⟨Tryz.call177⟩
theorem lv24_0 {a : List Int} : ∀ H e, (RdS 3 rdInt) H e a → ∃ w : Sv, e.cells.toList[0]? = some w.v ∧ (RdS 3 rdInt) H w.v a := by
 intro H e h
 obtain ⟨a0, m, rfl⟩ := RdS.len h
 exact ⟨⟨a0, _, m⟩, rfl, h⟩
theorem lo3_0 {a : Int} : ∀ F H e, (roE rdInt) F H e a → e.cells.toList[0]? = some (.int .i64 a) := by
 intro F H e h
 obtain ⟨-, h⟩ := h
 subst h
 rfl
instance cf143 : ICF Tryz.prog 143 := ⟨Tryz.call143⟩
def lays189_ren : Go.Shelf.Ren := ⟨fun | 189 => 143 | 125 => 179 | 257 => 178 | 128 => 210 | 129 => 211 | 294 => 201 | 295 => 202 | 296 => 203 | 297 => 204 | 298 => 205 | 299 => 206 | 216 => 207 | 300 => 208 | 301 => 209 | 328 => 219 | 329 => 220 | 330 => 221 | 331 => 222 | 332 => 223 | 215 => 180 | 343 => 225 | n => n, fun | 28 => 24 | 3 => 3 | 46 => 170 | 0 => 0 | 51 => 195 | 53 => 197 | 4 => 4 | 183 => 187 | 182 => 186 | 131 => 192 | 5 => 5 | 9 => 9 | 218 => 202 | 222 => 206 | 228 => 208 | 229 => 209 | n => n, fun | n => n⟩
theorem lays189 : Go.Proofs.Lays.n189 Tryz.prog lays189_ren := {
 mixed := by kernel_rfl
 f125 := Tryz.func179.trans (congrArg some (by kernel_rfl))
 f128 := Tryz.func210.trans (congrArg some (by kernel_rfl))
 f129 := Tryz.func211.trans (congrArg some (by kernel_rfl))
 f189 := Tryz.func143.trans (congrArg some (by kernel_rfl))
 f215 := Tryz.func180.trans (congrArg some (by kernel_rfl))
 f216 := Tryz.func207.trans (congrArg some (by kernel_rfl))
 f257 := Tryz.func178.trans (congrArg some (by kernel_rfl))
 f294 := Tryz.func201.trans (congrArg some (by kernel_rfl))
 f295 := Tryz.func202.trans (congrArg some (by kernel_rfl))
 f296 := Tryz.func203.trans (congrArg some (by kernel_rfl))
 f297 := Tryz.func204.trans (congrArg some (by kernel_rfl))
 f298 := Tryz.func205.trans (congrArg some (by kernel_rfl))
 f299 := Tryz.func206.trans (congrArg some (by kernel_rfl))
 f300 := Tryz.func208.trans (congrArg some (by kernel_rfl))
 f301 := Tryz.func209.trans (congrArg some (by kernel_rfl))
 f328 := Tryz.func219.trans (congrArg some (by kernel_rfl))
 f329 := Tryz.func220.trans (congrArg some (by kernel_rfl))
 f330 := Tryz.func221.trans (congrArg some (by kernel_rfl))
 f331 := Tryz.func222.trans (congrArg some (by kernel_rfl))
 f332 := Tryz.func223.trans (congrArg some (by kernel_rfl))
 f343 := Tryz.func225.trans (congrArg some (by kernel_rfl))
 t0 := Tryz.underlying0
 a0 := Tryz.isAgg0
 z0 := Tryz.sizeOf0
 v0 := Tryz.zeroValue0
 t3 := Tryz.underlying3
 a3 := Tryz.isAgg3
 z3 := Tryz.sizeOf3
 v3 := Tryz.zeroValue3
 t4 := Tryz.underlying4
 a4 := Tryz.isAgg4
 z4 := Tryz.sizeOf4
 v4 := Tryz.zeroValue4
 t5 := Tryz.underlying5
 a5 := Tryz.isAgg5
 z5 := Tryz.sizeOf5
 v5 := Tryz.zeroValue5
 t9 := Tryz.underlying9
 a9 := Tryz.isAgg9
 z9 := Tryz.sizeOf9
 v9 := Tryz.zeroValue9
 t28 := Tryz.underlying24
 a28 := Tryz.isAgg24
 z28 := Tryz.sizeOf24
 v28 := Tryz.zeroValue24
 t46 := Tryz.underlying170
 a46 := Tryz.isAgg170
 z46 := Tryz.sizeOf170
 v46 := Tryz.zeroValue170
 t51 := Tryz.underlying195
 a51 := Tryz.isAgg195
 z51 := Tryz.sizeOf195
 v51 := Tryz.zeroValue195
 t53 := Tryz.underlying197
 a53 := Tryz.isAgg197
 z53 := Tryz.sizeOf197
 v53 := Tryz.zeroValue197
 t131 := Tryz.underlying192
 a131 := Tryz.isAgg192
 z131 := Tryz.sizeOf192
 v131 := Tryz.zeroValue192
 t182 := Tryz.underlying186
 a182 := Tryz.isAgg186
 z182 := Tryz.sizeOf186
 v182 := Tryz.zeroValue186
 t183 := Tryz.underlying187
 a183 := Tryz.isAgg187
 z183 := Tryz.sizeOf187
 v183 := Tryz.zeroValue187
 t218 := Tryz.underlying202
 a218 := Tryz.isAgg202
 z218 := Tryz.sizeOf202
 v218 := Tryz.zeroValue202
 t222 := Tryz.underlying206
 a222 := Tryz.isAgg206
 z222 := Tryz.sizeOf206
 v222 := Tryz.zeroValue206
 t228 := Tryz.underlying208
 a228 := Tryz.isAgg208
 z228 := Tryz.sizeOf208
 v228 := Tryz.zeroValue208
 t229 := Tryz.underlying209
 a229 := Tryz.isAgg209
 z229 := Tryz.sizeOf209
 v229 := Tryz.zeroValue209 }
instance cf144 : ICF Tryz.prog 144 := ⟨Tryz.call144⟩
def lays2020_ren : Go.Shelf.Ren := ⟨fun | 20 => 144 | n => n, fun | 22 => 24 | 3 => 3 | 4 => 4 | 0 => 0 | n => n, fun | n => n⟩
theorem lays2020 : Go.Proofs.Lays2.n20 Tryz.prog lays2020_ren := {
 mixed := by kernel_rfl
 f20 := Tryz.func144.trans (congrArg some (by kernel_rfl))
 t0 := Tryz.underlying0
 a0 := Tryz.isAgg0
 z0 := Tryz.sizeOf0
 v0 := Tryz.zeroValue0
 t3 := Tryz.underlying3
 a3 := Tryz.isAgg3
 z3 := Tryz.sizeOf3
 v3 := Tryz.zeroValue3
 t4 := Tryz.underlying4
 a4 := Tryz.isAgg4
 z4 := Tryz.sizeOf4
 v4 := Tryz.zeroValue4
 t22 := Tryz.underlying24
 a22 := Tryz.isAgg24
 z22 := Tryz.sizeOf24
 v22 := Tryz.zeroValue24
 i3 := by kernel_rfl }
instance ag46 : IAG Tryz.prog 46 true := ⟨by unfold AG; kernel_rfl⟩
def rd54 (H : AHeap) (v : Value) (a : Access) : Prop := ∃ v0 : Sv, v = .agg [(.int .i64 a.Method), v0.v].toArray ∧ (RdS 3 rdInt) H v0.v a.Values
instance : Mono rd54 := ⟨fun h hi => by
 obtain ⟨v0, h, h0⟩ := h
 exact ⟨v0, h, Mono.up h0 hi⟩⟩
instance : Cells rd54 2 := ⟨fun h => by
 obtain ⟨v0, rfl, h0⟩ := h
 exact ⟨rfl, rfl⟩⟩
def ow54 : ORel Access := fun F H v a => ∃ (v0 : Sv) (F0 : List Nat), v = .agg [(.int .i64 a.Method), v0.v].toArray ∧ F0 = F ∧ (OwnS 3 (roE rdInt)) F0 H v0.v a.Values
instance : Keep ow54 := ⟨fun h hi hg => by
 obtain ⟨v0, F0, rfl, rfl, h0⟩ := h
 exact ⟨v0, F0, rfl, rfl, Keep.keep h0 hi (fun k hk => hg k (by simp [hk]))⟩⟩
instance : Local ow54 := ⟨fun h hg => by
 obtain ⟨v0, F0, rfl, rfl, h0⟩ := h
 exact ⟨v0, F0, rfl, rfl, Local.keep h0 (fun k hk => hg k (by simp [hk]))⟩⟩
instance : Owns ow54 := ⟨fun h k hk => by
 obtain ⟨v0, F0, rfl, rfl, h0⟩ := h
 exact Owns.owns h0 k hk
⟩
instance : OCells ow54 2 := ⟨fun h => by
 obtain ⟨v0, F0, rfl, rfl, h0⟩ := h
 exact ⟨rfl, rfl⟩⟩
instance : Frz ow54 rd54 := ⟨fun h hg => by
 obtain ⟨v0, F0, rfl, rfl, h0⟩ := h
 exact ⟨v0, rfl, Frz.frz h0 (fun k hk => hg k (by simp [hk]))⟩⟩
instance cf65 : ICF Tryz.prog 65 := ⟨Tryz.call65⟩
instance cf70 : ICF Tryz.prog 70 := ⟨Tryz.call70⟩
instance cf69 : ICF Tryz.prog 69 := ⟨Tryz.call69⟩
instance sl44 : ISL Tryz.prog 44 54 := ⟨by unfold SL; kernel_rfl⟩
instance ty54 : ITY Tryz.prog 54 2 32 (.agg [(.int .i64 0), (.slice none 0 0)].toArray) := ⟨by unfold TY; kernel_rfl⟩
instance fd46_1 : IFD Tryz.prog 46 1 1 := ⟨by unfold FD; kernel_rfl⟩
instance cf125 : ICF Tryz.prog 125 := ⟨Tryz.call125⟩
instance cf101 : ICF Tryz.prog 101 := ⟨Tryz.call101⟩
theorem ni38 : NotInt Tryz.prog 38 := .inr ⟨24, by kernel_rfl⟩
instance fd46_2 : IFD Tryz.prog 46 2 2 := ⟨by unfold FD; kernel_rfl⟩
instance ag44 : IAG Tryz.prog 44 false := ⟨by unfold AG; kernel_rfl⟩
instance ag54 : IAG Tryz.prog 54 true := ⟨by unfold AG; kernel_rfl⟩
instance cf126 : ICF Tryz.prog 126 := ⟨Tryz.call126⟩
instance cf171 : ICF Tryz.prog 171 := ⟨Tryz.call171⟩
instance cf200 : ICF Tryz.prog 200 := ⟨Tryz.call200⟩
def ul54_0_54 (a : Access) (p : Sv) : List Value := [(.int .i64 a.Method), p.v]
theorem la54_0_54 {a : Access} : ∀ H e, rd54 H e a → ∃ i : Sv, 0 + 2 ≤ e.cells.size ∧ (e.cells.toList.drop 0).take 2 = ul54_0_54 a i ∧ ∀ c ∈ ([crd (RdS 3 rdInt) i.v a.Values] : List Comp), c.P H ∧ c.F = [] := by
 intro H e h
 obtain ⟨v0, rfl, h0⟩ := h
 refine ⟨v0, Nat.le_of_ble_eq_true rfl, rfl, fun c hc => by
   simp only [List.mem_cons, List.not_mem_nil, or_false] at hc
   rcases hc with rfl
   · exact ⟨h0, rfl⟩
⟩
instance cf172 : ICF Tryz.prog 172 := ⟨Tryz.call172⟩
instance cf141 : ICF Tryz.prog 141 := ⟨Tryz.call141⟩
instance fd54_0 : IFD Tryz.prog 54 0 0 := ⟨by unfold FD; kernel_rfl⟩
instance fd54_1 : IFD Tryz.prog 54 1 1 := ⟨by unfold FD; kernel_rfl⟩
instance cf86 : ICF Tryz.prog 86 := ⟨Tryz.call86⟩
theorem mk54 {a : Access} {v0 : Sv} {F0 : List Nat} : Mk ow54 F0 (.agg [(.int .i64 a.Method), v0.v].toArray) a [cown (OwnS 3 (roE rdInt)) F0 v0.v a.Values] :=
 ⟨fun H h => ⟨v0, F0, rfl, rfl, h (cown (OwnS 3 (roE rdInt)) F0 v0.v a.Values) (by simp)⟩, by simp [cown]⟩
theorem ni44 : NotInt Tryz.prog 44 := .inr ⟨54, by kernel_rfl⟩
instance fd46_3 : IFD Tryz.prog 46 3 3 := ⟨by unfold FD; kernel_rfl⟩
instance cf127 : ICF Tryz.prog 127 := ⟨Tryz.call127⟩
theorem un54 {a : Access} : Un ow54 a (fun p : Sv × List Nat => .agg [(.int .i64 a.Method), p.1.v].toArray) (fun p => [cown (OwnS 3 (roE rdInt)) p.2 p.1.v a.Values]) := ⟨fun F H e h => by
 obtain ⟨v0, F0, rfl, rfl, h0⟩ := h
 refine ⟨(v0, F0), rfl, fun c hc => ?_, by simp [foot, cown]⟩
 simp only [List.mem_cons, List.not_mem_nil, or_false] at hc
 rcases hc with rfl
 · exact h0⟩
instance ty44 : ITY Tryz.prog 44 1 24 (.slice none 0 0) := ⟨by unfold TY; kernel_rfl⟩
instance cf72 : ICF Tryz.prog 72 := ⟨Tryz.call72⟩
instance cf131 : ICF Tryz.prog 131 := ⟨Tryz.call131⟩
instance cf100 : ICF Tryz.prog 100 := ⟨Tryz.call100⟩
instance cf130 : ICF Tryz.prog 130 := ⟨Tryz.call130⟩
instance cf132 : ICF Tryz.prog 132 := ⟨Tryz.call132⟩
instance cf96 : ICF Tryz.prog 96 := ⟨Tryz.call96⟩
theorem un58 {a : Fact} : Un ow58 a (fun p : Sv × List Nat => .agg [(.int .i64 a.Rel), p.1.v].toArray) (fun p => [cown (OwnS 3 (roE rdInt)) p.2 p.1.v a.Values]) := ⟨fun F H e h => by
 obtain ⟨v0, F0, rfl, rfl, h0⟩ := h
 refine ⟨(v0, F0), rfl, fun c hc => ?_, by simp [foot, cown]⟩
 simp only [List.mem_cons, List.not_mem_nil, or_false] at hc
 rcases hc with rfl
 · exact h0⟩
instance fd46_0 : IFD Tryz.prog 46 0 0 := ⟨by unfold FD; kernel_rfl⟩
instance ag28 : IAG Tryz.prog 28 false := ⟨by unfold AG; kernel_rfl⟩
instance cf42 : ICF Tryz.prog 42 := ⟨Tryz.call42⟩
instance cf71 : ICF Tryz.prog 71 := ⟨Tryz.call71⟩
instance cf128 : ICF Tryz.prog 128 := ⟨Tryz.call128⟩
instance cf129 : ICF Tryz.prog 129 := ⟨Tryz.call129⟩
instance cf97 : ICF Tryz.prog 97 := ⟨Tryz.call97⟩
instance cf99 : ICF Tryz.prog 99 := ⟨Tryz.call99⟩
theorem hov150 : ∀ args w, (callFunc 150 args).run Tryz.prog w = ((Extern.SlicesOverlaps.overlaps #[28, 28] #[4] args).run Tryz.prog w).andThen fun v w' => .ok (.value v) w' := fun args w => run_callFunc_extern Tryz.func150 (by kernel_rfl) (by kernel_rfl) (by kernel_rfl) (e := Extern.SlicesOverlaps.overlaps #[28, 28] #[4]) (by kernel_rfl) args w
instance ty28 : ITY Tryz.prog 28 1 24 (.slice none 0 0) := ⟨by unfold TY; kernel_rfl⟩
instance cf21 : ICF Tryz.prog 21 := ⟨Tryz.call21⟩
instance cf39 : ICF Tryz.prog 39 := ⟨Tryz.call39⟩
instance cf89 : ICF Tryz.prog 89 := ⟨Tryz.call89⟩
instance cf54 : ICF Tryz.prog 54 := ⟨Tryz.call54⟩
instance cf33 : ICF Tryz.prog 33 := ⟨Tryz.call33⟩
instance cf25 : ICF Tryz.prog 25 := ⟨Tryz.call25⟩
instance cf67 : ICF Tryz.prog 67 := ⟨Tryz.call67⟩
instance cf15 : ICF Tryz.prog 15 := ⟨Tryz.call15⟩
instance cf56 : ICF Tryz.prog 56 := ⟨Tryz.call56⟩
instance cf79 : ICF Tryz.prog 79 := ⟨Tryz.call79⟩
instance cf80 : ICF Tryz.prog 80 := ⟨Tryz.call80⟩
instance cf84 : ICF Tryz.prog 84 := ⟨Tryz.call84⟩
instance cf136 : ICF Tryz.prog 136 := ⟨Tryz.call136⟩
theorem ls54_0 {a : Access} : ∀ H e, rd54 H e a → e.cells.toList[0]? = some (.int .i64 a.Method) := by
 intro H e h
 obtain ⟨_, rfl, _⟩ := h
 rfl
theorem lv54_1 {a : Access} : ∀ H e, rd54 H e a → ∃ w : Sv, e.cells.toList[1]? = some w.v ∧ (RdS 3 rdInt) H w.v a.Values := by
 intro H e h
 obtain ⟨v0, rfl, h0⟩ := h
 exact ⟨v0, rfl, h0⟩
instance cf174 : ICF Tryz.prog 174 := ⟨Tryz.call174⟩
instance cf81 : ICF Tryz.prog 81 := ⟨Tryz.call81⟩
instance cf137 : ICF Tryz.prog 137 := ⟨Tryz.call137⟩
theorem ls97_2 {a : Method} : ∀ H e, rd97 H e a → e.cells.toList[2]? = some (.int .i64 a.Limit) := by
 intro H e h
 obtain ⟨_, rfl, _⟩ := h
 rfl
theorem lv97_1 {a : Method} : ∀ H e, rd97 H e a → ∃ w : Sv, e.cells.toList[1]? = some w.v ∧ (RdS 3 rdInt) H w.v a.Inputs := by
 intro H e h
 obtain ⟨v0, rfl, h0⟩ := h
 exact ⟨v0, rfl, h0⟩
instance cf175 : ICF Tryz.prog 175 := ⟨Tryz.call175⟩
instance cf176 : ICF Tryz.prog 176 := ⟨Tryz.call176⟩
instance cf122 : ICF Tryz.prog 122 := ⟨Tryz.call122⟩
instance cf49 : ICF Tryz.prog 49 := ⟨Tryz.call49⟩
theorem mr54 {a : Access} {v0 : Sv} : Mk (roE rd54) [] (.agg [(.int .i64 a.Method), v0.v].toArray) a [crd (RdS 3 rdInt) v0.v a.Values] :=
 ⟨fun H h => ⟨rfl, v0, rfl, h (crd (RdS 3 rdInt) v0.v a.Values) (by simp)⟩, by simp [crd]⟩
instance cf74 : ICF Tryz.prog 74 := ⟨Tryz.call74⟩
instance cf133 : ICF Tryz.prog 133 := ⟨Tryz.call133⟩
instance cf22 : ICF Tryz.prog 22 := ⟨Tryz.call22⟩
instance cf10 : ICF Tryz.prog 10 := ⟨Tryz.call10⟩
instance cf66 : ICF Tryz.prog 66 := ⟨Tryz.call66⟩
instance cf23 : ICF Tryz.prog 23 := ⟨Tryz.call23⟩
instance cf24 : ICF Tryz.prog 24 := ⟨Tryz.call24⟩
instance cf62 : ICF Tryz.prog 62 := ⟨Tryz.call62⟩
instance cf26 : ICF Tryz.prog 26 := ⟨Tryz.call26⟩
instance cf68 : ICF Tryz.prog 68 := ⟨Tryz.call68⟩
instance cf27 : ICF Tryz.prog 27 := ⟨Tryz.call27⟩
instance cf36 : ICF Tryz.prog 36 := ⟨Tryz.call36⟩
instance cf85 : ICF Tryz.prog 85 := ⟨Tryz.call85⟩
instance cf138 : ICF Tryz.prog 138 := ⟨Tryz.call138⟩
instance cf139 : ICF Tryz.prog 139 := ⟨Tryz.call139⟩
instance cf87 : ICF Tryz.prog 87 := ⟨Tryz.call87⟩
instance cf140 : ICF Tryz.prog 140 := ⟨Tryz.call140⟩
theorem fdt46_0 : FDT Tryz.prog 46 0 0 28 := by unfold FDT; kernel_rfl
instance cf31 : ICF Tryz.prog 31 := ⟨Tryz.call31⟩
instance cf32 : ICF Tryz.prog 32 := ⟨Tryz.call32⟩
instance cf77 : ICF Tryz.prog 77 := ⟨Tryz.call77⟩
instance cf135 : ICF Tryz.prog 135 := ⟨Tryz.call135⟩
instance cf173 : ICF Tryz.prog 173 := ⟨Tryz.call173⟩
instance cf34 : ICF Tryz.prog 34 := ⟨Tryz.call34⟩
instance cf35 : ICF Tryz.prog 35 := ⟨Tryz.call35⟩
instance cf37 : ICF Tryz.prog 37 := ⟨Tryz.call37⟩
instance cf28 : ICF Tryz.prog 28 := ⟨Tryz.call28⟩
theorem fdt46_2 : FDT Tryz.prog 46 2 2 44 := by unfold FDT; kernel_rfl
instance cf30 : ICF Tryz.prog 30 := ⟨Tryz.call30⟩
instance cf73 : ICF Tryz.prog 73 := ⟨Tryz.call73⟩
def l_big (a_code : List UInt8) : Option (Bool) :=
 some (decide ((1048576 : Int) < (a_code.length : Int)))
theorem l_big_ok (a_code : List UInt8) (v0_0 : Sv) (R : Bool) (hF : l_big a_code = some R) :
   Fw.Spec Tryz.prog 5 [v0_0.v] [crd (RdS 5 rdU8) v0_0.v a_code] (fun _ : Unit => (.bool R)) (fun _ => []) := by
 refine Se 6 Tryz.func5 [.tmp 2] ?_
 intro H0 F0
 unfold l_big at hF
 iterate 10 refine au ?_
 cases hF
 exact Er ()
def s_l1New_L1 (a_code : List UInt8) : Nat → Int → Int → Option (l1Cur)
 | 0, _, _ => none
 | m3 + 1, c1, c2 => if ((decide ((c2 : Int) < (a_code.length : Int))) && (decide ((c2 : Int) < 4000))) then (
     (ix a_code c2).bind fun x13 =>
     s_l1New_L1 a_code m3 (andI .i64 (IntKind.i64.wrap ((IntKind.i64.wrap ((IntKind.i64.wrap (c1 * 131)) + (x13.toNat : Int))) + 7)) 1073741823) (IntKind.i64.wrap (c2 + 1)))
   else (
     some ({ b := a_code, i := 0, h := c1 } : l1Cur))
def s_l1New (a_code : List UInt8) : Option (l1Cur) :=
 s_l1New_L1 a_code (((a_code.length : Int) - 0).toNat + 2) (IntKind.i64.wrap (10101 + (a_code.length : Int))) 0
theorem s_l1New_ok (a_code : List UInt8) (v0_0 : Sv) (R : l1Cur) (hF : s_l1New a_code = some R) :
   Fw.Spec Tryz.prog 41 [v0_0.v] [crd (RdS 5 rdU8) v0_0.v a_code] (fun p : Nat × Sv => (.pointer (some ⟨p.1, 0, some 0⟩))) (fun p => [cbox p.1 116 (.agg [p.2.v, (.int .i64 R.i), (.int .i64 R.h)].toArray), crd (RdS 5 rdU8) p.2.v R.b]) := by
 refine Se 32 Tryz.func41 [.tmp 2] ?_
 intro H0 F0
 unfold s_l1New at hF
 iterate 13 refine au ?_
 refine CW_block (CW_loop (m := (((a_code.length : Int) - 0).toNat + 2)) (fun m3 f' cs' => ∃ (g : Fr) (c1 : Int) (c2 : Int), f' = updL g [(0, v0_0.v), (3, (.int .i64 c1)), (4, (.int .i64 c2))] ∧ Ent cs' [crd (RdS 5 rdU8) v0_0.v a_code] ∧ s_l1New_L1 a_code m3 c1 c2 = some R) ⟨_, _, _, eqA, entA, hF⟩ ?_)
 rintro m3 _ _ ⟨g4, c1, c2, rfl, hE, hF⟩
 refine K_ent hE ?_
 rcases m3 with _ | m3
 · rw [s_l1New_L1] at hF
   exact absurd hF (by simp)
 rw [s_l1New_L1] at hF
 iterate 2 refine au ?_
 refine C_cut (fun f' cs' => ∃ (g : Fr), f' = updL g [(0, v0_0.v), (3, (.int .i64 c1)), (4, (.int .i64 c2)), (15, (.bool ((decide ((c2 : Int) < (a_code.length : Int))) && (decide ((c2 : Int) < 4000)))))] ∧ Ent cs' [crd (RdS 5 rdU8) v0_0.v a_code]) ?_ ?_
 · iterate 5 refine au ?_
   rcases Bool.eq_false_or_eq_true (decide ((c2 : Int) < (a_code.length : Int))) with hg11 | hg11
   · rw [hg11]
     try rw [hg11] at hF; dsimp only [cond_true, cond_false] at hF
     iterate 6 refine au ?_
     exact ⟨_, eqA, entA⟩
   rw [hg11]
   try rw [hg11] at hF; dsimp only [cond_true, cond_false] at hF
   iterate 4 refine au ?_
   exact ⟨_, eqA, entA⟩
 rintro _ _ ⟨g12, rfl, hE⟩
 refine K_ent hE ?_
 refine Ci hF (fun hb20 hF => ?_) (fun hb20 hF => ?_)
 · iterate 7 refine au ?_
   refine bnd hF fun x13 hx14 hF => ?_
   obtain ⟨hp15, hx16⟩ := ix_some hx14
   refine Ai hx16 (fun k17 j18 => ?_)
   refine Al ls5_0 ?_
   refine C_val (V_convFromU8 (u := x13) ik5 ik3 (.tmp rfl rfl)) ?_
   iterate 2 refine au ?_
   refine C_val (V_and (i := (IntKind.i64.wrap ((IntKind.i64.wrap ((IntKind.i64.wrap (c1 * 131)) + (x13.toNat : Int))) + 7))) (j := 1073741823) (.tmp rfl rfl) (.int _ _)) ?_
   iterate 7 refine au ?_
   exact ⟨m3, Nat.lt_succ_self _, _, _, _, eqA, entA, hF⟩
 iterate 7 refine au ?_
 refine C_val (V_build ty116.h rfl (vs := [v0_0.v, (.int .i64 c1)]) (.cons (.tmp rfl rfl) (.cons (.tmp rfl rfl) .nil)) (cells := [v0_0.v, (.int .i64 0), (.int .i64 c1)]) rfl) ?_
 refine AbW (fun k19 => ?_)
 iterate 3 refine au ?_
 cases hF
 exact Er (k19, v0_0)
def s_l1Byte (a_c : l1Cur) : Option (Int × l1Cur) :=
 (shrI .i64 (IntKind.i64.wrap ((IntKind.i64.wrap (a_c.h * 6364136223846793005)) + 1442695040888963407)) 33).bind fun x1 =>
 (shrI .i64 (IntKind.i64.wrap ((IntKind.i64.wrap (a_c.h * 6364136223846793005)) + 1442695040888963407)) 45).bind fun x3 =>
 if (decide ((a_c.i : Int) < (a_c.b.length : Int))) then (
   (ix a_c.b a_c.i).bind fun x5 =>
   some ((andI .i64 (IntKind.i64.wrap ((andI .i64 (xorI .i64 x1 x3) 255) + (x5.toNat : Int))) 255), ({ b := a_c.b, i := (IntKind.i64.wrap (a_c.i + 1)), h := (IntKind.i64.wrap ((IntKind.i64.wrap (a_c.h * 6364136223846793005)) + 1442695040888963407)) } : l1Cur)))
 else (
   some ((andI .i64 (xorI .i64 x1 x3) 255), ({ b := a_c.b, i := a_c.i, h := (IntKind.i64.wrap ((IntKind.i64.wrap (a_c.h * 6364136223846793005)) + 1442695040888963407)) } : l1Cur)))
theorem s_l1Byte_ok (kq0 : Nat) (a_c : l1Cur) (v0_0 : Sv) (R : Int × l1Cur) (hF : s_l1Byte a_c = some R) :
   Fw.Spec Tryz.prog 134 [(pz kq0)] [cbox kq0 116 (.agg [v0_0.v, (.int .i64 a_c.i), (.int .i64 a_c.h)].toArray), crd (RdS 5 rdU8) v0_0.v a_c.b] (fun _ : Unit => (.int .i64 R.1)) (fun _ => [cbox kq0 116 (.agg [v0_0.v, (.int .i64 R.2.i), (.int .i64 R.2.h)].toArray)]) := by
 refine Se 58 Tryz.func134 [.tmp 2] ?_
 intro H0 F0
 unfold s_l1Byte at hF
 iterate 6 refine au ?_
 refine C_val (V_nilCheck (v := (pz kq0)) rfl (.tmp rfl rfl)) ?_
 iterate 4 refine au ?_
 refine C_val (V_nilCheck (v := (pz kq0)) rfl (.tmp rfl rfl)) ?_
 refine au ?_
 refine As (.agg [v0_0.v, (.int .i64 a_c.i), (.int .i64 (IntKind.i64.wrap ((IntKind.i64.wrap (a_c.h * 6364136223846793005)) + 1442695040888963407)))].toArray) ?_
 refine au ?_
 refine K_draw [0, 1, 2, 3, 4, 5, 6, 7, 8, 9, 10, 11, 12] [0, 1, 3, 7, 15, 0, 32, 96, 224, 480, 1023, 2047, 4095] [] mixed (by decide +kernel) ?_
 refine du ?_
 refine D_val rfl .no (fun ha => V_nilCheck (v := (pz kq0)) rfl (EN ha (.tmp rfl rfl) rfl)) ?_
 refine du ?_
 refine D_atO rfl .no .h (fun ha hp => V_load (v := (.int .i64 (IntKind.i64.wrap ((IntKind.i64.wrap (a_c.h * 6364136223846793005)) + 1442695040888963407)))) ag3.h (EN ha (.tmp rfl rfl) rfl) hp.2 rfl rfl) ?_
 refine bnd hF fun x1 hx2 hF => D_val rfl .no (fun ha => V_shr (i := (IntKind.i64.wrap ((IntKind.i64.wrap (a_c.h * 6364136223846793005)) + 1442695040888963407))) (j := 33) (EN ha (.tmp rfl rfl) rfl) (EN ha (.int _ _) rfl) hx2) ?_
 refine du ?_
 refine D_val rfl .no (fun ha => V_nilCheck (v := (pz kq0)) rfl (EN ha (.tmp rfl rfl) rfl)) ?_
 refine du ?_
 refine D_atO rfl .no .h (fun ha hp => V_load (v := (.int .i64 (IntKind.i64.wrap ((IntKind.i64.wrap (a_c.h * 6364136223846793005)) + 1442695040888963407)))) ag3.h (EN ha (.tmp rfl rfl) rfl) hp.2 rfl rfl) ?_
 refine bnd hF fun x3 hx4 hF => D_val rfl .no (fun ha => V_shr (i := (IntKind.i64.wrap ((IntKind.i64.wrap (a_c.h * 6364136223846793005)) + 1442695040888963407))) (j := 45) (EN ha (.tmp rfl rfl) rfl) (EN ha (.int _ _) rfl) hx4) ?_
 refine D_val rfl .no (fun ha => V_xor (i := x1) (j := x3) (EN ha (.tmp rfl rfl) rfl) (EN ha (.tmp rfl rfl) rfl)) ?_
 refine D_val rfl .no (fun ha => V_and (i := (xorI .i64 x1 x3)) (j := 255) (EN ha (.tmp rfl rfl) rfl) (EN ha (.int _ _) rfl)) ?_
 iterate 2 refine du ?_
 refine au ?_
 refine K_draw [0, 1, 2, 3, 4, 5, 6, 7, 8, 9] [0, 1, 3, 7, 0, 16, 48, 112, 240, 511] [] mixed (by decide +kernel) ?_
 refine du ?_
 refine D_val rfl .no (fun ha => V_nilCheck (v := (pz kq0)) rfl (EN ha (.tmp rfl rfl) rfl)) ?_
 refine du ?_
 refine D_atO rfl .no .h (fun ha hp => V_load (v := (.int .i64 a_c.i)) ag3.h (EN ha (.tmp rfl rfl) rfl) hp.2 rfl rfl) ?_
 refine du ?_
 refine D_val rfl .no (fun ha => V_nilCheck (v := (pz kq0)) rfl (EN ha (.tmp rfl rfl) rfl)) ?_
 refine du ?_
 refine D_atO rfl .no .h (fun ha hp => V_load (v := v0_0.v) ag22.h (EN ha (.tmp rfl rfl) rfl) hp.2 rfl rfl) ?_
 iterate 3 refine du ?_
 refine Ci hF (fun hb11 hF => ?_) (fun hb11 hF => ?_)
 · refine K_draw [0, 1, 2, 3, 4, 5, 6, 7, 8, 9, 10, 11, 12, 13, 14] [0, 0, 2, 6, 14, 0, 32, 96, 224, 510, 1022, 2046, 4095, 8191, 16383] [] mixed (by decide +kernel) ?_
   iterate 2 refine du ?_
   refine D_val rfl .no (fun ha => V_nilCheck (v := (pz kq0)) rfl (EN ha (.tmp rfl rfl) rfl)) ?_
   refine du ?_
   refine D_atO rfl .no .h (fun ha hp => V_load (v := v0_0.v) ag22.h (EN ha (.tmp rfl rfl) rfl) hp.2 rfl rfl) ?_
   refine du ?_
   refine D_val rfl .no (fun ha => V_nilCheck (v := (pz kq0)) rfl (EN ha (.tmp rfl rfl) rfl)) ?_
   refine du ?_
   refine D_atO rfl .no .h (fun ha hp => V_load (v := (.int .i64 a_c.i)) ag3.h (EN ha (.tmp rfl rfl) rfl) hp.2 rfl rfl) ?_
   refine bnd hF fun x5 hx6 hF => ?_
   obtain ⟨hp7, hx8⟩ := ix_some hx6
   refine Di hx8 (fun k9 j10 => ?_)
   refine Dl ls5_0 ?_
   refine D_val rfl .no (fun ha => V_convFromU8 (u := x5) ik5 ik3 (EN ha (.tmp rfl rfl) rfl)) ?_
   refine du ?_
   refine D_val rfl .no (fun ha => V_and (i := (IntKind.i64.wrap ((andI .i64 (xorI .i64 x1 x3) 255) + (x5.toNat : Int)))) (j := 255) (EN ha (.tmp rfl rfl) rfl) (EN ha (.int _ _) rfl)) ?_
   iterate 2 refine du ?_
   iterate 3 refine au ?_
   refine C_val (V_nilCheck (v := (pz kq0)) rfl (.tmp rfl rfl)) ?_
   iterate 3 refine au ?_
   refine C_val (V_nilCheck (v := (pz kq0)) rfl (.tmp rfl rfl)) ?_
   refine au ?_
   refine As (.agg [v0_0.v, (.int .i64 (IntKind.i64.wrap (a_c.i + 1))), (.int .i64 (IntKind.i64.wrap ((IntKind.i64.wrap (a_c.h * 6364136223846793005)) + 1442695040888963407)))].toArray) ?_
   iterate 6 refine au ?_
   cases hF
   exact Er ()
 iterate 6 refine au ?_
 cases hF
 exact Er ()
def s_l1Below (a_c : l1Cur) (a_n : Int) : Option (Int × l1Cur) :=
 if (decide ((a_n : Int) ≤ 0)) then (
   some (0, a_c))
 else (
   if (decide ((a_n : Int) ≤ 256)) then (
     (s_l1Byte a_c).bind fun r1 =>
     (remI r1.1 a_n).bind fun x4 =>
     some (x4, ({ b := a_c.b, i := r1.2.i, h := r1.2.h } : l1Cur)))
   else (
     (s_l1Byte a_c).bind fun r6 =>
     (s_l1Byte ({ b := a_c.b, i := r6.2.i, h := r6.2.h } : l1Cur)).bind fun r9 =>
     (s_l1Byte ({ b := a_c.b, i := r9.2.i, h := r9.2.h } : l1Cur)).bind fun r12 =>
     (s_l1Byte ({ b := a_c.b, i := r12.2.i, h := r12.2.h } : l1Cur)).bind fun r15 =>
     (remI (IntKind.i64.wrap ((IntKind.i64.wrap ((IntKind.i64.wrap ((IntKind.i64.wrap (r6.1 * 16777216)) + (IntKind.i64.wrap (r9.1 * 65536)))) + (IntKind.i64.wrap (r12.1 * 256)))) + r15.1)) a_n).bind fun x18 =>
     some (x18, ({ b := a_c.b, i := r15.2.i, h := r15.2.h } : l1Cur))))
theorem s_l1Below_ok (kq0 : Nat) (a_c : l1Cur) (v0_0 : Sv) (a_n : Int) (R : Int × l1Cur) (hF : s_l1Below a_c a_n = some R) :
   Fw.Spec Tryz.prog 75 [(pz kq0), (.int .i64 a_n)] [cbox kq0 116 (.agg [v0_0.v, (.int .i64 a_c.i), (.int .i64 a_c.h)].toArray), crd (RdS 5 rdU8) v0_0.v a_c.b] (fun _ : Unit => (.int .i64 R.1)) (fun _ => [cbox kq0 116 (.agg [v0_0.v, (.int .i64 R.2.i), (.int .i64 R.2.h)].toArray)]) := by
 refine Se 37 Tryz.func75 [.tmp 4] ?_
 intro H0 F0
 unfold s_l1Below at hF
 iterate 8 refine au ?_
 refine Ci hF (fun hb21 hF => ?_) (fun hb21 hF => ?_)
 · iterate 4 refine au ?_
   cases hF
   exact Er ()
 iterate 6 refine au ?_
 refine Ci hF (fun hb20 hF => ?_) (fun hb20 hF => ?_)
 · iterate 2 refine au ?_
   refine bnd hF fun r1 hx2 hF => Cx1 (s_l1Byte_ok _ _ _ _ hx2) (fun p3 => ?_)
   refine au ?_
   refine bnd hF fun x4 hx5 hF => C_val (V_remN (i := r1.1) (j := a_n) (.tmp rfl rfl) (.tmp rfl rfl) hx5) ?_
   iterate 3 refine au ?_
   cases hF
   exact Er ()
 iterate 3 refine au ?_
 refine bnd hF fun r6 hx7 hF => Cx1 (s_l1Byte_ok _ _ _ _ hx7) (fun p8 => ?_)
 iterate 4 refine au ?_
 refine bnd hF fun r9 hx10 hF => Cx1 (s_l1Byte_ok _ _ _ _ hx10) (fun p11 => ?_)
 iterate 4 refine au ?_
 refine bnd hF fun r12 hx13 hF => Cx1 (s_l1Byte_ok _ _ _ _ hx13) (fun p14 => ?_)
 iterate 4 refine au ?_
 refine bnd hF fun r15 hx16 hF => Cx1 (s_l1Byte_ok _ _ _ _ hx16) (fun p17 => ?_)
 iterate 14 refine au ?_
 refine bnd hF fun x18 hx19 hF => C_val (V_remN (i := (IntKind.i64.wrap ((IntKind.i64.wrap ((IntKind.i64.wrap ((IntKind.i64.wrap (r6.1 * 16777216)) + (IntKind.i64.wrap (r9.1 * 65536)))) + (IntKind.i64.wrap (r12.1 * 256)))) + r15.1))) (j := a_n) (.tmp rfl rfl) (.tmp rfl rfl) hx19) ?_
 iterate 3 refine au ?_
 cases hF
 exact Er ()
def s_l1Once (a_c : l1Cur) (a_n : Int) : Option (Bool × l1Cur) :=
 (s_l1Below a_c a_n).bind fun r1 =>
 some (((r1.1 : Int) == 0), ({ b := a_c.b, i := r1.2.i, h := r1.2.h } : l1Cur))
theorem s_l1Once_ok (kq0 : Nat) (a_c : l1Cur) (v0_0 : Sv) (a_n : Int) (R : Bool × l1Cur) (hF : s_l1Once a_c a_n = some R) :
   Fw.Spec Tryz.prog 82 [(pz kq0), (.int .i64 a_n)] [cbox kq0 116 (.agg [v0_0.v, (.int .i64 a_c.i), (.int .i64 a_c.h)].toArray), crd (RdS 5 rdU8) v0_0.v a_c.b] (fun _ : Unit => (.bool R.1)) (fun _ => [cbox kq0 116 (.agg [v0_0.v, (.int .i64 R.2.i), (.int .i64 R.2.h)].toArray)]) := by
 refine Se 9 Tryz.func82 [.tmp 4] ?_
 intro H0 F0
 unfold s_l1Once at hF
 iterate 6 refine au ?_
 refine bnd hF fun r1 hx2 hF => Cx1 (s_l1Below_ok _ _ _ _ _ hx2) (fun p3 => ?_)
 iterate 4 refine au ?_
 cases hF
 exact Er ()
def s_l2Schema_L1 (a_c : l1Cur) : Nat → Int → Int → (List Int) → Int → Option ((List Int) × l1Cur)
 | 0, _, _, _, _ => none
 | m45 + 1, c39, c40, c41, c44 => if (decide ((0 : Int) < c44)) then (
     ((s_l1Below ({ b := a_c.b, i := c39, h := c40 } : l1Cur) 2).bind fun r55 =>
       (s_l1Once ({ b := a_c.b, i := r55.2.i, h := r55.2.h } : l1Cur) 4).bind fun r58 =>
       if r58.1 then (
         (app c41 ([3] : List Int)).bind fun z62 =>
         some (r58.2.i, r58.2.h, z62))
       else (
         (app c41 ([(IntKind.i64.wrap (1 + r55.1))] : List Int)).bind fun z66 =>
         some (r58.2.i, r58.2.h, z66))).bind fun o53 =>
     match o53 with
     | (c70, c71, c72) => s_l2Schema_L1 a_c m45 c70 c71 c72 (IntKind.i64.wrap (c44 - 1)))
   else (
     some (c41, ({ b := a_c.b, i := c39, h := c40 } : l1Cur)))
def s_l2Schema (a_c : l1Cur) : Option ((List Int) × l1Cur) :=
 (s_l1Below a_c 3).bind fun r2 =>
 s_l2Schema_L1 a_c (((IntKind.i64.wrap (1 + r2.1)) - 0).toNat + 2) r2.2.i r2.2.h ([] : List Int) (IntKind.i64.wrap (1 + r2.1))
theorem s_l2Schema_ok (kq0 : Nat) (a_c : l1Cur) (v0_0 : Sv) (R : (List Int) × l1Cur) (hF : s_l2Schema a_c = some R) :
   Fw.Spec Tryz.prog 90 [(pz kq0)] [cbox kq0 116 (.agg [v0_0.v, (.int .i64 a_c.i), (.int .i64 a_c.h)].toArray), crd (RdS 5 rdU8) v0_0.v a_c.b] (fun p : Sv × List Nat => p.1.v) (fun p => [cown (OwnS 3 (roE rdInt)) p.2 p.1.v R.1, cbox kq0 116 (.agg [v0_0.v, (.int .i64 R.2.i), (.int .i64 R.2.h)].toArray)]) := by
 refine Se 24 Tryz.func90 [.tmp 2] ?_
 intro H0 F0
 unfold s_l2Schema at hF
 iterate 4 refine au ?_
 refine C_new rfl (N_buildSliceT (g := true) sl24.h ty3.h .nil (vs := []) rfl rfl rfl (by simp)) (fun k1 => ?_)
 refine Cv1 (.cons .h .nil) (own_lit (Ro := (roE rdInt)) (E := 3) (F := []) (xs := ([] : List Int)) MkL_nil rfl rfl) ?_
 iterate 5 refine au ?_
 refine bnd hF fun r2 hx3 hF => Cx1 (s_l1Below_ok _ _ _ _ _ hx3) (fun p4 => ?_)
 iterate 3 refine au ?_
 refine CW_block (CW_loop (m := (((IntKind.i64.wrap (1 + r2.1)) - 0).toNat + 2)) (fun m45 f' cs' => ∃ (g : Fr) (c39 : Int) (c40 : Int) (c41 : List Int) (c44 : Int) (v42 : Sv) (F43 : List Nat), f' = updL g [(0, (pz kq0)), (3, v42.v), (4, (.int .i64 c44))] ∧ Ent cs' [cbox kq0 116 (.agg [v0_0.v, (.int .i64 c39), (.int .i64 c40)].toArray), crd (RdS 5 rdU8) v0_0.v a_c.b, cown (OwnS 3 (roE rdInt)) F43 v42.v c41] ∧ s_l2Schema_L1 a_c m45 c39 c40 c41 c44 = some R) ⟨_, _, _, _, _, ⟨(some ⟨k1, 0, none⟩), 0, 1⟩, (k1 :: []), eqA, entA, hF⟩ ?_)
 rintro m45 _ _ ⟨g46, c39, c40, c41, c44, v42, F43, rfl, hE, hF⟩
 refine K_ent hE ?_
 rcases m45 with _ | m45
 · rw [s_l2Schema_L1] at hF
   exact absurd hF (by simp)
 rw [s_l2Schema_L1] at hF
 iterate 5 refine au ?_
 refine Ci hF (fun hb76 hF => ?_) (fun hb76 hF => ?_)
 · refine au ?_
   obtain ⟨o53, hio53, hO54⟩ := bind_some hF
   refine K_cut (fun f' cs' => ∃ (c70 : Int) (c71 : Int) (c72 : List Int) (v73 : Sv) (F74 : List Nat) (g : Fr), o53 = (c70, c71, c72) ∧ f' = updL g [(0, (pz kq0)), (3, v73.v), (4, (.int .i64 c44))] ∧ Ent cs' [cbox kq0 116 (.agg [v0_0.v, (.int .i64 c70), (.int .i64 c71)].toArray), crd (RdS 5 rdU8) v0_0.v a_c.b, cown (OwnS 3 (roE rdInt)) F74 v73.v c72]) ?_ ?_
   · replace hF := hio53
     refine CW_block (K_region (Cm (pz kq0) rfl rfl ?_))
     refine bnd hF fun r55 hx56 hF => Cx1 (s_l1Below_ok _ _ _ _ _ hx56) (fun p57 => ?_)
     iterate 6 refine au ?_
     refine bnd hF fun r58 hx59 hF => Cx1 (s_l1Once_ok _ _ _ _ _ hx59) (fun p60 => ?_)
     refine au ?_
     refine Ci hF (fun hb69 hF => ?_) (fun hb69 hF => ?_)
     · iterate 6 refine au ?_
       refine C_new rfl (N_buildSliceT (g := true) sl24.h ty3.h (.cons (.tmp rfl rfl) .nil) (vs := [(.int .i64 3)]) rfl rfl rfl (by intro v hv; simp at hv; rcases hv with rfl <;> rfl)) (fun k61 => ?_)
       refine Cv1 (.cons .h .nil) (own_lit (Ro := (roE rdInt)) (E := 3) (F := ([] ++ [])) (xs := ([3] : List Int)) (MkL_cons (Mk_pure (fun _ => rfl)) MkL_nil apps) rfl rfl) ?_
       refine bnd hF fun z62 hx63 hF => C_x1 (.cons (.t (.t (.t .h))) (.cons .h .nil)) (X_appendO (Ro := (roE rdInt)) sl24.h ni24 ty3.h rfl rfl rfl (.tmp rfl rfl) (.tmp rfl rfl) hx63 src_own) (fun p64 => ?_)
       iterate 2 refine au ?_
       cases hF
       exact ⟨_, _, _, p64.1, p64.2, _, rfl, eqA, entA⟩
     iterate 4 refine au ?_
     refine C_new rfl (N_buildSliceT (g := true) sl24.h ty3.h (.cons (.tmp rfl rfl) .nil) (vs := [(.int .i64 (IntKind.i64.wrap (1 + r55.1)))]) rfl rfl rfl (by intro v hv; simp at hv; rcases hv with rfl <;> rfl)) (fun k65 => ?_)
     refine Cv1 (.cons .h .nil) (own_lit (Ro := (roE rdInt)) (E := 3) (F := ([] ++ [])) (xs := ([(IntKind.i64.wrap (1 + r55.1))] : List Int)) (MkL_cons (Mk_pure (fun _ => rfl)) MkL_nil apps) rfl rfl) ?_
     refine bnd hF fun z66 hx67 hF => C_x1 (.cons (.t (.t (.t .h))) (.cons .h .nil)) (X_appendO (Ro := (roE rdInt)) sl24.h ni24 ty3.h rfl rfl rfl (.tmp rfl rfl) (.tmp rfl rfl) hx67 src_own) (fun p68 => ?_)
     iterate 2 refine au ?_
     cases hF
     exact ⟨_, _, _, p68.1, p68.2, _, rfl, eqA, entA⟩
   rintro _ _ ⟨c70, c71, c72, v73, F74, g75, rfl, rfl, hE⟩
   replace hF := hO54
   try dsimp only at hF
   refine K_ent hE ?_
   iterate 5 refine au ?_
   exact ⟨m45, Nat.lt_succ_self _, _, _, _, _, _, v73, F74, eqA, entA, hF⟩
 iterate 9 refine au ?_
 cases hF
 exact Er (v42, F43)
def s_l1PickInt (a_c : l1Cur) (a_list : List Int) : Option (Int × l1Cur) :=
 (s_l1Below a_c (a_list.length : Int)).bind fun r1 =>
 (ix a_list r1.1).bind fun x4 =>
 some (x4, ({ b := a_c.b, i := r1.2.i, h := r1.2.h } : l1Cur))
theorem s_l1PickInt_ok (kq0 : Nat) (a_c : l1Cur) (v0_0 : Sv) (a_list : List Int) (v1_0 : Sv) (R : Int × l1Cur) (hF : s_l1PickInt a_c a_list = some R) :
   Fw.Spec Tryz.prog 76 [(pz kq0), v1_0.v] [cbox kq0 116 (.agg [v0_0.v, (.int .i64 a_c.i), (.int .i64 a_c.h)].toArray), crd (RdS 5 rdU8) v0_0.v a_c.b, crd (RdS 3 rdInt) v1_0.v a_list] (fun _ : Unit => (.int .i64 R.1)) (fun _ => [cbox kq0 116 (.agg [v0_0.v, (.int .i64 R.2.i), (.int .i64 R.2.h)].toArray)]) := by
 refine Se 12 Tryz.func76 [.tmp 4] ?_
 intro H0 F0
 unfold s_l1PickInt at hF
 iterate 8 refine au ?_
 refine bnd hF fun r1 hx2 hF => Cx1 (s_l1Below_ok _ _ _ _ _ hx2) (fun p3 => ?_)
 refine bnd hF fun x4 hx5 hF => ?_
 obtain ⟨hp6, hx7⟩ := ix_some hx5
 refine Ai hx7 (fun k8 j9 => ?_)
 refine Al ls3_0 ?_
 iterate 3 refine au ?_
 cases hF
 exact Er ()
def s_l5Method_L1 (a_c : l1Cur) (a_s : List Int) (r2 : Int × l1Cur) (r6 : Int × l1Cur) (r9 : Int × l1Cur) (r12 : Int × l1Cur) : Nat → Int → Int → (List Int) → Int → Option (Method × l1Cur)
 | 0, _, _, _, _ => none
 | m52 + 1, c46, c47, c48, c51 => (ix a_s r2.1).bind fun x60 =>
   if (decide ((c51 : Int) < x60)) then (
     ((s_l1Once ({ b := a_c.b, i := c46, h := c47 } : l1Cur) 3).bind fun r68 =>
       if r68.1 then (
         (app c48 ([c51] : List Int)).bind fun z72 =>
         some (r68.2.i, r68.2.h, z72))
       else (
         some (r68.2.i, r68.2.h, c48))).bind fun o66 =>
     match o66 with
     | (c76, c77, c78) => s_l5Method_L1 a_c a_s r2 r6 r9 r12 m52 c76 c77 c78 (IntKind.i64.wrap (c51 + 1)))
   else (
     some (({ Rel := r2.1, Inputs := c48, Limit := r6.1, Cost := r9.1, Quota := (IntKind.i64.wrap (1 + r12.1)) } : Method), ({ b := a_c.b, i := c46, h := c47 } : l1Cur)))
def s_l5Method (fuel : Nat) (a_c : l1Cur) (a_s : List Int) : Option (Method × l1Cur) :=
 (s_l1Below a_c (a_s.length : Int)).bind fun r2 =>
 (s_l1PickInt ({ b := a_c.b, i := r2.2.i, h := r2.2.h } : l1Cur) ([0, 0, 0, 1, 2] : List Int)).bind fun r6 =>
 (s_l1Below ({ b := a_c.b, i := r6.2.i, h := r6.2.h } : l1Cur) 5).bind fun r9 =>
 (s_l1Below ({ b := a_c.b, i := r9.2.i, h := r9.2.h } : l1Cur) 6).bind fun r12 =>
 s_l5Method_L1 a_c a_s r2 r6 r9 r12 fuel r12.2.i r12.2.h ([] : List Int) 0
theorem s_l5Method_ok (fuel : Nat) (kq0 : Nat) (a_c : l1Cur) (v0_0 : Sv) (a_s : List Int) (v1_0 : Sv) (R : Method × l1Cur) (hF : s_l5Method fuel a_c a_s = some R) :
   Fw.Spec Tryz.prog 197 [(.pointer (some ⟨kq0, 0, some 0⟩)), v1_0.v] [cbox kq0 116 (.agg [v0_0.v, (.int .i64 a_c.i), (.int .i64 a_c.h)].toArray), crd (RdS 5 rdU8) v0_0.v a_c.b, crd (RdS 3 rdInt) v1_0.v a_s] (fun p : Sv × List Nat => (.agg [(.int .i64 R.1.Rel), p.1.v, (.int .i64 R.1.Limit), (.int .i64 R.1.Cost), (.int .i64 R.1.Quota)].toArray)) (fun p => [cown (OwnS 3 (roE rdInt)) p.2 p.1.v R.1.Inputs, cbox kq0 116 (.agg [v0_0.v, (.int .i64 R.2.i), (.int .i64 R.2.h)].toArray)]) := by
 refine Spec_enter (n := 38) Tryz.func197 rfl rfl (rs := [.cell 4 97]) rfl rfl rfl ?_
 intro H0 F0
 unfold s_l5Method at hF
 refine K_region (C_new rfl (N_allocT (g := true) ty97.h rfl rfl) (fun k1 => ?_))
 refine C_nil (K_region (Cm (.pointer (some ⟨kq0, 0, some 0⟩)) rfl rfl ?_))
 refine Cm v1_0.v rfl rfl ?_
 refine C_at (.t (.t (.t .h))) (fun hp => V_lenR (l := a_s.length) sl24.h (.tmp rfl rfl) (crd_len hp)) ?_
 obtain ⟨r2, hx3, hF⟩ := bind_some hF
 refine C_x1 (.cons (.t .h) (.rd (.t .h) rfl .nil)) (X_callS cf75.h (.cons (.tmp rfl rfl) (.cons (.tmp rfl rfl) .nil)) (s_l1Below_ok kq0 a_c v0_0 (a_s.length : Int) _ hx3)) (fun p4 => ?_)
 refine Cm (.pointer (some ⟨kq0, 0, some 0⟩)) rfl rfl ?_
 refine C_new rfl (N_buildSliceT (g := true) sl24.h ty3.h (.cons (.int _ _) (.cons (.int _ _) (.cons (.int _ _) (.cons (.int _ _) (.cons (.int _ _) .nil))))) (vs := [(.int .i64 0), (.int .i64 0), (.int .i64 0), (.int .i64 1), (.int .i64 2)]) rfl rfl rfl (by intro v hv; simp at hv; rcases hv with rfl | rfl | rfl | rfl | rfl <;> rfl)) (fun k5 => ?_)
 refine C_conv (.cons .h .nil) (own_lit (Ro := (roE rdInt)) (E := 3) (F := ([] ++ ([] ++ ([] ++ ([] ++ ([] ++ [])))))) (xs := ([0, 0, 0, 1, 2] : List Int)) (MkL_cons (Mk_pure (fun _ => rfl)) (MkL_cons (Mk_pure (fun _ => rfl)) (MkL_cons (Mk_pure (fun _ => rfl)) (MkL_cons (Mk_pure (fun _ => rfl)) (MkL_cons (Mk_pure (fun _ => rfl)) MkL_nil apps) apps) apps) apps) apps) rfl rfl) apps ?_
 obtain ⟨r6, hx7, hF⟩ := bind_some hF
 refine C_x2 (.cons .h (.cons .h (.rd (.t .h) rfl .nil))) (XC_bor frz_own (fun _ => (.cons .nil)) (XC_pre (.cons (.t .h) (.rd (.t .h) rfl (.rd .h rfl .nil))) (X_callS cf76.h (.cons (.tmp rfl rfl) (.cons (.tmp rfl rfl) .nil)) (s_l1PickInt_ok kq0 ({ b := a_c.b, i := r2.2.i, h := r2.2.h } : l1Cur) v0_0 ([0, 0, 0, 1, 2] : List Int) (⟨(some ⟨k5, 0, none⟩), 5, 1⟩) _ hx7)))) (fun p8 => ?_)
 refine Cm (.pointer (some ⟨kq0, 0, some 0⟩)) rfl rfl ?_
 obtain ⟨r9, hx10, hF⟩ := bind_some hF
 refine C_x1 (.cons (.t .h) (.rd (.t (.t .h)) rfl .nil)) (X_callS cf75.h (.cons (.tmp rfl rfl) (.cons (.int _ _) .nil)) (s_l1Below_ok kq0 ({ b := a_c.b, i := r6.2.i, h := r6.2.h } : l1Cur) v0_0 5 _ hx10)) (fun p11 => ?_)
 refine Cm (.pointer (some ⟨kq0, 0, some 0⟩)) rfl rfl ?_
 obtain ⟨r12, hx13, hF⟩ := bind_some hF
 refine C_x1 (.cons .h (.rd (.t (.t .h)) rfl .nil)) (X_callS cf75.h (.cons (.tmp rfl rfl) (.cons (.int _ _) .nil)) (s_l1Below_ok kq0 ({ b := a_c.b, i := r9.2.i, h := r9.2.h } : l1Cur) v0_0 6 _ hx13)) (fun p14 => ?_)
 refine C_val (V_add (i := 1) (j := r12.1) (.int _ _) (.tmp rfl rfl)) ?_
 refine C_val (V_build ty97.h rfl (vs := [(.int .i64 r2.1), (.int .i64 r6.1), (.int .i64 r9.1), (.int .i64 (IntKind.i64.wrap (1 + r12.1)))]) (.cons (.tmp rfl rfl) (.cons (.tmp rfl rfl) (.cons (.tmp rfl rfl) (.cons (.tmp rfl rfl) .nil)))) (cells := [(.int .i64 r2.1), (.slice none 0 0), (.int .i64 r6.1), (.int .i64 r9.1), (.int .i64 (IntKind.i64.wrap (1 + r12.1)))]) rfl) ?_
 refine C_new rfl (N_allocT (g := true) ty97.h rfl rfl) (fun k15 => ?_)
 refine C_x1 (.cons .h .nil) (X_storeB (e' := (.agg [(.int .i64 r2.1), (.slice none 0 0), (.int .i64 r6.1), (.int .i64 r9.1), (.int .i64 (IntKind.i64.wrap (1 + r12.1)))].toArray)) (v := (.agg [(.int .i64 r2.1), (.slice none 0 0), (.int .i64 r6.1), (.int .i64 r9.1), (.int .i64 (IntKind.i64.wrap (1 + r12.1)))].toArray)) ty97.h.sz (.tmp rfl rfl) (.tmp rfl rfl) rfl rfl rfl rfl rfl) (fun _ => ?_)
 refine C_nil (K_in (K_region (C_val (V_assign (v := (.int .i64 0)) (.int _ _)) ?_)))
 refine C_nil (CW_block (CW_loop (m := fuel) (fun m52 f' cs' => ∃ (g : Fr) (c46 : Int) (c47 : Int) (c48 : List Int) (c51 : Int) (v49 : Sv) (F50 : List Nat), f' = updL g [(0, (.pointer (some ⟨kq0, 0, some 0⟩))), (1, v1_0.v), (4, (.pointer (some ⟨k1, 0, some 0⟩))), (5, (.pointer (some ⟨k15, 0, some 0⟩))), (6, (.int .i64 c51))] ∧ Ent cs' [cbox kq0 116 (.agg [v0_0.v, (.int .i64 c46), (.int .i64 c47)].toArray), crd (RdS 5 rdU8) v0_0.v a_c.b, crd (RdS 3 rdInt) v1_0.v a_s, cbox k1 97 (.agg [(.int .i64 0), (.slice none 0 0), (.int .i64 0), (.int .i64 0), (.int .i64 0)].toArray), cbox k15 97 (.agg [(.int .i64 r2.1), v49.v, (.int .i64 r6.1), (.int .i64 r9.1), (.int .i64 (IntKind.i64.wrap (1 + r12.1)))].toArray), cown (OwnS 3 (roE rdInt)) F50 v49.v c48] ∧ s_l5Method_L1 a_c a_s r2 r6 r9 r12 m52 c46 c47 c48 c51 = some R) ⟨_, _, _, _, _, ⟨none, 0, 0⟩, [], (EqL.cons rfl (EqL.cons rfl (EqL.cons rfl (EqL.cons rfl (EqL.cons rfl (EqL.nil)))))).eq, (.conv .nil (own_nil (Ro := (roE rdInt)) (E := 3)) (.cons .nil) (.sel (.cons (.t (.t .h)) (.rd (.t (.t (.t (.t .h)))) rfl (.rd (.t (.t (.t (.t (.t .h))))) rfl (.cons (.t (.t (.t .h))) (.cons (.t .h) (.cons .h .nil)))))))), hF⟩ ?_))
 clear hF
 rintro m52 _ _ ⟨g53, c46, c47, c48, c51, v49, F50, rfl, hE, hF⟩
 refine K_ent hE ?_
 clear hE
 rcases m52 with _ | m52
 · rw [s_l5Method_L1] at hF
   exact absurd hF (by simp)
 rw [s_l5Method_L1] at hF
 refine K_in (K_region (Cm (.int .i64 c51) rfl rfl ?_))
 refine Cm v1_0.v rfl rfl ?_
 refine C_val (V_fieldAddr (off := 0) fd97_0.h (.tmp rfl rfl)) ?_
 refine C_at (.t (.t (.t (.t .h)))) (fun hp => V_load (v := (.int .i64 r2.1)) ag3.h (.tmp rfl rfl) hp.2 rfl rfl) ?_
 obtain ⟨x60, hx61, hF⟩ := bind_some hF
 obtain ⟨hp62, hx63⟩ := ix_some hx61
 refine C_idx (a := x60) sl24.h ty3.h.sz (.tmp rfl rfl) (.tmp rfl rfl) (.t (.t .h)) hp62 hx63 (fun k64 j65 => ?_)
 refine C_ldS (w := (.int .i64 x60)) ag3.h (.tmp rfl rfl) .h ls3_0 ?_
 refine C_val (V_lss (i := c51) (j := x60) (.tmp rfl rfl) (.tmp rfl rfl)) ?_
 refine C_nil (CW_cond (b := (decide ((c51 : Int) < x60))) (.tmp rfl rfl) (fun hb82 => ?_) (fun hb82 => ?_))
 · rw [if_pos hb82] at hF
   refine CW_skip ?_
   obtain ⟨o66, hio66, hO67⟩ := bind_some hF
   refine K_cut (fun f' cs' => ∃ (c76 : Int) (c77 : Int) (c78 : List Int) (v79 : Sv) (F80 : List Nat) (g : Fr), o66 = (c76, c77, c78) ∧ f' = updL g [(0, (.pointer (some ⟨kq0, 0, some 0⟩))), (1, v1_0.v), (4, (.pointer (some ⟨k1, 0, some 0⟩))), (5, (.pointer (some ⟨k15, 0, some 0⟩))), (6, (.int .i64 c51))] ∧ Ent cs' [cbox kq0 116 (.agg [v0_0.v, (.int .i64 c76), (.int .i64 c77)].toArray), crd (RdS 5 rdU8) v0_0.v a_c.b, crd (RdS 3 rdInt) v1_0.v a_s, cbox k1 97 (.agg [(.int .i64 0), (.slice none 0 0), (.int .i64 0), (.int .i64 0), (.int .i64 0)].toArray), cbox k15 97 (.agg [(.int .i64 r2.1), v79.v, (.int .i64 r6.1), (.int .i64 r9.1), (.int .i64 (IntKind.i64.wrap (1 + r12.1)))].toArray), cown (OwnS 3 (roE rdInt)) F80 v79.v c78]) ?_ ?_
   · replace hF := hio66
     refine CW_block (K_region (Cm (.pointer (some ⟨kq0, 0, some 0⟩)) rfl rfl ?_))
     obtain ⟨r68, hx69, hF⟩ := bind_some hF
     refine C_x1 (.cons (.t .h) (.rd (.t .h) rfl .nil)) (X_callS cf82.h (.cons (.tmp rfl rfl) (.cons (.int _ _) .nil)) (s_l1Once_ok kq0 ({ b := a_c.b, i := c46, h := c47 } : l1Cur) v0_0 3 _ hx69)) (fun p70 => ?_)
     refine C_nil (CW_cond (b := r68.1) (.tmp rfl rfl) (fun hb75 => ?_) (fun hb75 => ?_))
     · rw [if_pos hb75] at hF
       refine CW_region (C_val (V_fieldAddr (off := 1) fd97_1.h (.tmp rfl rfl)) ?_)
       refine C_at (.t (.t (.t (.t (.t .h))))) (fun hp => V_load (v := v49.v) ag24.h (.tmp rfl rfl) hp.2 rfl rfl) ?_
       refine Cm (.int .i64 c51) rfl rfl ?_
       refine C_new rfl (N_buildSliceT (g := true) sl24.h ty3.h (.cons (.tmp rfl rfl) .nil) (vs := [(.int .i64 c51)]) rfl rfl rfl (by intro v hv; simp at hv; rcases hv with rfl <;> rfl)) (fun k71 => ?_)
       refine C_conv (.cons .h .nil) (own_lit (Ro := (roE rdInt)) (E := 3) (F := ([] ++ [])) (xs := ([c51] : List Int)) (MkL_cons (Mk_pure (fun _ => rfl)) MkL_nil apps) rfl rfl) apps ?_
       obtain ⟨z72, hx73, hF⟩ := bind_some hF
       refine C_x1 (.cons (.t (.t (.t (.t (.t (.t (.t .h))))))) (.cons .h .nil)) (X_appendO (Ro := (roE rdInt)) sl24.h ni24 ty3.h rfl rfl rfl (.tmp rfl rfl) (.tmp rfl rfl) hx73 src_own) (fun p74 => ?_)
       refine C_val (V_fieldAddr (off := 1) fd97_1.h (.tmp rfl rfl)) ?_
       refine C_x1 (.cons (.t (.t (.t (.t (.t (.t .h)))))) .nil) (X_storeB (e' := (.agg [(.int .i64 r2.1), p74.1.v, (.int .i64 r6.1), (.int .i64 r9.1), (.int .i64 (IntKind.i64.wrap (1 + r12.1)))].toArray)) ty24.h.sz (.tmp rfl rfl) (.tmp rfl rfl) rfl rfl rfl rfl rfl) (fun _ => ?_)
       refine C_nil ?_
       obtain rfl := Option.some.inj hF
       exact ⟨_, _, _, p74.1, p74.2, _, rfl, (EqL.cons rfl (EqL.cons rfl (EqL.cons rfl (EqL.cons rfl (EqL.cons rfl (EqL.nil)))))).eq, (.sel (.cons (.t (.t .h)) (.rd (.t (.t (.t .h))) rfl (.rd (.t (.t (.t (.t .h)))) rfl (.cons (.t (.t (.t (.t (.t .h))))) (.cons .h (.cons .h .nil)))))))⟩
     rw [if_neg (by rw [hb75]; exact Bool.false_ne_true)] at hF
     refine CW_skip ?_
     obtain rfl := Option.some.inj hF
     exact ⟨_, _, _, v49, F50, _, rfl, (EqL.cons rfl (EqL.cons rfl (EqL.cons rfl (EqL.cons rfl (EqL.cons rfl (EqL.nil)))))).eq, (.sel (.cons .h (.rd (.t .h) rfl (.rd (.t (.t .h)) rfl (.cons (.t (.t (.t .h))) (.cons (.t (.t (.t .h))) (.cons (.t (.t (.t .h))) .nil)))))))⟩
   rintro _ _ ⟨c76, c77, c78, v79, F80, g81, rfl, rfl, hE⟩
   replace hF := hO67
   clear hO67
   try dsimp only at hF
   refine K_ent hE ?_
   refine CW_region (Cm (.int .i64 c51) rfl rfl ?_)
   refine C_val (V_add (i := c51) (j := 1) (.tmp rfl rfl) (.int _ _)) ?_
   refine Ca (.int .i64 (IntKind.i64.wrap (c51 + 1))) rfl rfl ?_
   refine C_nil ?_
   exact ⟨m52, Nat.lt_succ_self _, _, _, _, _, _, v79, F80, (EqL.cons rfl (EqL.cons rfl (EqL.cons rfl (EqL.cons rfl (EqL.cons rfl (EqL.nil)))))).eq, (.sel (.cons .h (.rd .h rfl (.rd (.t .h) rfl (.cons (.t (.t .h)) (.cons (.t (.t .h)) (.cons (.t (.t .h)) .nil))))))), hF⟩
 rw [if_neg (by rw [hb82]; exact Bool.false_ne_true)] at hF
 refine CW_exit ?_
 iterate 2 refine CThen_exit ?_
 refine CIn_self (K_region (C_at (.t (.t (.t (.t (.t .h))))) (fun hp => V_loadBox ag97.h ty97.h.sz rfl (.tmp rfl rfl) hp.2 rfl) ?_))
 refine C_x1 (.cons (.t (.t (.t (.t .h)))) .nil) (X_storeB (e' := (.agg [(.int .i64 r2.1), v49.v, (.int .i64 r6.1), (.int .i64 r9.1), (.int .i64 (IntKind.i64.wrap (1 + r12.1)))].toArray)) (v := (.agg [(.int .i64 r2.1), v49.v, (.int .i64 r6.1), (.int .i64 r9.1), (.int .i64 (IntKind.i64.wrap (1 + r12.1)))].toArray)) ty97.h.sz (.tmp rfl rfl) (.tmp rfl rfl) rfl rfl rfl rfl rfl) (fun _ => ?_)
 refine C_nil (CW_ret ?_)
 obtain rfl := Option.some.inj hF
 exact End_ret (v49, F50) (.cellA rfl rfl .h rfl ag97.h ty97.h.sz rfl rfl .nil) rfl (.sel (.cons (.t (.t (.t (.t (.t (.t .h)))))) (.cons (.t (.t .h)) .nil)))
def s_l5Methods_L1 (a_c : l1Cur) (a_s : List Int) (fuel : Nat) : Nat → Int → Int → (List Method) → Int → Option ((List Method) × l1Cur)
 | 0, _, _, _, _ => none
 | m31 + 1, c25, c26, c27, c30 => if (decide ((0 : Int) < c30)) then (
     (s_l5Method fuel ({ b := a_c.b, i := c25, h := c26 } : l1Cur) a_s).bind fun r39 =>
     (app c27 ([r39.1] : List Method)).bind fun z44 =>
     s_l5Methods_L1 a_c a_s fuel m31 r39.2.i r39.2.h z44 (IntKind.i64.wrap (c30 - 1)))
   else (
     some (c27, ({ b := a_c.b, i := c25, h := c26 } : l1Cur)))
def s_l5Methods (fuel : Nat) (a_c : l1Cur) (a_s : List Int) : Option ((List Method) × l1Cur) :=
 (s_l1Below a_c 4).bind fun r2 =>
 s_l5Methods_L1 a_c a_s fuel (((IntKind.i64.wrap (1 + r2.1)) - 0).toNat + 2) r2.2.i r2.2.h ([] : List Method) (IntKind.i64.wrap (1 + r2.1))
theorem s_l5Methods_ok (fuel : Nat) (kq0 : Nat) (a_c : l1Cur) (v0_0 : Sv) (a_s : List Int) (v1_0 : Sv) (R : (List Method) × l1Cur) (hF : s_l5Methods fuel a_c a_s = some R) :
   Fw.Spec Tryz.prog 166 [(pz kq0), v1_0.v] [cbox kq0 116 (.agg [v0_0.v, (.int .i64 a_c.i), (.int .i64 a_c.h)].toArray), crd (RdS 5 rdU8) v0_0.v a_c.b, crd (RdS 3 rdInt) v1_0.v a_s] (fun p : Sv × List Nat => p.1.v) (fun p => [cown (OwnS 97 ow97) p.2 p.1.v R.1, cbox kq0 116 (.agg [v0_0.v, (.int .i64 R.2.i), (.int .i64 R.2.h)].toArray)]) := by
 refine Se 24 Tryz.func166 [.tmp 4] ?_
 intro H0 F0
 unfold s_l5Methods at hF
 iterate 4 refine au ?_
 refine C_new rfl (N_buildSliceT (g := true) sl41.h ty97.h .nil (vs := []) rfl rfl rfl (by simp)) (fun k1 => ?_)
 refine Cv1 (.cons .h .nil) (own_lit (Ro := ow97) (E := 97) (F := []) (xs := ([] : List Method)) MkL_nil rfl rfl) ?_
 iterate 5 refine au ?_
 refine bnd hF fun r2 hx3 hF => Cx1 (s_l1Below_ok _ _ _ _ _ hx3) (fun p4 => ?_)
 iterate 3 refine au ?_
 refine CW_block (CW_loop (m := (((IntKind.i64.wrap (1 + r2.1)) - 0).toNat + 2)) (fun m31 f' cs' => ∃ (g : Fr) (c25 : Int) (c26 : Int) (c27 : List Method) (c30 : Int) (v28 : Sv) (F29 : List Nat), f' = updL g [(0, (pz kq0)), (1, v1_0.v), (5, v28.v), (6, (.int .i64 c30))] ∧ Ent cs' [cbox kq0 116 (.agg [v0_0.v, (.int .i64 c25), (.int .i64 c26)].toArray), crd (RdS 5 rdU8) v0_0.v a_c.b, crd (RdS 3 rdInt) v1_0.v a_s, cown (OwnS 97 ow97) F29 v28.v c27] ∧ s_l5Methods_L1 a_c a_s fuel m31 c25 c26 c27 c30 = some R) ⟨_, _, _, _, _, ⟨(some ⟨k1, 0, none⟩), 0, 1⟩, (k1 :: []), eqA, entA, hF⟩ ?_)
 rintro m31 _ _ ⟨g32, c25, c26, c27, c30, v28, F29, rfl, hE, hF⟩
 refine K_ent hE ?_
 rcases m31 with _ | m31
 · rw [s_l5Methods_L1] at hF
   exact absurd hF (by simp)
 rw [s_l5Methods_L1] at hF
 iterate 5 refine au ?_
 refine Ci hF (fun hb47 hF => ?_) (fun hb47 hF => ?_)
 · iterate 5 refine au ?_
   refine bnd hF fun r39 hx40 hF => Cx2 (s_l5Method_ok _ _ _ _ _ _ _ hx40) (fun p41 => ?_)
   refine AnW (fun k42 => ?_)
   refine As (.agg [(.int .i64 r39.1.Rel), p41.1.v, (.int .i64 r39.1.Limit), (.int .i64 r39.1.Cost), (.int .i64 r39.1.Quota)].toArray) ?_
   iterate 4 refine au ?_
   refine C_new rfl (N_buildSliceT (g := true) sl41.h ty97.h (.cons (.tmp rfl rfl) .nil) (vs := [(.agg [(.int .i64 r39.1.Rel), p41.1.v, (.int .i64 r39.1.Limit), (.int .i64 r39.1.Cost), (.int .i64 r39.1.Quota)].toArray)]) rfl rfl rfl (by intro v hv; simp at hv; rcases hv with rfl <;> rfl)) (fun k43 => ?_)
   refine Cv1 (.cons .h (.cons (.t .h) .nil)) (own_lit (Ro := ow97) (E := 97) (F := (p41.2 ++ [])) (xs := ([r39.1] : List Method)) (MkL_cons mk97 MkL_nil apps) rfl rfl) ?_
   refine bnd hF fun z44 hx45 hF => C_x1 (.cons (.t (.t (.t (.t (.t .h))))) (.cons .h .nil)) (X_appendO (Ro := ow97) sl41.h ni41 ty97.h rfl rfl rfl (.tmp rfl rfl) (.tmp rfl rfl) hx45 src_own) (fun p46 => ?_)
   iterate 7 refine au ?_
   exact ⟨m31, Nat.lt_succ_self _, _, _, _, _, _, p46.1, p46.2, eqA, entA, hF⟩
 iterate 9 refine au ?_
 cases hF
 exact Er (v28, F29)
def s_l2Fact_L1 (a_c : l1Cur) (a_s : List Int) (a_wide : Int) (r2 : Int × l1Cur) : Nat → Int → Int → (List Int) → Int → Option (Fact × l1Cur)
 | 0, _, _, _, _ => none
 | m34 + 1, c28, c29, c30, c33 => (ix a_s r2.1).bind fun x42 =>
   if (decide ((c33 : Int) < x42)) then (
     (s_l1Below ({ b := a_c.b, i := c28, h := c29 } : l1Cur) a_wide).bind fun r48 =>
     (app c30 ([r48.1] : List Int)).bind fun z52 =>
     s_l2Fact_L1 a_c a_s a_wide r2 m34 r48.2.i r48.2.h z52 (IntKind.i64.wrap (c33 + 1)))
   else (
     some (({ Rel := r2.1, Values := c30 } : Fact), ({ b := a_c.b, i := c28, h := c29 } : l1Cur)))
def s_l2Fact (fuel : Nat) (a_c : l1Cur) (a_s : List Int) (a_wide : Int) : Option (Fact × l1Cur) :=
 (s_l1Below a_c (a_s.length : Int)).bind fun r2 =>
 s_l2Fact_L1 a_c a_s a_wide r2 fuel r2.2.i r2.2.h ([] : List Int) 0
theorem s_l2Fact_ok (fuel : Nat) (kq0 : Nat) (a_c : l1Cur) (v0_0 : Sv) (a_s : List Int) (v1_0 : Sv) (a_wide : Int) (R : Fact × l1Cur) (hF : s_l2Fact fuel a_c a_s a_wide = some R) :
   Fw.Spec Tryz.prog 145 [(.pointer (some ⟨kq0, 0, some 0⟩)), v1_0.v, (.int .i64 a_wide)] [cbox kq0 116 (.agg [v0_0.v, (.int .i64 a_c.i), (.int .i64 a_c.h)].toArray), crd (RdS 5 rdU8) v0_0.v a_c.b, crd (RdS 3 rdInt) v1_0.v a_s] (fun p : Sv × List Nat => (.agg [(.int .i64 R.1.Rel), p.1.v].toArray)) (fun p => [cown (OwnS 3 (roE rdInt)) p.2 p.1.v R.1.Values, cbox kq0 116 (.agg [v0_0.v, (.int .i64 R.2.i), (.int .i64 R.2.h)].toArray)]) := by
 refine Spec_enter (n := 34) Tryz.func145 rfl rfl (rs := [.cell 6 58]) rfl rfl rfl ?_
 intro H0 F0
 unfold s_l2Fact at hF
 refine K_region (C_new rfl (N_allocT (g := true) ty58.h rfl rfl) (fun k1 => ?_))
 refine C_nil (K_region (Cm (.pointer (some ⟨kq0, 0, some 0⟩)) rfl rfl ?_))
 refine Cm v1_0.v rfl rfl ?_
 refine C_at (.t (.t (.t .h))) (fun hp => V_lenR (l := a_s.length) sl24.h (.tmp rfl rfl) (crd_len hp)) ?_
 obtain ⟨r2, hx3, hF⟩ := bind_some hF
 refine C_x1 (.cons (.t .h) (.rd (.t .h) rfl .nil)) (X_callS cf75.h (.cons (.tmp rfl rfl) (.cons (.tmp rfl rfl) .nil)) (s_l1Below_ok kq0 a_c v0_0 (a_s.length : Int) _ hx3)) (fun p4 => ?_)
 refine C_val (V_build ty58.h rfl (vs := [(.int .i64 r2.1)]) (.cons (.tmp rfl rfl) .nil) (cells := [(.int .i64 r2.1), (.slice none 0 0)]) rfl) ?_
 refine C_new rfl (N_allocT (g := true) ty58.h rfl rfl) (fun k5 => ?_)
 refine C_x1 (.cons .h .nil) (X_storeB (e' := (.agg [(.int .i64 r2.1), (.slice none 0 0)].toArray)) (v := (.agg [(.int .i64 r2.1), (.slice none 0 0)].toArray)) ty58.h.sz (.tmp rfl rfl) (.tmp rfl rfl) rfl rfl rfl rfl rfl) (fun _ => ?_)
 refine C_nil (K_in (K_region (C_val (V_assign (v := (.int .i64 0)) (.int _ _)) ?_)))
 refine C_nil (CW_block (CW_loop (m := fuel) (fun m34 f' cs' => ∃ (g : Fr) (c28 : Int) (c29 : Int) (c30 : List Int) (c33 : Int) (v31 : Sv) (F32 : List Nat), f' = updL g [(0, (.pointer (some ⟨kq0, 0, some 0⟩))), (1, v1_0.v), (2, (.int .i64 a_wide)), (6, (.pointer (some ⟨k1, 0, some 0⟩))), (7, (.pointer (some ⟨k5, 0, some 0⟩))), (8, (.int .i64 c33))] ∧ Ent cs' [cbox kq0 116 (.agg [v0_0.v, (.int .i64 c28), (.int .i64 c29)].toArray), crd (RdS 5 rdU8) v0_0.v a_c.b, crd (RdS 3 rdInt) v1_0.v a_s, cbox k1 58 (.agg [(.int .i64 0), (.slice none 0 0)].toArray), cbox k5 58 (.agg [(.int .i64 r2.1), v31.v].toArray), cown (OwnS 3 (roE rdInt)) F32 v31.v c30] ∧ s_l2Fact_L1 a_c a_s a_wide r2 m34 c28 c29 c30 c33 = some R) ⟨_, _, _, _, _, ⟨none, 0, 0⟩, [], (EqL.cons rfl (EqL.cons rfl (EqL.cons rfl (EqL.cons rfl (EqL.cons rfl (EqL.cons rfl (EqL.nil))))))).eq, (.conv .nil (own_nil (Ro := (roE rdInt)) (E := 3)) (.cons .nil) (.sel (.cons (.t (.t .h)) (.rd (.t (.t (.t .h))) rfl (.rd (.t (.t (.t (.t .h)))) rfl (.cons (.t (.t .h)) (.cons (.t .h) (.cons .h .nil)))))))), hF⟩ ?_))
 clear hF
 rintro m34 _ _ ⟨g35, c28, c29, c30, c33, v31, F32, rfl, hE, hF⟩
 refine K_ent hE ?_
 clear hE
 rcases m34 with _ | m34
 · rw [s_l2Fact_L1] at hF
   exact absurd hF (by simp)
 rw [s_l2Fact_L1] at hF
 refine K_in (K_region (Cm (.int .i64 c33) rfl rfl ?_))
 refine Cm v1_0.v rfl rfl ?_
 refine C_val (V_fieldAddr (off := 0) fd58_0.h (.tmp rfl rfl)) ?_
 refine C_at (.t (.t (.t (.t .h)))) (fun hp => V_load (v := (.int .i64 r2.1)) ag3.h (.tmp rfl rfl) hp.2 rfl rfl) ?_
 obtain ⟨x42, hx43, hF⟩ := bind_some hF
 obtain ⟨hp44, hx45⟩ := ix_some hx43
 refine C_idx (a := x42) sl24.h ty3.h.sz (.tmp rfl rfl) (.tmp rfl rfl) (.t (.t .h)) hp44 hx45 (fun k46 j47 => ?_)
 refine C_ldS (w := (.int .i64 x42)) ag3.h (.tmp rfl rfl) .h ls3_0 ?_
 refine C_val (V_lss (i := c33) (j := x42) (.tmp rfl rfl) (.tmp rfl rfl)) ?_
 refine C_nil (CW_cond (b := (decide ((c33 : Int) < x42))) (.tmp rfl rfl) (fun hb55 => ?_) (fun hb55 => ?_))
 · rw [if_pos hb55] at hF
   refine CW_skip (K_block (K_region (Cm (.pointer (some ⟨kq0, 0, some 0⟩)) rfl rfl ?_)))
   refine Cm (.int .i64 a_wide) rfl rfl ?_
   obtain ⟨r48, hx49, hF⟩ := bind_some hF
   refine C_x1 (.cons (.t .h) (.rd (.t .h) rfl .nil)) (X_callS cf75.h (.cons (.tmp rfl rfl) (.cons (.tmp rfl rfl) .nil)) (s_l1Below_ok kq0 ({ b := a_c.b, i := c28, h := c29 } : l1Cur) v0_0 a_wide _ hx49)) (fun p50 => ?_)
   refine Ca (.int .i64 r48.1) rfl rfl ?_
   refine C_nil (CW_region (C_val (V_fieldAddr (off := 1) fd58_1.h (.tmp rfl rfl)) ?_))
   refine C_at (.t (.t (.t (.t (.t .h))))) (fun hp => V_load (v := v31.v) ag24.h (.tmp rfl rfl) hp.2 rfl rfl) ?_
   refine Cm (.int .i64 r48.1) rfl rfl ?_
   refine C_new rfl (N_buildSliceT (g := true) sl24.h ty3.h (.cons (.tmp rfl rfl) .nil) (vs := [(.int .i64 r48.1)]) rfl rfl rfl (by intro v hv; simp at hv; rcases hv with rfl <;> rfl)) (fun k51 => ?_)
   refine C_conv (.cons .h .nil) (own_lit (Ro := (roE rdInt)) (E := 3) (F := ([] ++ [])) (xs := ([r48.1] : List Int)) (MkL_cons (Mk_pure (fun _ => rfl)) MkL_nil apps) rfl rfl) apps ?_
   obtain ⟨z52, hx53, hF⟩ := bind_some hF
   refine C_x1 (.cons (.t (.t (.t (.t (.t (.t (.t .h))))))) (.cons .h .nil)) (X_appendO (Ro := (roE rdInt)) sl24.h ni24 ty3.h rfl rfl rfl (.tmp rfl rfl) (.tmp rfl rfl) hx53 src_own) (fun p54 => ?_)
   refine C_val (V_fieldAddr (off := 1) fd58_1.h (.tmp rfl rfl)) ?_
   refine C_x1 (.cons (.t (.t (.t (.t (.t (.t .h)))))) .nil) (X_storeB (e' := (.agg [(.int .i64 r2.1), p54.1.v].toArray)) ty24.h.sz (.tmp rfl rfl) (.tmp rfl rfl) rfl rfl rfl rfl rfl) (fun _ => ?_)
   refine C_nil (CW_region (Cm (.int .i64 c33) rfl rfl ?_))
   refine C_val (V_add (i := c33) (j := 1) (.tmp rfl rfl) (.int _ _)) ?_
   refine Ca (.int .i64 (IntKind.i64.wrap (c33 + 1))) rfl rfl ?_
   refine C_nil ?_
   exact ⟨m34, Nat.lt_succ_self _, _, _, _, _, _, p54.1, p54.2, (EqL.cons rfl (EqL.cons rfl (EqL.cons rfl (EqL.cons rfl (EqL.cons rfl (EqL.cons rfl (EqL.nil))))))).eq, (.sel (.cons (.t (.t .h)) (.rd (.t (.t (.t .h))) rfl (.rd (.t (.t (.t (.t .h)))) rfl (.cons (.t (.t (.t (.t (.t .h))))) (.cons .h (.cons .h .nil))))))), hF⟩
 rw [if_neg (by rw [hb55]; exact Bool.false_ne_true)] at hF
 refine CW_exit ?_
 iterate 2 refine CThen_exit ?_
 refine CIn_self (K_region (C_at (.t (.t (.t (.t (.t .h))))) (fun hp => V_loadBox ag58.h ty58.h.sz rfl (.tmp rfl rfl) hp.2 rfl) ?_))
 refine C_x1 (.cons (.t (.t (.t (.t .h)))) .nil) (X_storeB (e' := (.agg [(.int .i64 r2.1), v31.v].toArray)) (v := (.agg [(.int .i64 r2.1), v31.v].toArray)) ty58.h.sz (.tmp rfl rfl) (.tmp rfl rfl) rfl rfl rfl rfl rfl) (fun _ => ?_)
 refine C_nil (CW_ret ?_)
 obtain rfl := Option.some.inj hF
 exact End_ret (v31, F32) (.cellA rfl rfl .h rfl ag58.h ty58.h.sz rfl rfl .nil) rfl (.sel (.cons (.t (.t (.t (.t (.t (.t .h)))))) (.cons (.t (.t .h)) .nil)))
def s_CompareFacts_L1 (a_a : Fact) (a_b : Fact) : Nat → Int → Option (Int)
 | 0, _ => none
 | m5 + 1, c4 => if ((decide ((c4 : Int) < (a_a.Values.length : Int))) && (decide ((c4 : Int) < (a_b.Values.length : Int)))) then (
     (ix a_a.Values c4).bind fun x15 =>
     (ix a_b.Values c4).bind fun x21 =>
     if (decide ((x15 : Int) < x21)) then (
       some (-1))
     else (
       (ix a_a.Values c4).bind fun x27 =>
       (ix a_b.Values c4).bind fun x33 =>
       if (decide ((x33 : Int) < x27)) then (
         some 1)
       else (
         s_CompareFacts_L1 a_a a_b m5 (IntKind.i64.wrap (c4 + 1)))))
   else (
     if (decide (((a_a.Values.length : Int) : Int) < (a_b.Values.length : Int))) then (
       some (-1))
     else (
       if (decide (((a_b.Values.length : Int) : Int) < (a_a.Values.length : Int))) then (
         some 1)
       else (
         some 0)))
def s_CompareFacts (a_a : Fact) (a_b : Fact) : Option (Int) :=
 if ((a_a.Rel : Int) != a_b.Rel) then (
   if (decide ((a_a.Rel : Int) < a_b.Rel)) then (
     some (-1))
   else (
     some 1))
 else (
   s_CompareFacts_L1 a_a a_b (((a_a.Values.length : Int) - 0).toNat + 2) 0)
theorem s_CompareFacts_ok (a_a : Fact) (v0_1 : Sv) (a_b : Fact) (v1_1 : Sv) (R : Int) (hF : s_CompareFacts a_a a_b = some R) :
   Fw.Spec Tryz.prog 46 [(.agg [(.int .i64 a_a.Rel), v0_1.v].toArray), (.agg [(.int .i64 a_b.Rel), v1_1.v].toArray)] [crd (RdS 3 rdInt) v0_1.v a_a.Values, crd (RdS 3 rdInt) v1_1.v a_b.Values] (fun _ : Unit => (.int .i64 R)) (fun _ => []) := by
 refine Se 66 Tryz.func46 [.tmp 4] ?_
 intro H0 F0
 unfold s_CompareFacts at hF
 refine au ?_
 refine AbR (fun k1 => ?_)
 refine AbR (fun k2 => ?_)
 iterate 10 refine au ?_
 refine Ci hF (fun hb44 hF => ?_) (fun hb44 hF => ?_)
 · iterate 8 refine au ?_
   refine Ci hF (fun hb3 hF => ?_) (fun hb3 hF => ?_)
   · iterate 4 refine au ?_
     cases hF
     exact Er ()
   iterate 5 refine au ?_
   cases hF
   exact Er ()
 iterate 5 refine au ?_
 refine CW_block (CW_loop (m := (((a_a.Values.length : Int) - 0).toNat + 2)) (fun m5 f' cs' => ∃ (g : Fr) (c4 : Int), f' = updL g [(2, (pz k1)), (3, (pz k2)), (5, (.int .i64 c4))] ∧ Ent cs' [cboR k1 58 (.agg [(.int .i64 a_a.Rel), v0_1.v].toArray), crd (RdS 3 rdInt) v0_1.v a_a.Values, cboR k2 58 (.agg [(.int .i64 a_b.Rel), v1_1.v].toArray), crd (RdS 3 rdInt) v1_1.v a_b.Values] ∧ s_CompareFacts_L1 a_a a_b m5 c4 = some R) ⟨_, _, eqA, entA, hF⟩ ?_)
 rintro m5 _ _ ⟨g6, c4, rfl, hE, hF⟩
 refine K_ent hE ?_
 rcases m5 with _ | m5
 · rw [s_CompareFacts_L1] at hF
   exact absurd hF (by simp)
 rw [s_CompareFacts_L1] at hF
 iterate 2 refine au ?_
 refine C_cut (fun f' cs' => ∃ (g : Fr), f' = updL g [(2, (pz k1)), (3, (pz k2)), (5, (.int .i64 c4)), (27, (.bool ((decide ((c4 : Int) < (a_a.Values.length : Int))) && (decide ((c4 : Int) < (a_b.Values.length : Int))))))] ∧ Ent cs' [cboR k1 58 (.agg [(.int .i64 a_a.Rel), v0_1.v].toArray), crd (RdS 3 rdInt) v0_1.v a_a.Values, cboR k2 58 (.agg [(.int .i64 a_b.Rel), v1_1.v].toArray), crd (RdS 3 rdInt) v1_1.v a_b.Values]) ?_ ?_
 · iterate 6 refine au ?_
   rcases Bool.eq_false_or_eq_true (decide ((c4 : Int) < (a_a.Values.length : Int))) with hg13 | hg13
   · rw [hg13]
     try rw [hg13] at hF; dsimp only [cond_true, cond_false] at hF
     iterate 12 refine au ?_
     exact ⟨_, eqA, entA⟩
   rw [hg13]
   try rw [hg13] at hF; dsimp only [cond_true, cond_false] at hF
   iterate 7 refine au ?_
   exact ⟨_, eqA, entA⟩
 rintro _ _ ⟨g14, rfl, hE⟩
 refine K_ent hE ?_
 refine Ci hF (fun hb43 hF => ?_) (fun hb43 hF => ?_)
 · iterate 3 refine au ?_
   refine K_draw [0, 1, 2, 3, 4, 5, 6, 7, 8, 9, 10] [0, 1, 0, 7, 15, 0, 32, 0, 224, 480, 1023] [] mixed (by decide +kernel) ?_
   iterate 3 refine du ?_
   refine bnd hF fun x15 hx16 hF => ?_
   obtain ⟨hp17, hx18⟩ := ix_some hx16
   refine Di hx18 (fun k19 j20 => ?_)
   refine Dl ls3_0 ?_
   iterate 3 refine du ?_
   refine bnd hF fun x21 hx22 hF => ?_
   obtain ⟨hp23, hx24⟩ := ix_some hx22
   refine Di hx24 (fun k25 j26 => ?_)
   refine Dl ls3_0 ?_
   iterate 2 refine du ?_
   refine Ci hF (fun hb40 hF => ?_) (fun hb40 hF => ?_)
   · iterate 4 refine au ?_
     cases hF
     exact Er ()
   refine au ?_
   refine K_draw [0, 1, 2, 3, 4, 5, 6, 7, 8, 9, 10] [0, 1, 0, 7, 15, 0, 32, 0, 224, 480, 1023] [] mixed (by decide +kernel) ?_
   iterate 3 refine du ?_
   refine bnd hF fun x27 hx28 hF => ?_
   obtain ⟨hp29, hx30⟩ := ix_some hx28
   refine Di hx30 (fun k31 j32 => ?_)
   refine Dl ls3_0 ?_
   iterate 3 refine du ?_
   refine bnd hF fun x33 hx34 hF => ?_
   obtain ⟨hp35, hx36⟩ := ix_some hx34
   refine Di hx36 (fun k37 j38 => ?_)
   refine Dl ls3_0 ?_
   iterate 2 refine du ?_
   refine Ci hF (fun hb39 hF => ?_) (fun hb39 hF => ?_)
   · iterate 4 refine au ?_
     cases hF
     exact Er ()
   iterate 6 refine au ?_
   exact ⟨m5, Nat.lt_succ_self _, _, _, eqA, entA, hF⟩
 iterate 14 refine au ?_
 refine Ci hF (fun hb42 hF => ?_) (fun hb42 hF => ?_)
 · iterate 4 refine au ?_
   cases hF
   exact Er ()
 iterate 11 refine au ?_
 refine Ci hF (fun hb41 hF => ?_) (fun hb41 hF => ?_)
 · iterate 4 refine au ?_
   cases hF
   exact Er ()
 iterate 5 refine au ?_
 cases hF
 exact Er ()
def s_HasFact_L1 (a_f : Fact) : List Fact → Nat → Option (Bool)
 | [], k5 => some false
 | x7 :: rest6, k5 => (s_CompareFacts x7 a_f).bind fun r17 =>
   if ((r17 : Int) == 0) then (
     some true)
   else (
     s_HasFact_L1 a_f rest6 (k5 + 1))
def s_HasFact (a_l : List Fact) (a_f : Fact) : Option (Bool) :=
 s_HasFact_L1 a_f a_l 0
theorem s_HasFact_ok (a_l : List Fact) (v0_0 : Sv) (a_f : Fact) (v1_1 : Sv) (R : Bool) (hF : s_HasFact a_l a_f = some R) :
   Fw.Spec Tryz.prog 29 [v0_0.v, (.agg [(.int .i64 a_f.Rel), v1_1.v].toArray)] [crd (RdS 58 rd58) v0_0.v a_l, crd (RdS 3 rdInt) v1_1.v a_f.Values] (fun _ : Unit => (.bool R)) (fun _ => []) := by
 refine Se 19 Tryz.func29 [.tmp 4] ?_
 intro H0 F0
 unfold s_HasFact at hF
 refine au ?_
 refine AbR (fun k1 => ?_)
 iterate 6 refine au ?_
 refine CW_block (CW_loop (m := a_l.length) (fun m3 f' cs' => ∃ (g : Fr) (k5 : Nat) (rest6 : List Fact), m3 = rest6.length ∧ f' = updL g [(0, v0_0.v), (3, (pz k1)), (5, (.int .i64 (k5 : Int)))] ∧ List.drop k5 a_l = rest6 ∧ Ent cs' [crd (RdS 58 rd58) v0_0.v a_l, cboR k1 58 (.agg [(.int .i64 a_f.Rel), v1_1.v].toArray), crd (RdS 3 rdInt) v1_1.v a_f.Values] ∧ s_HasFact_L1 a_f rest6 k5 = some R) ⟨_, 0, _, rfl, eqA, rfl, entA, hF⟩ ?_)
 rintro m3 _ _ ⟨g4, k5, rest6, rfl, rfl, hd8, hE, hF⟩
 refine Kb hE a_l (fun hbd13 => ?_)
 rcases rest6 with _ | ⟨x7, rest6⟩
 · have hk9 := dn hd8
   rw [s_HasFact_L1] at hF
   iterate 7 refine au ?_
   refine CdF ?_
   iterate 8 refine au ?_
   cases hF
   exact Er ()
 obtain ⟨hk9, hx10, hd11⟩ := drop_cons hd8
 rw [s_HasFact_L1] at hF
 iterate 7 refine au ?_
 refine CdT ?_
 iterate 2 refine au ?_
 refine K_draw [0, 1, 2, 3, 4, 5, 6] [0, 0, 3, 7, 0, 31, 63] [5] mixed (by decide +kernel) ?_
 iterate 2 refine du ?_
 refine Di hx10 (fun k14 j15 => ?_)
 refine DlA1 (ul58_0_58 x7) la58_0_58 (fun p16 => ?_)
 refine du ?_
 refine bnd hF fun r17 hx18 hF => Dx0 (s_CompareFacts_ok _ _ _ _ _ hx18) (fun _ => ?_)
 iterate 2 refine du ?_
 refine Ci hF (fun hb21 hF => ?_) (fun hb21 hF => ?_)
 · iterate 4 refine au ?_
   cases hF
   exact Er ()
 iterate 6 refine au ?_
 rw [wk k5]
 exact ⟨_, Nat.lt_succ_self _, _, k5 + 1, rest6, rfl, eqA, hd11, entA, hF⟩
def s_l2One (a_rel : Int) (a_values : List Int) : Option (Fact) :=
 (app ([] : List Int) a_values).bind fun z3 =>
 some ({ Rel := a_rel, Values := z3 } : Fact)
theorem s_l2One_ok (a_rel : Int) (a_values : List Int) (v1_0 : Sv) (R : Fact) (hF : s_l2One a_rel a_values = some R) :
   Fw.Spec Tryz.prog 103 [(.int .i64 a_rel), v1_0.v] [crd (RdS 3 rdInt) v1_0.v a_values] (fun p : Sv × List Nat => (.agg [(.int .i64 R.Rel), p.1.v].toArray)) (fun p => [cown (OwnS 3 (roE rdInt)) p.2 p.1.v R.Values]) := by
 refine Se 10 Tryz.func103 [.cell 4 58] ?_
 intro H0 F0
 unfold s_l2One at hF
 refine au ?_
 refine AnW (fun k1 => ?_)
 iterate 3 refine au ?_
 refine C_new rfl (N_buildSliceT (g := true) sl24.h ty3.h .nil (vs := []) rfl rfl rfl (by simp)) (fun k2 => ?_)
 refine Cv1 (.cons .h .nil) (own_lit (Ro := (roE rdInt)) (E := 3) (F := []) (xs := ([] : List Int)) MkL_nil rfl rfl) ?_
 refine au ?_
 refine bnd hF fun z3 hx4 hF => C_x1 (.cons .h (.rd (.t .h) rfl .nil)) (X_appendO (Ro := (roE rdInt)) sl24.h ni24 ty3.h rfl rfl rfl (.tmp rfl rfl) (.tmp rfl rfl) hx4 src_rd) (fun p5 => ?_)
 refine C_val (V_build ty58.h rfl (vs := [(.int .i64 a_rel), p5.1.v]) (.cons (.tmp rfl rfl) (.cons (.tmp rfl rfl) .nil)) (cells := [(.int .i64 a_rel), p5.1.v]) rfl) ?_
 refine As (.agg [(.int .i64 a_rel), p5.1.v].toArray) ?_
 iterate 2 refine au ?_
 cases hF
 exact Er (p5.1, p5.2)
def s_AddFact_L1 (a_f : Fact) : List Fact → Nat → (List Fact) → Bool → Option ((List Fact))
 | [], k13, c6, c9 => if (!c9) then (
     (s_l2One a_f.Rel a_f.Values).bind fun r22 =>
     (app c6 ([r22] : List Fact)).bind fun z26 =>
     some z26)
   else (
     some c6)
 | x15 :: rest14, k13, c6, c9 => ((bif (!c9) then ((s_CompareFacts a_f x15).bind fun r38 =>
         some (decide ((r38 : Int) < 0)))
       else (some false)).bind fun o32 =>
     match o32 with
     | c41 => if c41 then (
         (s_l2One a_f.Rel a_f.Values).bind fun r42 =>
         (app c6 ([r42] : List Fact)).bind fun z46 =>
         (s_l2One x15.Rel x15.Values).bind fun r54 =>
         (app z46 ([r54] : List Fact)).bind fun z58 =>
         some (z58, true))
       else (
         (s_l2One x15.Rel x15.Values).bind fun r66 =>
         (app c6 ([r66] : List Fact)).bind fun z70 =>
         some (z70, c9))).bind fun o30 =>
   match o30 with
   | (c75, c78) => s_AddFact_L1 a_f rest14 (k13 + 1) c75 c78
def s_AddFact (a_l : List Fact) (a_f : Fact) : Option ((List Fact)) :=
 (s_HasFact a_l a_f).bind fun r3 =>
 s_AddFact_L1 a_f a_l 0 ([] : List Fact) r3
theorem s_AddFact_ok (a_l : List Fact) (v0_0 : Sv) (a_f : Fact) (v1_1 : Sv) (R : (List Fact)) (hF : s_AddFact a_l a_f = some R) :
   Fw.Spec Tryz.prog 48 [v0_0.v, (.agg [(.int .i64 a_f.Rel), v1_1.v].toArray)] [crd (RdS 58 rd58) v0_0.v a_l, crd (RdS 3 rdInt) v1_1.v a_f.Values] (fun p : Sv × List Nat => p.1.v) (fun p => [cown (OwnS 58 ow58) p.2 p.1.v R]) := by
 refine Se 62 Tryz.func48 [.tmp 4] ?_
 intro H0 F0
 unfold s_AddFact at hF
 refine au ?_
 refine AbR (fun k1 => ?_)
 iterate 3 refine au ?_
 refine C_new rfl (N_buildSliceT (g := true) sl28.h ty58.h .nil (vs := []) rfl rfl rfl (by simp)) (fun k2 => ?_)
 refine Cv1 (.cons .h .nil) (own_lit (Ro := ow58) (E := 58) (F := []) (xs := ([] : List Fact)) MkL_nil rfl rfl) ?_
 iterate 5 refine au ?_
 refine bnd hF fun r3 hx4 hF => Cx0 (s_HasFact_ok _ _ _ _ _ hx4) (fun _ => ?_)
 iterate 6 refine au ?_
 refine CW_block (CW_loop (m := a_l.length) (fun m11 f' cs' => ∃ (g : Fr) (k13 : Nat) (rest14 : List Fact) (c6 : List Fact) (c9 : Bool) (v7 : Sv) (F8 : List Nat), m11 = rest14.length ∧ f' = updL g [(0, v0_0.v), (3, (pz k1)), (5, v7.v), (6, (.bool c9)), (7, (.int .i64 (k13 : Int)))] ∧ List.drop k13 a_l = rest14 ∧ Ent cs' [crd (RdS 58 rd58) v0_0.v a_l, cboR k1 58 (.agg [(.int .i64 a_f.Rel), v1_1.v].toArray), crd (RdS 3 rdInt) v1_1.v a_f.Values, cown (OwnS 58 ow58) F8 v7.v c6] ∧ s_AddFact_L1 a_f rest14 k13 c6 c9 = some R) ⟨_, 0, _, _, _, ⟨(some ⟨k2, 0, none⟩), 0, 1⟩, (k2 :: []), rfl, eqA, rfl, entA, hF⟩ ?_)
 rintro m11 _ _ ⟨g12, k13, rest14, c6, c9, v7, F8, rfl, rfl, hd16, hE, hF⟩
 refine Kb hE a_l (fun hbd21 => ?_)
 rcases rest14 with _ | ⟨x15, rest14⟩
 · have hk17 := dn hd16
   rw [s_AddFact_L1] at hF
   iterate 7 refine au ?_
   refine CdF ?_
   iterate 9 refine au ?_
   refine Ci hF (fun hb29 hF => ?_) (fun hb29 hF => ?_)
   · iterate 6 refine au ?_
     refine bnd hF fun r22 hx23 hF => Cx1 (s_l2One_ok _ _ _ _ hx23) (fun p24 => ?_)
     refine C_new rfl (N_buildSliceT (g := true) sl28.h ty58.h (.cons (.tmp rfl rfl) .nil) (vs := [(.agg [(.int .i64 r22.Rel), p24.1.v].toArray)]) rfl rfl rfl (by intro v hv; simp at hv; rcases hv with rfl <;> rfl)) (fun k25 => ?_)
     refine Cv1 (.cons .h (.cons .h .nil)) (own_lit (Ro := ow58) (E := 58) (F := (p24.2 ++ [])) (xs := ([r22] : List Fact)) (MkL_cons mk58 MkL_nil apps) rfl rfl) ?_
     refine bnd hF fun z26 hx27 hF => C_x1 (.cons (.t (.t (.t (.t .h)))) (.cons .h .nil)) (X_appendO (Ro := ow58) sl28.h ni28 ty58.h rfl rfl rfl (.tmp rfl rfl) (.tmp rfl rfl) hx27 src_own) (fun p28 => ?_)
     iterate 7 refine au ?_
     cases hF
     exact Er (p28.1, p28.2)
   iterate 6 refine au ?_
   cases hF
   exact Er (v7, F8)
 obtain ⟨hk17, hx18, hd19⟩ := drop_cons hd16
 rw [s_AddFact_L1] at hF
 iterate 7 refine au ?_
 refine CdT ?_
 refine au ?_
 obtain ⟨o30, hio30, hO31⟩ := bind_some hF
 refine K_cut (fun f' cs' => ∃ (c75 : List Fact) (c78 : Bool) (v76 : Sv) (F77 : List Nat) (g : Fr), o30 = (c75, c78) ∧ f' = updL g [(0, v0_0.v), (3, (pz k1)), (5, v76.v), (6, (.bool c78)), (7, (.int .i64 (k13 : Int)))] ∧ Ent cs' [crd (RdS 58 rd58) v0_0.v a_l, cboR k1 58 (.agg [(.int .i64 a_f.Rel), v1_1.v].toArray), crd (RdS 3 rdInt) v1_1.v a_f.Values, cown (OwnS 58 ow58) F77 v76.v c75]) ?_ ?_
 · replace hF := hio30
   refine CW_block (K_in ?_)
   obtain ⟨o32, hio32, hO33⟩ := bind_some hF
   refine K_draw [0, 1, 2, 3, 4, 5, 6, 7, 8, 9, 10] [0, 1, 3, 7, 7, 7, 55, 119, 255, 511, 1023] [8] mixed (by decide +kernel) ?_
   refine D_cut (fun f' cs' => ∃ (c41 : Bool) (g : Fr), c41 = o32 ∧ f' = updL g [(0, v0_0.v), (3, (pz k1)), (5, v7.v), (6, (.bool c9)), (7, (.int .i64 (k13 : Int))), (28, (.bool c41))] ∧ Ent cs' [crd (RdS 58 rd58) v0_0.v a_l, cboR k1 58 (.agg [(.int .i64 a_f.Rel), v1_1.v].toArray), crd (RdS 3 rdInt) v1_1.v a_f.Values, cown (OwnS 58 ow58) F8 v7.v c6]) ?_ ?_
   · replace hF := hio32
     iterate 3 refine du ?_
     rcases Bool.eq_false_or_eq_true (!c9) with hg34 | hg34
     · rw [hg34]
       try rw [hg34] at hF; dsimp only [cond_true, cond_false] at hF
       iterate 3 refine du ?_
       refine Di hx18 (fun k35 j36 => ?_)
       refine DlA1 (ul58_0_58 x15) la58_0_58 (fun p37 => ?_)
       refine bnd hF fun r38 hx39 hF => Dx0 (s_CompareFacts_ok _ _ _ _ _ hx39) (fun _ => ?_)
       iterate 3 refine du ?_
       cases hF
       exact ⟨_, _, rfl, eqA, entA⟩
     rw [hg34]
     try rw [hg34] at hF; dsimp only [cond_true, cond_false] at hF
     iterate 9 refine du ?_
     cases hF
     exact ⟨_, _, rfl, eqA, entA⟩
   rintro _ _ ⟨c41, g74, rfl, rfl, hE⟩
   replace hF := hO33
   try dsimp only at hF
   refine K_ent hE ?_
   refine Ci hF (fun hb73 hF => ?_) (fun hb73 hF => ?_)
   · iterate 6 refine au ?_
     refine bnd hF fun r42 hx43 hF => Cx1 (s_l2One_ok _ _ _ _ hx43) (fun p44 => ?_)
     refine C_new rfl (N_buildSliceT (g := true) sl28.h ty58.h (.cons (.tmp rfl rfl) .nil) (vs := [(.agg [(.int .i64 r42.Rel), p44.1.v].toArray)]) rfl rfl rfl (by intro v hv; simp at hv; rcases hv with rfl <;> rfl)) (fun k45 => ?_)
     refine Cv1 (.cons .h (.cons .h .nil)) (own_lit (Ro := ow58) (E := 58) (F := (p44.2 ++ [])) (xs := ([r42] : List Fact)) (MkL_cons mk58 MkL_nil apps) rfl rfl) ?_
     refine bnd hF fun z46 hx47 hF => C_x1 (.cons (.t (.t (.t (.t .h)))) (.cons .h .nil)) (X_appendO (Ro := ow58) sl28.h ni28 ty58.h rfl rfl rfl (.tmp rfl rfl) (.tmp rfl rfl) hx47 src_own) (fun p48 => ?_)
     iterate 5 refine au ?_
     refine CW_draw [0, 1, 2, 3, 4, 5, 6, 7, 8, 9, 10, 11, 12, 13, 14] [0, 0, 0, 6, 14, 30, 0, 0, 192, 448, 960, 2046, 4094, 8191, 16383] [11, 13] mixed (by decide +kernel) ?_
     iterate 3 refine du ?_
     refine Di hx18 (fun k49 j50 => ?_)
     refine du ?_
     refine Dl ls58_0 ?_
     iterate 2 refine du ?_
     refine Di hx18 (fun k51 j52 => ?_)
     refine du ?_
     refine D_ldV (R' := (RdS 3 rdInt)) ag24.h rfl .no (.tmp rfl rfl) rfl .h lv58_1 (fun w53 => ?_)
     refine bnd hF fun r54 hx55 hF => Dx1 (s_l2One_ok _ _ _ _ hx55) (fun p56 => ?_)
     refine D_new rfl .no rfl (fun ha => N_buildSliceT (g := true) (len := 1) (parts := [(0, .tmp 48)]) sl28.h ty58.h (.cons (EN ha (.tmp rfl rfl) rfl) .nil) (vs := [(.agg [(.int .i64 r54.Rel), p56.1.v].toArray)]) rfl rfl rfl (by intro v hv; simp at hv; rcases hv with rfl <;> rfl)) (fun k57 => ?_)
     refine Dv1 (.cons .h (.cons .h .nil)) (own_lit (Ro := ow58) (E := 58) (F := (p56.2 ++ [])) (xs := ([r54] : List Fact)) (MkL_cons mk58 MkL_nil apps) rfl rfl) ?_
     refine bnd hF fun z58 hx59 hF => D_act1 rfl rfl .no (.cons (.t (.t (.t (.t .h)))) (.cons .h .nil)) (.dep rfl .nil) (fun ha => X_appendO (Ro := ow58) sl28.h ni28 ty58.h rfl rfl rfl (EN ha (.tmp rfl rfl) rfl) (EN ha (.tmp rfl rfl) rfl) hx59 src_own) (fun p60 => ?_)
     iterate 2 refine du ?_
     cases hF
     exact ⟨_, _, p60.1, p60.2, _, rfl, eqA, entA⟩
   refine au ?_
   refine CW_draw [0, 1, 2, 3, 4, 5, 6, 7, 8, 9, 10, 11, 12, 13, 14] [0, 0, 0, 6, 14, 30, 0, 0, 192, 448, 960, 2046, 4094, 8191, 16383] [11, 13] mixed (by decide +kernel) ?_
   iterate 3 refine du ?_
   refine Di hx18 (fun k61 j62 => ?_)
   refine du ?_
   refine Dl ls58_0 ?_
   iterate 2 refine du ?_
   refine Di hx18 (fun k63 j64 => ?_)
   refine du ?_
   refine D_ldV (R' := (RdS 3 rdInt)) ag24.h rfl .no (.tmp rfl rfl) rfl .h lv58_1 (fun w65 => ?_)
   refine bnd hF fun r66 hx67 hF => Dx1 (s_l2One_ok _ _ _ _ hx67) (fun p68 => ?_)
   refine D_new rfl .no rfl (fun ha => N_buildSliceT (g := true) (len := 1) (parts := [(0, .tmp 48)]) sl28.h ty58.h (.cons (EN ha (.tmp rfl rfl) rfl) .nil) (vs := [(.agg [(.int .i64 r66.Rel), p68.1.v].toArray)]) rfl rfl rfl (by intro v hv; simp at hv; rcases hv with rfl <;> rfl)) (fun k69 => ?_)
   refine Dv1 (.cons .h (.cons .h .nil)) (own_lit (Ro := ow58) (E := 58) (F := (p68.2 ++ [])) (xs := ([r66] : List Fact)) (MkL_cons mk58 MkL_nil apps) rfl rfl) ?_
   refine bnd hF fun z70 hx71 hF => D_act1 rfl rfl .no (.cons (.t (.t (.t (.t (.t (.t (.t .h))))))) (.cons .h .nil)) (.dep rfl .nil) (fun ha => X_appendO (Ro := ow58) sl28.h ni28 ty58.h rfl rfl rfl (EN ha (.tmp rfl rfl) rfl) (EN ha (.tmp rfl rfl) rfl) hx71 src_own) (fun p72 => ?_)
   iterate 2 refine du ?_
   cases hF
   exact ⟨_, _, p72.1, p72.2, _, rfl, eqA, entA⟩
 rintro _ _ ⟨c75, c78, v76, F77, g80, rfl, rfl, hE⟩
 replace hF := hO31
 try dsimp only at hF
 refine K_ent hE ?_
 iterate 5 refine au ?_
 rw [wk k13]
 exact ⟨_, Nat.lt_succ_self _, _, k13 + 1, rest14, _, _, v76, F77, rfl, eqA, hd19, entA, hF⟩
def s_l2Facts_L1 (a_c : l1Cur) (a_s : List Int) (fuel : Nat) : Nat → Int → Int → (List Fact) → Int → Option ((List Fact) × l1Cur)
 | 0, _, _, _, _ => none
 | m29 + 1, c23, c24, c25, c28 => if (decide ((0 : Int) < c28)) then (
     (s_l2Fact fuel ({ b := a_c.b, i := c23, h := c24 } : l1Cur) a_s 4).bind fun r37 =>
     (s_AddFact c25 r37.1).bind fun r40 =>
     s_l2Facts_L1 a_c a_s fuel m29 r37.2.i r37.2.h r40 (IntKind.i64.wrap (c28 - 1)))
   else (
     some (c25, ({ b := a_c.b, i := c23, h := c24 } : l1Cur)))
def s_l2Facts (fuel : Nat) (a_c : l1Cur) (a_s : List Int) (a_most : Int) : Option ((List Fact) × l1Cur) :=
 (s_l1Below a_c (IntKind.i64.wrap (a_most + 1))).bind fun r2 =>
 s_l2Facts_L1 a_c a_s fuel ((r2.1 - 0).toNat + 2) r2.2.i r2.2.h ([] : List Fact) r2.1
theorem s_l2Facts_ok (fuel : Nat) (kq0 : Nat) (a_c : l1Cur) (v0_0 : Sv) (a_s : List Int) (v1_0 : Sv) (a_most : Int) (R : (List Fact) × l1Cur) (hF : s_l2Facts fuel a_c a_s a_most = some R) :
   Fw.Spec Tryz.prog 92 [(pz kq0), v1_0.v, (.int .i64 a_most)] [cbox kq0 116 (.agg [v0_0.v, (.int .i64 a_c.i), (.int .i64 a_c.h)].toArray), crd (RdS 5 rdU8) v0_0.v a_c.b, crd (RdS 3 rdInt) v1_0.v a_s] (fun p : Sv × List Nat => p.1.v) (fun p => [cown (OwnS 58 ow58) p.2 p.1.v R.1, cbox kq0 116 (.agg [v0_0.v, (.int .i64 R.2.i), (.int .i64 R.2.h)].toArray)]) := by
 refine Se 24 Tryz.func92 [.tmp 6] ?_
 intro H0 F0
 unfold s_l2Facts at hF
 iterate 4 refine au ?_
 refine C_new rfl (N_buildSliceT (g := true) sl28.h ty58.h .nil (vs := []) rfl rfl rfl (by simp)) (fun k1 => ?_)
 refine Cv1 (.cons .h .nil) (own_lit (Ro := ow58) (E := 58) (F := []) (xs := ([] : List Fact)) MkL_nil rfl rfl) ?_
 iterate 7 refine au ?_
 refine bnd hF fun r2 hx3 hF => Cx1 (s_l1Below_ok _ _ _ _ _ hx3) (fun p4 => ?_)
 iterate 2 refine au ?_
 refine CW_block (CW_loop (m := ((r2.1 - 0).toNat + 2)) (fun m29 f' cs' => ∃ (g : Fr) (c23 : Int) (c24 : Int) (c25 : List Fact) (c28 : Int) (v26 : Sv) (F27 : List Nat), f' = updL g [(0, (pz kq0)), (1, v1_0.v), (7, v26.v), (8, (.int .i64 c28))] ∧ Ent cs' [cbox kq0 116 (.agg [v0_0.v, (.int .i64 c23), (.int .i64 c24)].toArray), crd (RdS 5 rdU8) v0_0.v a_c.b, crd (RdS 3 rdInt) v1_0.v a_s, cown (OwnS 58 ow58) F27 v26.v c25] ∧ s_l2Facts_L1 a_c a_s fuel m29 c23 c24 c25 c28 = some R) ⟨_, _, _, _, _, ⟨(some ⟨k1, 0, none⟩), 0, 1⟩, (k1 :: []), eqA, entA, hF⟩ ?_)
 rintro m29 _ _ ⟨g30, c23, c24, c25, c28, v26, F27, rfl, hE, hF⟩
 refine K_ent hE ?_
 rcases m29 with _ | m29
 · rw [s_l2Facts_L1] at hF
   exact absurd hF (by simp)
 rw [s_l2Facts_L1] at hF
 iterate 5 refine au ?_
 refine Ci hF (fun hb43 hF => ?_) (fun hb43 hF => ?_)
 · iterate 6 refine au ?_
   refine bnd hF fun r37 hx38 hF => Cx2 (s_l2Fact_ok _ _ _ _ _ _ _ _ hx38) (fun p39 => ?_)
   refine bnd hF fun r40 hx41 hF => C_x3 (.cons .h (.cons (.t (.t (.t .h))) .nil)) (XC_borL (pre := []) (.cons frz_own (.cons frz_own .nil)) (fun _ => (.cons .nil)) (X_callS cf48.h (.cons (.tmp rfl rfl) (.cons (.tmp rfl rfl) .nil)) (s_AddFact_ok c25 v26 r37.1 p39.1 _ hx41))) (fun p42 => ?_)
   iterate 7 refine au ?_
   exact ⟨m29, Nat.lt_succ_self _, _, _, _, _, _, p42.1, p42.2, eqA, entA, hF⟩
 iterate 9 refine au ?_
 cases hF
 exact Er (v26, F27)
def s_l1In (a_x : Int) (a_low : Int) (a_high : Int) : Option (Bool) :=
 some ((decide ((a_low : Int) ≤ a_x)) && (decide ((a_x : Int) ≤ a_high)))
theorem s_l1In_ok (a_x : Int) (a_low : Int) (a_high : Int) (R : Bool) (hF : s_l1In a_x a_low a_high = some R) :
   Fw.Spec Tryz.prog 51 [(.int .i64 a_x), (.int .i64 a_low), (.int .i64 a_high)] [] (fun _ : Unit => (.bool R)) (fun _ => []) := by
 refine Se 15 Tryz.func51 [.tmp 6] ?_
 intro H0 F0
 unfold s_l1In at hF
 iterate 4 refine au ?_
 refine C_cut (fun f' cs' => ∃ (g : Fr), f' = updL g [(6, (.bool ((decide ((a_low : Int) ≤ a_x)) && (decide ((a_x : Int) ≤ a_high)))))] ∧ Ent cs' []) ?_ ?_
 · iterate 4 refine au ?_
   rcases Bool.eq_false_or_eq_true (decide ((a_low : Int) ≤ a_x)) with hg1 | hg1
   · rw [hg1]
     try rw [hg1] at hF; dsimp only [cond_true, cond_false] at hF
     iterate 9 refine au ?_
     exact ⟨_, eqA, entA⟩
   rw [hg1]
   try rw [hg1] at hF; dsimp only [cond_true, cond_false] at hF
   iterate 6 refine au ?_
   exact ⟨_, eqA, entA⟩
 rintro _ _ ⟨g2, rfl, hE⟩
 refine K_ent hE ?_
 refine au ?_
 cases hF
 exact Er ()
def s_IsSchema_L1 (a_s : List Int) : List Int → Nat → Option (Bool)
 | [], k4 => (s_l1In (a_s.length : Int) 1 3).bind fun r13 =>
   some r13
 | x6 :: rest5, k4 => (s_l1In x6 1 3).bind fun r18 =>
   if (!r18) then (
     some false)
   else (
     s_IsSchema_L1 a_s rest5 (k4 + 1))
def s_IsSchema (a_s : List Int) : Option (Bool) :=
 s_IsSchema_L1 a_s a_s 0
theorem s_IsSchema_ok (a_s : List Int) (v0_0 : Sv) (R : Bool) (hF : s_IsSchema a_s = some R) :
   Fw.Spec Tryz.prog 55 [v0_0.v] [crd (RdS 3 rdInt) v0_0.v a_s] (fun _ : Unit => (.bool R)) (fun _ => []) := by
 refine Se 19 Tryz.func55 [.tmp 2] ?_
 intro H0 F0
 unfold s_IsSchema at hF
 iterate 7 refine au ?_
 refine CW_block (CW_loop (m := a_s.length) (fun m2 f' cs' => ∃ (g : Fr) (k4 : Nat) (rest5 : List Int), m2 = rest5.length ∧ f' = updL g [(0, v0_0.v), (3, (.int .i64 (k4 : Int)))] ∧ List.drop k4 a_s = rest5 ∧ Ent cs' [crd (RdS 3 rdInt) v0_0.v a_s] ∧ s_IsSchema_L1 a_s rest5 k4 = some R) ⟨_, 0, _, rfl, eqA, rfl, entA, hF⟩ ?_)
 rintro m2 _ _ ⟨g3, k4, rest5, rfl, rfl, hd7, hE, hF⟩
 refine Kb hE a_s (fun hbd12 => ?_)
 rcases rest5 with _ | ⟨x6, rest5⟩
 · have hk8 := dn hd7
   rw [s_IsSchema_L1] at hF
   iterate 7 refine au ?_
   refine CdF ?_
   iterate 7 refine au ?_
   refine bnd hF fun r13 hx14 hF => Cx0 (s_l1In_ok _ _ _ _ hx14) (fun _ => ?_)
   iterate 3 refine au ?_
   cases hF
   exact Er ()
 obtain ⟨hk8, hx9, hd10⟩ := drop_cons hd7
 rw [s_IsSchema_L1] at hF
 iterate 7 refine au ?_
 refine CdT ?_
 iterate 5 refine au ?_
 refine Ai hx9 (fun k16 j17 => ?_)
 refine Al ls3_0 ?_
 refine bnd hF fun r18 hx19 hF => Cx0 (s_l1In_ok _ _ _ _ hx19) (fun _ => ?_)
 iterate 2 refine au ?_
 refine Ci hF (fun hb22 hF => ?_) (fun hb22 hF => ?_)
 · iterate 4 refine au ?_
   cases hF
   exact Er ()
 iterate 6 refine au ?_
 rw [wk k4]
 exact ⟨_, Nat.lt_succ_self _, _, k4 + 1, rest5, rfl, eqA, hd10, entA, hF⟩
def s_l5AnyMethod (fuel : Nat) (a_c : l1Cur) (a_s : List Int) : Option (Method × l1Cur) :=
 (s_IsSchema a_s).bind fun r3 =>
 if r3 then (
   (s_l5Method fuel a_c a_s).bind fun r6 =>
   (s_l1Below ({ b := a_c.b, i := r6.2.i, h := r6.2.h } : l1Cur) 10).bind fun r9 =>
   if ((r9.1 : Int) == 0) then (
     (s_l1PickInt ({ b := a_c.b, i := r9.2.i, h := r9.2.h } : l1Cur) ([(-1), 9, 10] : List Int)).bind fun r13 =>
     some (({ Rel := r6.1.Rel, Inputs := r6.1.Inputs, Limit := r13.1, Cost := r6.1.Cost, Quota := r6.1.Quota } : Method), ({ b := a_c.b, i := r13.2.i, h := r13.2.h } : l1Cur)))
   else (
     if ((r9.1 : Int) == 1) then (
       (s_l1Below ({ b := a_c.b, i := r9.2.i, h := r9.2.h } : l1Cur) 5).bind fun r16 =>
       (app r6.1.Inputs ([(IntKind.i64.wrap (r16.1 - 1))] : List Int)).bind fun z20 =>
       some (({ Rel := r6.1.Rel, Inputs := z20, Limit := r6.1.Limit, Cost := r6.1.Cost, Quota := r6.1.Quota } : Method), ({ b := a_c.b, i := r16.2.i, h := r16.2.h } : l1Cur)))
     else (
       if ((r9.1 : Int) == 2) then (
         (s_l1PickInt ({ b := a_c.b, i := r9.2.i, h := r9.2.h } : l1Cur) ([0, 99, 100] : List Int)).bind fun r24 =>
         some (({ Rel := r6.1.Rel, Inputs := r6.1.Inputs, Limit := r6.1.Limit, Cost := r6.1.Cost, Quota := r24.1 } : Method), ({ b := a_c.b, i := r24.2.i, h := r24.2.h } : l1Cur)))
       else (
         if ((r9.1 : Int) == 3) then (
           (s_l1PickInt ({ b := a_c.b, i := r9.2.i, h := r9.2.h } : l1Cur) ([(-1), 99, 100] : List Int)).bind fun r28 =>
           some (({ Rel := r6.1.Rel, Inputs := r6.1.Inputs, Limit := r6.1.Limit, Cost := r28.1, Quota := r6.1.Quota } : Method), ({ b := a_c.b, i := r28.2.i, h := r28.2.h } : l1Cur)))
         else (
           some (r6.1, ({ b := a_c.b, i := r9.2.i, h := r9.2.h } : l1Cur)))))))
 else (
   (s_l1Below a_c 10).bind fun r35 =>
   if ((r35.1 : Int) == 0) then (
     (s_l1PickInt ({ b := a_c.b, i := r35.2.i, h := r35.2.h } : l1Cur) ([(-1), 9, 10] : List Int)).bind fun r39 =>
     some (({ Rel := 0, Inputs := [], Limit := r39.1, Cost := 0, Quota := 1 } : Method), ({ b := a_c.b, i := r39.2.i, h := r39.2.h } : l1Cur)))
   else (
     if ((r35.1 : Int) == 1) then (
       (s_l1Below ({ b := a_c.b, i := r35.2.i, h := r35.2.h } : l1Cur) 5).bind fun r42 =>
       (app ([] : List Int) ([(IntKind.i64.wrap (r42.1 - 1))] : List Int)).bind fun z46 =>
       some (({ Rel := 0, Inputs := z46, Limit := 0, Cost := 0, Quota := 1 } : Method), ({ b := a_c.b, i := r42.2.i, h := r42.2.h } : l1Cur)))
     else (
       if ((r35.1 : Int) == 2) then (
         (s_l1PickInt ({ b := a_c.b, i := r35.2.i, h := r35.2.h } : l1Cur) ([0, 99, 100] : List Int)).bind fun r50 =>
         some (({ Rel := 0, Inputs := [], Limit := 0, Cost := 0, Quota := r50.1 } : Method), ({ b := a_c.b, i := r50.2.i, h := r50.2.h } : l1Cur)))
       else (
         if ((r35.1 : Int) == 3) then (
           (s_l1PickInt ({ b := a_c.b, i := r35.2.i, h := r35.2.h } : l1Cur) ([(-1), 99, 100] : List Int)).bind fun r54 =>
           some (({ Rel := 0, Inputs := [], Limit := 0, Cost := r54.1, Quota := 1 } : Method), ({ b := a_c.b, i := r54.2.i, h := r54.2.h } : l1Cur)))
         else (
           some (({ Rel := 0, Inputs := [], Limit := 0, Cost := 0, Quota := 1 } : Method), ({ b := a_c.b, i := r35.2.i, h := r35.2.h } : l1Cur)))))))
theorem s_l5AnyMethod_ok (fuel : Nat) (kq0 : Nat) (a_c : l1Cur) (v0_0 : Sv) (a_s : List Int) (v1_0 : Sv) (R : Method × l1Cur) (hF : s_l5AnyMethod fuel a_c a_s = some R) :
   Fw.Spec Tryz.prog 167 [(pz kq0), v1_0.v] [cbox kq0 116 (.agg [v0_0.v, (.int .i64 a_c.i), (.int .i64 a_c.h)].toArray), crd (RdS 5 rdU8) v0_0.v a_c.b, crd (RdS 3 rdInt) v1_0.v a_s] (fun p : Sv × List Nat => (.agg [(.int .i64 R.1.Rel), p.1.v, (.int .i64 R.1.Limit), (.int .i64 R.1.Cost), (.int .i64 R.1.Quota)].toArray)) (fun p => [cown (OwnS 3 (roE rdInt)) p.2 p.1.v R.1.Inputs, cbox kq0 116 (.agg [v0_0.v, (.int .i64 R.2.i), (.int .i64 R.2.h)].toArray)]) := by
 refine Se 43 Tryz.func167 [.cell 4 97] ?_
 intro H0 F0
 unfold s_l5AnyMethod at hF
 refine au ?_
 refine AnW (fun k1 => ?_)
 iterate 2 refine au ?_
 refine C_val (V_build ty97.h rfl (vs := [(.int .i64 1)]) (.cons (.int _ _) .nil) (cells := [(.int .i64 0), (.slice none 0 0), (.int .i64 0), (.int .i64 0), (.int .i64 1)]) rfl) ?_
 refine AnW (fun k2 => ?_)
 refine As (.agg [(.int .i64 0), (.slice none 0 0), (.int .i64 0), (.int .i64 0), (.int .i64 1)].toArray) ?_
 iterate 4 refine au ?_
 refine bnd hF fun r3 hx4 hF => Cx0 (s_IsSchema_ok _ _ _ hx4) (fun _ => ?_)
 refine au ?_
 refine Ci hF (fun hb61 hF => ?_) (fun hb61 hF => ?_)
 · iterate 3 refine au ?_
   refine bnd hF fun r6 hx7 hF => Cx2 (s_l5Method_ok _ _ _ _ _ _ _ hx7) (fun p8 => ?_)
   refine As (.agg [(.int .i64 r6.1.Rel), p8.1.v, (.int .i64 r6.1.Limit), (.int .i64 r6.1.Cost), (.int .i64 r6.1.Quota)].toArray) ?_
   iterate 4 refine au ?_
   refine bnd hF fun r9 hx10 hF => Cx1 (s_l1Below_ok _ _ _ _ _ hx10) (fun p11 => ?_)
   refine au ?_
   refine CW_block (K_region (C_val (V_eql (i := r9.1) (j := 0) (.tmp rfl rfl) (.int _ _)) ?_))
   iterate 2 refine au ?_
   refine Ci hF (fun hb34 hF => ?_) (fun hb34 hF => ?_)
   · iterate 2 refine au ?_
     refine C_new rfl (N_buildSliceT (g := true) sl24.h ty3.h (.cons (.int _ _) (.cons (.int _ _) (.cons (.int _ _) .nil))) (vs := [(.int .i64 (-1)), (.int .i64 9), (.int .i64 10)]) rfl rfl rfl (by intro v hv; simp at hv; rcases hv with rfl | rfl | rfl <;> rfl)) (fun k12 => ?_)
     refine Cv1 (.cons .h .nil) (own_lit (Ro := (roE rdInt)) (E := 3) (F := ([] ++ ([] ++ ([] ++ [])))) (xs := ([(-1), 9, 10] : List Int)) (MkL_cons (Mk_pure (fun _ => rfl)) (MkL_cons (Mk_pure (fun _ => rfl)) (MkL_cons (Mk_pure (fun _ => rfl)) MkL_nil apps) apps) apps) rfl rfl) ?_
     refine bnd hF fun r13 hx14 hF => C_x2 (.cons .h (.cons .h (.rd (.t (.t (.t .h))) rfl .nil))) (XC_bor frz_own (fun _ => (.cons .nil)) (XC_pre (.cons (.t .h) (.rd (.t .h) rfl (.rd .h rfl .nil))) (X_callS cf76.h (.cons (.tmp rfl rfl) (.cons (.tmp rfl rfl) .nil)) (s_l1PickInt_ok kq0 ({ b := a_c.b, i := r9.2.i, h := r9.2.h } : l1Cur) v0_0 ([(-1), 9, 10] : List Int) (⟨(some ⟨k12, 0, none⟩), 3, 1⟩) _ hx14)))) (fun p15 => ?_)
     refine au ?_
     refine As (.agg [(.int .i64 r6.1.Rel), p8.1.v, (.int .i64 r13.1), (.int .i64 r6.1.Cost), (.int .i64 r6.1.Quota)].toArray) ?_
     iterate 3 refine au ?_
     refine As (.agg [(.int .i64 r6.1.Rel), p8.1.v, (.int .i64 r13.1), (.int .i64 r6.1.Cost), (.int .i64 r6.1.Quota)].toArray) ?_
     iterate 2 refine au ?_
     cases hF
     exact Er (p8.1, p8.2)
   iterate 4 refine au ?_
   refine Ci hF (fun hb33 hF => ?_) (fun hb33 hF => ?_)
   · refine CW_draw [0, 1, 2, 3, 4, 5, 6, 7, 8] [0, 1, 0, 4, 12, 28, 63, 127, 255] [3, 6, 8] mixed (by decide +kernel) ?_
     refine du ?_
     refine D_atO rfl .no (.t .h) (fun ha hp => V_load (v := p8.1.v) ag24.h (EN ha (.tmp rfl rfl) rfl) hp.2 rfl rfl) ?_
     refine du ?_
     refine bnd hF fun r16 hx17 hF => D_act1 rfl rfl .no (.cons .h (.rd (.t (.t (.t .h))) rfl .nil)) (.own .h (fun _ h => h) .nil) (fun ha => X_callS cf75.h (.cons (EN ha (.tmp rfl rfl) rfl) (.cons (EN ha (.int _ _) rfl) .nil)) (s_l1Below_ok kq0 ({ b := a_c.b, i := r9.2.i, h := r9.2.h } : l1Cur) v0_0 5 _ hx17)) (fun p18 => ?_)
     refine du ?_
     refine D_new rfl .no rfl (fun ha => N_buildSliceT (g := true) (len := 1) (parts := [(0, .tmp 26)]) sl24.h ty3.h (.cons (EN ha (.tmp rfl rfl) rfl) .nil) (vs := [(.int .i64 (IntKind.i64.wrap (r16.1 - 1)))]) rfl rfl rfl (by intro v hv; simp at hv; rcases hv with rfl <;> rfl)) (fun k19 => ?_)
     refine Dv1 (.cons .h .nil) (own_lit (Ro := (roE rdInt)) (E := 3) (F := ([] ++ [])) (xs := ([(IntKind.i64.wrap (r16.1 - 1))] : List Int)) (MkL_cons (Mk_pure (fun _ => rfl)) MkL_nil apps) rfl rfl) ?_
     refine bnd hF fun z20 hx21 hF => D_act1 rfl rfl .no (.cons (.t (.t (.t .h))) (.cons .h .nil)) (.dep rfl (.dep rfl .nil)) (fun ha => X_appendO (Ro := (roE rdInt)) sl24.h ni24 ty3.h rfl rfl rfl (EN ha (.tmp rfl rfl) rfl) (EN ha (.tmp rfl rfl) rfl) hx21 src_own) (fun p22 => ?_)
     refine du ?_
     refine D_act1 rfl rfl .no (.cons (.t (.t .h)) .nil) (.dep rfl (.dep rfl .nil)) (fun ha => X_storeB (e' := (.agg [(.int .i64 r6.1.Rel), p22.1.v, (.int .i64 r6.1.Limit), (.int .i64 r6.1.Cost), (.int .i64 r6.1.Quota)].toArray)) ty24.h.sz (EN ha (.tmp rfl rfl) rfl) (EN ha (.tmp rfl rfl) rfl) rfl rfl rfl rfl rfl) (fun _ => ?_)
     refine du ?_
     iterate 2 refine au ?_
     refine As (.agg [(.int .i64 r6.1.Rel), p22.1.v, (.int .i64 r6.1.Limit), (.int .i64 r6.1.Cost), (.int .i64 r6.1.Quota)].toArray) ?_
     iterate 2 refine au ?_
     cases hF
     exact Er (p22.1, p22.2)
   iterate 4 refine au ?_
   refine Ci hF (fun hb32 hF => ?_) (fun hb32 hF => ?_)
   · iterate 2 refine au ?_
     refine C_new rfl (N_buildSliceT (g := true) sl24.h ty3.h (.cons (.int _ _) (.cons (.int _ _) (.cons (.int _ _) .nil))) (vs := [(.int .i64 0), (.int .i64 99), (.int .i64 100)]) rfl rfl rfl (by intro v hv; simp at hv; rcases hv with rfl | rfl | rfl <;> rfl)) (fun k23 => ?_)
     refine Cv1 (.cons .h .nil) (own_lit (Ro := (roE rdInt)) (E := 3) (F := ([] ++ ([] ++ ([] ++ [])))) (xs := ([0, 99, 100] : List Int)) (MkL_cons (Mk_pure (fun _ => rfl)) (MkL_cons (Mk_pure (fun _ => rfl)) (MkL_cons (Mk_pure (fun _ => rfl)) MkL_nil apps) apps) apps) rfl rfl) ?_
     refine bnd hF fun r24 hx25 hF => C_x2 (.cons .h (.cons .h (.rd (.t (.t (.t .h))) rfl .nil))) (XC_bor frz_own (fun _ => (.cons .nil)) (XC_pre (.cons (.t .h) (.rd (.t .h) rfl (.rd .h rfl .nil))) (X_callS cf76.h (.cons (.tmp rfl rfl) (.cons (.tmp rfl rfl) .nil)) (s_l1PickInt_ok kq0 ({ b := a_c.b, i := r9.2.i, h := r9.2.h } : l1Cur) v0_0 ([0, 99, 100] : List Int) (⟨(some ⟨k23, 0, none⟩), 3, 1⟩) _ hx25)))) (fun p26 => ?_)
     refine au ?_
     refine As (.agg [(.int .i64 r6.1.Rel), p8.1.v, (.int .i64 r6.1.Limit), (.int .i64 r6.1.Cost), (.int .i64 r24.1)].toArray) ?_
     iterate 3 refine au ?_
     refine As (.agg [(.int .i64 r6.1.Rel), p8.1.v, (.int .i64 r6.1.Limit), (.int .i64 r6.1.Cost), (.int .i64 r24.1)].toArray) ?_
     iterate 2 refine au ?_
     cases hF
     exact Er (p8.1, p8.2)
   iterate 4 refine au ?_
   refine Ci hF (fun hb31 hF => ?_) (fun hb31 hF => ?_)
   · iterate 2 refine au ?_
     refine C_new rfl (N_buildSliceT (g := true) sl24.h ty3.h (.cons (.int _ _) (.cons (.int _ _) (.cons (.int _ _) .nil))) (vs := [(.int .i64 (-1)), (.int .i64 99), (.int .i64 100)]) rfl rfl rfl (by intro v hv; simp at hv; rcases hv with rfl | rfl | rfl <;> rfl)) (fun k27 => ?_)
     refine Cv1 (.cons .h .nil) (own_lit (Ro := (roE rdInt)) (E := 3) (F := ([] ++ ([] ++ ([] ++ [])))) (xs := ([(-1), 99, 100] : List Int)) (MkL_cons (Mk_pure (fun _ => rfl)) (MkL_cons (Mk_pure (fun _ => rfl)) (MkL_cons (Mk_pure (fun _ => rfl)) MkL_nil apps) apps) apps) rfl rfl) ?_
     refine bnd hF fun r28 hx29 hF => C_x2 (.cons .h (.cons .h (.rd (.t (.t (.t .h))) rfl .nil))) (XC_bor frz_own (fun _ => (.cons .nil)) (XC_pre (.cons (.t .h) (.rd (.t .h) rfl (.rd .h rfl .nil))) (X_callS cf76.h (.cons (.tmp rfl rfl) (.cons (.tmp rfl rfl) .nil)) (s_l1PickInt_ok kq0 ({ b := a_c.b, i := r9.2.i, h := r9.2.h } : l1Cur) v0_0 ([(-1), 99, 100] : List Int) (⟨(some ⟨k27, 0, none⟩), 3, 1⟩) _ hx29)))) (fun p30 => ?_)
     refine au ?_
     refine As (.agg [(.int .i64 r6.1.Rel), p8.1.v, (.int .i64 r6.1.Limit), (.int .i64 r28.1), (.int .i64 r6.1.Quota)].toArray) ?_
     iterate 3 refine au ?_
     refine As (.agg [(.int .i64 r6.1.Rel), p8.1.v, (.int .i64 r6.1.Limit), (.int .i64 r28.1), (.int .i64 r6.1.Quota)].toArray) ?_
     iterate 2 refine au ?_
     cases hF
     exact Er (p8.1, p8.2)
   iterate 3 refine au ?_
   refine As (.agg [(.int .i64 r6.1.Rel), p8.1.v, (.int .i64 r6.1.Limit), (.int .i64 r6.1.Cost), (.int .i64 r6.1.Quota)].toArray) ?_
   iterate 2 refine au ?_
   cases hF
   exact Er (p8.1, p8.2)
 iterate 4 refine au ?_
 refine bnd hF fun r35 hx36 hF => Cx1 (s_l1Below_ok _ _ _ _ _ hx36) (fun p37 => ?_)
 refine au ?_
 refine CW_block (K_region (C_val (V_eql (i := r35.1) (j := 0) (.tmp rfl rfl) (.int _ _)) ?_))
 iterate 2 refine au ?_
 refine Ci hF (fun hb60 hF => ?_) (fun hb60 hF => ?_)
 · iterate 2 refine au ?_
   refine C_new rfl (N_buildSliceT (g := true) sl24.h ty3.h (.cons (.int _ _) (.cons (.int _ _) (.cons (.int _ _) .nil))) (vs := [(.int .i64 (-1)), (.int .i64 9), (.int .i64 10)]) rfl rfl rfl (by intro v hv; simp at hv; rcases hv with rfl | rfl | rfl <;> rfl)) (fun k38 => ?_)
   refine Cv1 (.cons .h .nil) (own_lit (Ro := (roE rdInt)) (E := 3) (F := ([] ++ ([] ++ ([] ++ [])))) (xs := ([(-1), 9, 10] : List Int)) (MkL_cons (Mk_pure (fun _ => rfl)) (MkL_cons (Mk_pure (fun _ => rfl)) (MkL_cons (Mk_pure (fun _ => rfl)) MkL_nil apps) apps) apps) rfl rfl) ?_
   refine bnd hF fun r39 hx40 hF => C_x2 (.cons .h (.cons .h (.rd (.t (.t .h)) rfl .nil))) (XC_bor frz_own (fun _ => (.cons .nil)) (XC_pre (.cons (.t .h) (.rd (.t .h) rfl (.rd .h rfl .nil))) (X_callS cf76.h (.cons (.tmp rfl rfl) (.cons (.tmp rfl rfl) .nil)) (s_l1PickInt_ok kq0 ({ b := a_c.b, i := r35.2.i, h := r35.2.h } : l1Cur) v0_0 ([(-1), 9, 10] : List Int) (⟨(some ⟨k38, 0, none⟩), 3, 1⟩) _ hx40)))) (fun p41 => ?_)
   refine au ?_
   refine As (.agg [(.int .i64 0), (.slice none 0 0), (.int .i64 r39.1), (.int .i64 0), (.int .i64 1)].toArray) ?_
   iterate 3 refine au ?_
   refine As (.agg [(.int .i64 0), (.slice none 0 0), (.int .i64 r39.1), (.int .i64 0), (.int .i64 1)].toArray) ?_
   iterate 2 refine au ?_
   cases hF
   exact End_ret (⟨none, 0, 0⟩, []) (.cellA rfl rfl .h rfl ag97.h ty97.h.sz rfl rfl .nil) rfl (.conv .nil (own_nil (Ro := (roE rdInt)) (E := 3)) (.cons .nil) (.sel (.cons .h (.cons (.t (.t (.t .h))) .nil))))
 iterate 4 refine au ?_
 refine Ci hF (fun hb59 hF => ?_) (fun hb59 hF => ?_)
 · refine CW_draw [0, 1, 2, 3, 4, 5, 6, 7, 8] [0, 1, 0, 4, 12, 28, 63, 127, 255] [3, 6, 8] mixed (by decide +kernel) ?_
   refine du ?_
   refine D_atO rfl .no (.t .h) (fun ha hp => V_load (v := (.slice none 0 0)) ag24.h (EN ha (.tmp rfl rfl) rfl) hp.2 rfl rfl) ?_
   refine du ?_
   refine bnd hF fun r42 hx43 hF => D_act1 rfl rfl .no (.cons .h (.rd (.t (.t .h)) rfl .nil)) (.own .h (fun _ h => h) .nil) (fun ha => X_callS cf75.h (.cons (EN ha (.tmp rfl rfl) rfl) (.cons (EN ha (.int _ _) rfl) .nil)) (s_l1Below_ok kq0 ({ b := a_c.b, i := r35.2.i, h := r35.2.h } : l1Cur) v0_0 5 _ hx43)) (fun p44 => ?_)
   refine du ?_
   refine D_new rfl .no rfl (fun ha => N_buildSliceT (g := true) (len := 1) (parts := [(0, .tmp 26)]) sl24.h ty3.h (.cons (EN ha (.tmp rfl rfl) rfl) .nil) (vs := [(.int .i64 (IntKind.i64.wrap (r42.1 - 1)))]) rfl rfl rfl (by intro v hv; simp at hv; rcases hv with rfl <;> rfl)) (fun k45 => ?_)
   refine Dv1 (.cons .h .nil) (own_lit (Ro := (roE rdInt)) (E := 3) (F := ([] ++ [])) (xs := ([(IntKind.i64.wrap (r42.1 - 1))] : List Int)) (MkL_cons (Mk_pure (fun _ => rfl)) MkL_nil apps) rfl rfl) ?_
   refine Dv1 .nil (own_nil (Ro := (roE rdInt)) (E := 3)) ?_
   refine bnd hF fun z46 hx47 hF => D_act1 rfl rfl .no (.cons .h (.cons .h .nil)) (.dep rfl (.dep rfl .nil)) (fun ha => X_appendO (Ro := (roE rdInt)) sl24.h ni24 ty3.h rfl rfl rfl (EN ha (.tmp rfl rfl) rfl) (EN ha (.tmp rfl rfl) rfl) hx47 src_own) (fun p48 => ?_)
   refine du ?_
   refine D_act1 rfl rfl .no (.cons (.t (.t .h)) .nil) (.dep rfl (.dep rfl .nil)) (fun ha => X_storeB (e' := (.agg [(.int .i64 0), p48.1.v, (.int .i64 0), (.int .i64 0), (.int .i64 1)].toArray)) ty24.h.sz (EN ha (.tmp rfl rfl) rfl) (EN ha (.tmp rfl rfl) rfl) rfl rfl rfl rfl rfl) (fun _ => ?_)
   refine du ?_
   iterate 2 refine au ?_
   refine As (.agg [(.int .i64 0), p48.1.v, (.int .i64 0), (.int .i64 0), (.int .i64 1)].toArray) ?_
   iterate 2 refine au ?_
   cases hF
   exact Er (p48.1, p48.2)
 iterate 4 refine au ?_
 refine Ci hF (fun hb58 hF => ?_) (fun hb58 hF => ?_)
 · iterate 2 refine au ?_
   refine C_new rfl (N_buildSliceT (g := true) sl24.h ty3.h (.cons (.int _ _) (.cons (.int _ _) (.cons (.int _ _) .nil))) (vs := [(.int .i64 0), (.int .i64 99), (.int .i64 100)]) rfl rfl rfl (by intro v hv; simp at hv; rcases hv with rfl | rfl | rfl <;> rfl)) (fun k49 => ?_)
   refine Cv1 (.cons .h .nil) (own_lit (Ro := (roE rdInt)) (E := 3) (F := ([] ++ ([] ++ ([] ++ [])))) (xs := ([0, 99, 100] : List Int)) (MkL_cons (Mk_pure (fun _ => rfl)) (MkL_cons (Mk_pure (fun _ => rfl)) (MkL_cons (Mk_pure (fun _ => rfl)) MkL_nil apps) apps) apps) rfl rfl) ?_
   refine bnd hF fun r50 hx51 hF => C_x2 (.cons .h (.cons .h (.rd (.t (.t .h)) rfl .nil))) (XC_bor frz_own (fun _ => (.cons .nil)) (XC_pre (.cons (.t .h) (.rd (.t .h) rfl (.rd .h rfl .nil))) (X_callS cf76.h (.cons (.tmp rfl rfl) (.cons (.tmp rfl rfl) .nil)) (s_l1PickInt_ok kq0 ({ b := a_c.b, i := r35.2.i, h := r35.2.h } : l1Cur) v0_0 ([0, 99, 100] : List Int) (⟨(some ⟨k49, 0, none⟩), 3, 1⟩) _ hx51)))) (fun p52 => ?_)
   refine au ?_
   refine As (.agg [(.int .i64 0), (.slice none 0 0), (.int .i64 0), (.int .i64 0), (.int .i64 r50.1)].toArray) ?_
   iterate 3 refine au ?_
   refine As (.agg [(.int .i64 0), (.slice none 0 0), (.int .i64 0), (.int .i64 0), (.int .i64 r50.1)].toArray) ?_
   iterate 2 refine au ?_
   cases hF
   exact End_ret (⟨none, 0, 0⟩, []) (.cellA rfl rfl .h rfl ag97.h ty97.h.sz rfl rfl .nil) rfl (.conv .nil (own_nil (Ro := (roE rdInt)) (E := 3)) (.cons .nil) (.sel (.cons .h (.cons (.t (.t (.t .h))) .nil))))
 iterate 4 refine au ?_
 refine Ci hF (fun hb57 hF => ?_) (fun hb57 hF => ?_)
 · iterate 2 refine au ?_
   refine C_new rfl (N_buildSliceT (g := true) sl24.h ty3.h (.cons (.int _ _) (.cons (.int _ _) (.cons (.int _ _) .nil))) (vs := [(.int .i64 (-1)), (.int .i64 99), (.int .i64 100)]) rfl rfl rfl (by intro v hv; simp at hv; rcases hv with rfl | rfl | rfl <;> rfl)) (fun k53 => ?_)
   refine Cv1 (.cons .h .nil) (own_lit (Ro := (roE rdInt)) (E := 3) (F := ([] ++ ([] ++ ([] ++ [])))) (xs := ([(-1), 99, 100] : List Int)) (MkL_cons (Mk_pure (fun _ => rfl)) (MkL_cons (Mk_pure (fun _ => rfl)) (MkL_cons (Mk_pure (fun _ => rfl)) MkL_nil apps) apps) apps) rfl rfl) ?_
   refine bnd hF fun r54 hx55 hF => C_x2 (.cons .h (.cons .h (.rd (.t (.t .h)) rfl .nil))) (XC_bor frz_own (fun _ => (.cons .nil)) (XC_pre (.cons (.t .h) (.rd (.t .h) rfl (.rd .h rfl .nil))) (X_callS cf76.h (.cons (.tmp rfl rfl) (.cons (.tmp rfl rfl) .nil)) (s_l1PickInt_ok kq0 ({ b := a_c.b, i := r35.2.i, h := r35.2.h } : l1Cur) v0_0 ([(-1), 99, 100] : List Int) (⟨(some ⟨k53, 0, none⟩), 3, 1⟩) _ hx55)))) (fun p56 => ?_)
   refine au ?_
   refine As (.agg [(.int .i64 0), (.slice none 0 0), (.int .i64 0), (.int .i64 r54.1), (.int .i64 1)].toArray) ?_
   iterate 3 refine au ?_
   refine As (.agg [(.int .i64 0), (.slice none 0 0), (.int .i64 0), (.int .i64 r54.1), (.int .i64 1)].toArray) ?_
   iterate 2 refine au ?_
   cases hF
   exact End_ret (⟨none, 0, 0⟩, []) (.cellA rfl rfl .h rfl ag97.h ty97.h.sz rfl rfl .nil) rfl (.conv .nil (own_nil (Ro := (roE rdInt)) (E := 3)) (.cons .nil) (.sel (.cons .h (.cons (.t (.t (.t .h))) .nil))))
 iterate 3 refine au ?_
 refine As (.agg [(.int .i64 0), (.slice none 0 0), (.int .i64 0), (.int .i64 0), (.int .i64 1)].toArray) ?_
 iterate 2 refine au ?_
 cases hF
 exact End_ret (⟨none, 0, 0⟩, []) (.cellA rfl rfl .h rfl ag97.h ty97.h.sz rfl rfl .nil) rfl (.conv .nil (own_nil (Ro := (roE rdInt)) (E := 3)) (.cons .nil) (.sel (.cons .h (.cons (.t .h) .nil))))
def s_l2AnyFact (fuel : Nat) (a_c : l1Cur) (a_s : List Int) : Option (Fact × l1Cur) :=
 (s_IsSchema a_s).bind fun r4 =>
 if r4 then (
   (s_l2Fact fuel a_c a_s 10).bind fun r7 =>
   (s_l1Below ({ b := a_c.b, i := r7.2.i, h := r7.2.h } : l1Cur) 8).bind fun r10 =>
   if ((r10.1 : Int) == 0) then (
     (s_l1Below ({ b := a_c.b, i := r10.2.i, h := r10.2.h } : l1Cur) 5).bind fun r13 =>
     some (({ Rel := (IntKind.i64.wrap (r13.1 - 1)), Values := r7.1.Values } : Fact), ({ b := a_c.b, i := r13.2.i, h := r13.2.h } : l1Cur)))
   else (
     if ((r10.1 : Int) == 1) then (
       (s_l1PickInt ({ b := a_c.b, i := r10.2.i, h := r10.2.h } : l1Cur) ([(-1), 9, 10] : List Int)).bind fun r17 =>
       (chk (decide (0 ≤ 0) && decide (0 < (r7.1.Values.length : Int)))).bind fun u23 =>
       (some (r7.1.Values.set (0 : Int).toNat r17.1)).bind fun z25 =>
       some (({ Rel := r7.1.Rel, Values := z25 } : Fact), ({ b := a_c.b, i := r17.2.i, h := r17.2.h } : l1Cur)))
     else (
       if ((r10.1 : Int) == 2) then (
         (app r7.1.Values ([1] : List Int)).bind fun z29 =>
         some (({ Rel := r7.1.Rel, Values := z29 } : Fact), ({ b := a_c.b, i := r10.2.i, h := r10.2.h } : l1Cur)))
       else (
         some (r7.1, ({ b := a_c.b, i := r10.2.i, h := r10.2.h } : l1Cur))))))
 else (
   (s_l1Below a_c 8).bind fun r35 =>
   if ((r35.1 : Int) == 0) then (
     (s_l1Below ({ b := a_c.b, i := r35.2.i, h := r35.2.h } : l1Cur) 5).bind fun r38 =>
     some (({ Rel := (IntKind.i64.wrap (r38.1 - 1)), Values := ([1] : List Int) } : Fact), ({ b := a_c.b, i := r38.2.i, h := r38.2.h } : l1Cur)))
   else (
     if ((r35.1 : Int) == 1) then (
       (s_l1PickInt ({ b := a_c.b, i := r35.2.i, h := r35.2.h } : l1Cur) ([(-1), 9, 10] : List Int)).bind fun r42 =>
       (chk (decide (0 ≤ 0) && decide (0 < (([1] : List Int).length : Int)))).bind fun u48 =>
       (some (([1] : List Int).set (0 : Int).toNat r42.1)).bind fun z50 =>
       some (({ Rel := 0, Values := z50 } : Fact), ({ b := a_c.b, i := r42.2.i, h := r42.2.h } : l1Cur)))
     else (
       if ((r35.1 : Int) == 2) then (
         (app ([1] : List Int) ([1] : List Int)).bind fun z54 =>
         some (({ Rel := 0, Values := z54 } : Fact), ({ b := a_c.b, i := r35.2.i, h := r35.2.h } : l1Cur)))
       else (
         some (({ Rel := 0, Values := ([1] : List Int) } : Fact), ({ b := a_c.b, i := r35.2.i, h := r35.2.h } : l1Cur))))))
theorem s_l2AnyFact_ok (fuel : Nat) (kq0 : Nat) (a_c : l1Cur) (v0_0 : Sv) (a_s : List Int) (v1_0 : Sv) (R : Fact × l1Cur) (hF : s_l2AnyFact fuel a_c a_s = some R) :
   Fw.Spec Tryz.prog 146 [(pz kq0), v1_0.v] [cbox kq0 116 (.agg [v0_0.v, (.int .i64 a_c.i), (.int .i64 a_c.h)].toArray), crd (RdS 5 rdU8) v0_0.v a_c.b, crd (RdS 3 rdInt) v1_0.v a_s] (fun p : Sv × List Nat => (.agg [(.int .i64 R.1.Rel), p.1.v].toArray)) (fun p => [cown (OwnS 3 (roE rdInt)) p.2 p.1.v R.1.Values, cbox kq0 116 (.agg [v0_0.v, (.int .i64 R.2.i), (.int .i64 R.2.h)].toArray)]) := by
 refine Se 37 Tryz.func146 [.cell 4 58] ?_
 intro H0 F0
 unfold s_l2AnyFact at hF
 refine au ?_
 refine AnW (fun k1 => ?_)
 iterate 2 refine au ?_
 refine C_new rfl (N_buildSliceT (g := true) sl24.h ty3.h (.cons (.int _ _) .nil) (vs := [(.int .i64 1)]) rfl rfl rfl (by intro v hv; simp at hv; rcases hv with rfl <;> rfl)) (fun k2 => ?_)
 refine Cv1 (.cons .h .nil) (own_lit (Ro := (roE rdInt)) (E := 3) (F := ([] ++ [])) (xs := ([1] : List Int)) (MkL_cons (Mk_pure (fun _ => rfl)) MkL_nil apps) rfl rfl) ?_
 refine C_val (V_build ty58.h rfl (vs := [(.slice (some ⟨k2, 0, none⟩) 1 1)]) (.cons (.tmp rfl rfl) .nil) (cells := [(.int .i64 0), (.slice (some ⟨k2, 0, none⟩) 1 1)]) rfl) ?_
 refine AnW (fun k3 => ?_)
 refine As (.agg [(.int .i64 0), (.slice (some ⟨k2, 0, none⟩) 1 1)].toArray) ?_
 iterate 4 refine au ?_
 refine bnd hF fun r4 hx5 hF => Cx0 (s_IsSchema_ok _ _ _ hx5) (fun _ => ?_)
 refine au ?_
 refine Ci hF (fun hb60 hF => ?_) (fun hb60 hF => ?_)
 · iterate 3 refine au ?_
   refine bnd hF fun r7 hx8 hF => Cx2 (s_l2Fact_ok _ _ _ _ _ _ _ _ hx8) (fun p9 => ?_)
   refine As (.agg [(.int .i64 r7.1.Rel), p9.1.v].toArray) ?_
   iterate 4 refine au ?_
   refine bnd hF fun r10 hx11 hF => Cx1 (s_l1Below_ok _ _ _ _ _ hx11) (fun p12 => ?_)
   refine au ?_
   refine CW_block (K_region (C_val (V_eql (i := r10.1) (j := 0) (.tmp rfl rfl) (.int _ _)) ?_))
   iterate 2 refine au ?_
   refine Ci hF (fun hb34 hF => ?_) (fun hb34 hF => ?_)
   · iterate 2 refine au ?_
     refine bnd hF fun r13 hx14 hF => Cx1 (s_l1Below_ok _ _ _ _ _ hx14) (fun p15 => ?_)
     iterate 2 refine au ?_
     refine As (.agg [(.int .i64 (IntKind.i64.wrap (r13.1 - 1))), p9.1.v].toArray) ?_
     iterate 3 refine au ?_
     refine As (.agg [(.int .i64 (IntKind.i64.wrap (r13.1 - 1))), p9.1.v].toArray) ?_
     iterate 2 refine au ?_
     cases hF
     exact Er (p9.1, p9.2)
   iterate 4 refine au ?_
   refine Ci hF (fun hb33 hF => ?_) (fun hb33 hF => ?_)
   · refine CW_draw [0, 1, 2, 3, 4, 5, 6] [0, 1, 0, 0, 12, 31, 63] [4, 6] mixed (by decide +kernel) ?_
     refine du ?_
     refine D_atO rfl .no (.t .h) (fun ha hp => V_load (v := p9.1.v) ag24.h (EN ha (.tmp rfl rfl) rfl) hp.2 rfl rfl) ?_
     refine du ?_
     refine D_new rfl .no rfl (fun ha => N_buildSliceT (g := true) (len := 3) (parts := [(0, .const (.int .i64 (-1))), (1, .const (.int .i64 9)), (2, .const (.int .i64 10))]) sl24.h ty3.h (.cons (EN ha (.int _ _) rfl) (.cons (EN ha (.int _ _) rfl) (.cons (EN ha (.int _ _) rfl) .nil))) (vs := [(.int .i64 (-1)), (.int .i64 9), (.int .i64 10)]) rfl rfl rfl (by intro v hv; simp at hv; rcases hv with rfl | rfl | rfl <;> rfl)) (fun k16 => ?_)
     refine Dv1 (.cons .h .nil) (own_lit (Ro := (roE rdInt)) (E := 3) (F := ([] ++ ([] ++ ([] ++ [])))) (xs := ([(-1), 9, 10] : List Int)) (MkL_cons (Mk_pure (fun _ => rfl)) (MkL_cons (Mk_pure (fun _ => rfl)) (MkL_cons (Mk_pure (fun _ => rfl)) MkL_nil apps) apps) apps) rfl rfl) ?_
     refine bnd hF fun r17 hx18 hF => D_act2 rfl rfl .no (.cons .h (.cons .h (.rd (.t (.t (.t (.t .h)))) rfl .nil))) (.dep rfl (.own .h (fun _ h => h) .nil)) (fun ha => XC_bor frz_own (fun _ => (.cons .nil)) (XC_pre (.cons (.t .h) (.rd (.t .h) rfl (.rd .h rfl .nil))) (X_callS cf76.h (.cons (EN ha (.tmp rfl rfl) rfl) (.cons (EN ha (.tmp rfl rfl) rfl) .nil)) (s_l1PickInt_ok kq0 ({ b := a_c.b, i := r10.2.i, h := r10.2.h } : l1Cur) v0_0 ([(-1), 9, 10] : List Int) (⟨(some ⟨k16, 0, none⟩), 3, 1⟩) _ hx18)))) (fun p19 => ?_)
     refine bnd hF fun u23 hx24 hF => ?_
     have hi22 := chk_some hx24
     refine D_idxO sl24.h ty3.h.sz rfl .no (.tmp rfl rfl) (.int _ _) rfl rfl (.t (.t (.t .h))) hi22 (fun k20 hk21 => ?_)
     refine bnd hF fun z25 hx26 hF => ?_
     replace hx26 := Option.some.inj hx26
     refine D_act1 rfl rfl .no (.cons (.t (.t (.t .h))) .nil) (.dep rfl (.dep rfl (.dep rfl .nil))) (fun ha => X_storeO (Ro := (roE rdInt)) (a := r17.1) (i := 0) ty3.h.sz rfl (EN ha (.tmp rfl rfl) rfl) (EN ha (.tmp rfl rfl) rfl) hk21 hi22 (Mk_pure (fun _ => rfl)) (fun _ _ _ _ h => by obtain ⟨-, h⟩ := h; cases h; rfl)) (fun F27 => ?_)
     rw [hx26]
     refine du ?_
     iterate 2 refine au ?_
     refine As (.agg [(.int .i64 r7.1.Rel), p9.1.v].toArray) ?_
     iterate 2 refine au ?_
     cases hF
     exact Er (p9.1, F27)
   iterate 4 refine au ?_
   refine Ci hF (fun hb32 hF => ?_) (fun hb32 hF => ?_)
   · iterate 3 refine au ?_
     refine C_new rfl (N_buildSliceT (g := true) sl24.h ty3.h (.cons (.int _ _) .nil) (vs := [(.int .i64 1)]) rfl rfl rfl (by intro v hv; simp at hv; rcases hv with rfl <;> rfl)) (fun k28 => ?_)
     refine Cv1 (.cons .h .nil) (own_lit (Ro := (roE rdInt)) (E := 3) (F := ([] ++ [])) (xs := ([1] : List Int)) (MkL_cons (Mk_pure (fun _ => rfl)) MkL_nil apps) rfl rfl) ?_
     refine bnd hF fun z29 hx30 hF => C_x1 (.cons (.t (.t (.t .h))) (.cons .h .nil)) (X_appendO (Ro := (roE rdInt)) sl24.h ni24 ty3.h rfl rfl rfl (.tmp rfl rfl) (.tmp rfl rfl) hx30 src_own) (fun p31 => ?_)
     refine au ?_
     refine As (.agg [(.int .i64 r7.1.Rel), p31.1.v].toArray) ?_
     iterate 3 refine au ?_
     refine As (.agg [(.int .i64 r7.1.Rel), p31.1.v].toArray) ?_
     iterate 2 refine au ?_
     cases hF
     exact Er (p31.1, p31.2)
   iterate 3 refine au ?_
   refine As (.agg [(.int .i64 r7.1.Rel), p9.1.v].toArray) ?_
   iterate 2 refine au ?_
   cases hF
   exact Er (p9.1, p9.2)
 iterate 4 refine au ?_
 refine bnd hF fun r35 hx36 hF => Cx1 (s_l1Below_ok _ _ _ _ _ hx36) (fun p37 => ?_)
 refine au ?_
 refine CW_block (K_region (C_val (V_eql (i := r35.1) (j := 0) (.tmp rfl rfl) (.int _ _)) ?_))
 iterate 2 refine au ?_
 refine Ci hF (fun hb59 hF => ?_) (fun hb59 hF => ?_)
 · iterate 2 refine au ?_
   refine bnd hF fun r38 hx39 hF => Cx1 (s_l1Below_ok _ _ _ _ _ hx39) (fun p40 => ?_)
   iterate 2 refine au ?_
   refine As (.agg [(.int .i64 (IntKind.i64.wrap (r38.1 - 1))), (.slice (some ⟨k2, 0, none⟩) 1 1)].toArray) ?_
   iterate 3 refine au ?_
   refine As (.agg [(.int .i64 (IntKind.i64.wrap (r38.1 - 1))), (.slice (some ⟨k2, 0, none⟩) 1 1)].toArray) ?_
   iterate 2 refine au ?_
   cases hF
   exact Er (⟨(some ⟨k2, 0, none⟩), 1, 1⟩, (k2 :: ([] ++ [])))
 iterate 4 refine au ?_
 refine Ci hF (fun hb58 hF => ?_) (fun hb58 hF => ?_)
 · refine CW_draw [0, 1, 2, 3, 4, 5, 6] [0, 1, 0, 0, 12, 31, 63] [4, 6] mixed (by decide +kernel) ?_
   refine du ?_
   refine D_atO rfl .no (.t .h) (fun ha hp => V_load (v := (.slice (some ⟨k2, 0, none⟩) 1 1)) ag24.h (EN ha (.tmp rfl rfl) rfl) hp.2 rfl rfl) ?_
   refine du ?_
   refine D_new rfl .no rfl (fun ha => N_buildSliceT (g := true) (len := 3) (parts := [(0, .const (.int .i64 (-1))), (1, .const (.int .i64 9)), (2, .const (.int .i64 10))]) sl24.h ty3.h (.cons (EN ha (.int _ _) rfl) (.cons (EN ha (.int _ _) rfl) (.cons (EN ha (.int _ _) rfl) .nil))) (vs := [(.int .i64 (-1)), (.int .i64 9), (.int .i64 10)]) rfl rfl rfl (by intro v hv; simp at hv; rcases hv with rfl | rfl | rfl <;> rfl)) (fun k41 => ?_)
   refine Dv1 (.cons .h .nil) (own_lit (Ro := (roE rdInt)) (E := 3) (F := ([] ++ ([] ++ ([] ++ [])))) (xs := ([(-1), 9, 10] : List Int)) (MkL_cons (Mk_pure (fun _ => rfl)) (MkL_cons (Mk_pure (fun _ => rfl)) (MkL_cons (Mk_pure (fun _ => rfl)) MkL_nil apps) apps) apps) rfl rfl) ?_
   refine bnd hF fun r42 hx43 hF => D_act2 rfl rfl .no (.cons .h (.cons .h (.rd (.t (.t (.t .h))) rfl .nil))) (.dep rfl (.own .h (fun _ h => h) .nil)) (fun ha => XC_bor frz_own (fun _ => (.cons .nil)) (XC_pre (.cons (.t .h) (.rd (.t .h) rfl (.rd .h rfl .nil))) (X_callS cf76.h (.cons (EN ha (.tmp rfl rfl) rfl) (.cons (EN ha (.tmp rfl rfl) rfl) .nil)) (s_l1PickInt_ok kq0 ({ b := a_c.b, i := r35.2.i, h := r35.2.h } : l1Cur) v0_0 ([(-1), 9, 10] : List Int) (⟨(some ⟨k41, 0, none⟩), 3, 1⟩) _ hx43)))) (fun p44 => ?_)
   refine bnd hF fun u48 hx49 hF => ?_
   have hi47 := chk_some hx49
   refine D_idxO sl24.h ty3.h.sz rfl .no (.tmp rfl rfl) (.int _ _) rfl rfl (.t (.t (.t .h))) hi47 (fun k45 hk46 => ?_)
   refine bnd hF fun z50 hx51 hF => ?_
   replace hx51 := Option.some.inj hx51
   refine D_act1 rfl rfl .no (.cons (.t (.t (.t .h))) .nil) (.dep rfl (.dep rfl (.dep rfl .nil))) (fun ha => X_storeO (Ro := (roE rdInt)) (a := r42.1) (i := 0) ty3.h.sz rfl (EN ha (.tmp rfl rfl) rfl) (EN ha (.tmp rfl rfl) rfl) hk46 hi47 (Mk_pure (fun _ => rfl)) (fun _ _ _ _ h => by obtain ⟨-, h⟩ := h; cases h; rfl)) (fun F52 => ?_)
   rw [hx51]
   refine du ?_
   iterate 2 refine au ?_
   refine As (.agg [(.int .i64 0), (.slice (some ⟨k2, 0, none⟩) 1 1)].toArray) ?_
   iterate 2 refine au ?_
   cases hF
   exact Er (⟨(some ⟨k2, 0, none⟩), 1, 1⟩, F52)
 iterate 4 refine au ?_
 refine Ci hF (fun hb57 hF => ?_) (fun hb57 hF => ?_)
 · iterate 3 refine au ?_
   refine C_new rfl (N_buildSliceT (g := true) sl24.h ty3.h (.cons (.int _ _) .nil) (vs := [(.int .i64 1)]) rfl rfl rfl (by intro v hv; simp at hv; rcases hv with rfl <;> rfl)) (fun k53 => ?_)
   refine Cv1 (.cons .h .nil) (own_lit (Ro := (roE rdInt)) (E := 3) (F := ([] ++ [])) (xs := ([1] : List Int)) (MkL_cons (Mk_pure (fun _ => rfl)) MkL_nil apps) rfl rfl) ?_
   refine bnd hF fun z54 hx55 hF => C_x1 (.cons (.t (.t (.t .h))) (.cons .h .nil)) (X_appendO (Ro := (roE rdInt)) sl24.h ni24 ty3.h rfl rfl rfl (.tmp rfl rfl) (.tmp rfl rfl) hx55 src_own) (fun p56 => ?_)
   refine au ?_
   refine As (.agg [(.int .i64 0), p56.1.v].toArray) ?_
   iterate 3 refine au ?_
   refine As (.agg [(.int .i64 0), p56.1.v].toArray) ?_
   iterate 2 refine au ?_
   cases hF
   exact Er (p56.1, p56.2)
 iterate 3 refine au ?_
 refine As (.agg [(.int .i64 0), (.slice (some ⟨k2, 0, none⟩) 1 1)].toArray) ?_
 iterate 2 refine au ?_
 cases hF
 exact Er (⟨(some ⟨k2, 0, none⟩), 1, 1⟩, (k2 :: ([] ++ [])))
def s_l2AnyFacts (fuel : Nat) (a_c : l1Cur) (a_s : List Int) : Option ((List Fact) × l1Cur) :=
 (s_IsSchema a_s).bind fun r2 =>
 if r2 then (
   (s_l2Facts fuel a_c a_s 8).bind fun r5 =>
   (s_l1Once ({ b := a_c.b, i := r5.2.i, h := r5.2.h } : l1Cur) 10).bind fun r8 =>
   if r8.1 then (
     (s_l2AnyFact fuel ({ b := a_c.b, i := r8.2.i, h := r8.2.h } : l1Cur) a_s).bind fun r11 =>
     (app r5.1 ([r11.1] : List Fact)).bind fun z15 =>
     some (z15, ({ b := a_c.b, i := r11.2.i, h := r11.2.h } : l1Cur)))
   else (
     some (r5.1, ({ b := a_c.b, i := r8.2.i, h := r8.2.h } : l1Cur))))
 else (
   (s_l1Once a_c 10).bind fun r19 =>
   if r19.1 then (
     (s_l2AnyFact fuel ({ b := a_c.b, i := r19.2.i, h := r19.2.h } : l1Cur) a_s).bind fun r22 =>
     (app ([] : List Fact) ([r22.1] : List Fact)).bind fun z26 =>
     some (z26, ({ b := a_c.b, i := r22.2.i, h := r22.2.h } : l1Cur)))
   else (
     some (([] : List Fact), ({ b := a_c.b, i := r19.2.i, h := r19.2.h } : l1Cur))))
theorem s_l2AnyFacts_ok (fuel : Nat) (kq0 : Nat) (a_c : l1Cur) (v0_0 : Sv) (a_s : List Int) (v1_0 : Sv) (R : (List Fact) × l1Cur) (hF : s_l2AnyFacts fuel a_c a_s = some R) :
   Fw.Spec Tryz.prog 94 [(pz kq0), v1_0.v] [cbox kq0 116 (.agg [v0_0.v, (.int .i64 a_c.i), (.int .i64 a_c.h)].toArray), crd (RdS 5 rdU8) v0_0.v a_c.b, crd (RdS 3 rdInt) v1_0.v a_s] (fun p : Sv × List Nat => p.1.v) (fun p => [cown (OwnS 58 ow58) p.2 p.1.v R.1, cbox kq0 116 (.agg [v0_0.v, (.int .i64 R.2.i), (.int .i64 R.2.h)].toArray)]) := by
 refine Se 21 Tryz.func94 [.tmp 4] ?_
 intro H0 F0
 unfold s_l2AnyFacts at hF
 iterate 4 refine au ?_
 refine C_new rfl (N_buildSliceT (g := true) sl28.h ty58.h .nil (vs := []) rfl rfl rfl (by simp)) (fun k1 => ?_)
 refine Cv1 (.cons .h .nil) (own_lit (Ro := ow58) (E := 58) (F := []) (xs := ([] : List Fact)) MkL_nil rfl rfl) ?_
 iterate 5 refine au ?_
 refine bnd hF fun r2 hx3 hF => Cx0 (s_IsSchema_ok _ _ _ hx3) (fun _ => ?_)
 refine au ?_
 refine Ci hF (fun hb30 hF => ?_) (fun hb30 hF => ?_)
 · iterate 3 refine au ?_
   refine bnd hF fun r5 hx6 hF => Cx2 (s_l2Facts_ok _ _ _ _ _ _ _ _ hx6) (fun p7 => ?_)
   iterate 5 refine au ?_
   refine bnd hF fun r8 hx9 hF => Cx1 (s_l1Once_ok _ _ _ _ _ hx9) (fun p10 => ?_)
   refine au ?_
   refine Ci hF (fun hb18 hF => ?_) (fun hb18 hF => ?_)
   · iterate 4 refine au ?_
     refine bnd hF fun r11 hx12 hF => Cx2 (s_l2AnyFact_ok _ _ _ _ _ _ _ hx12) (fun p13 => ?_)
     refine C_new rfl (N_buildSliceT (g := true) sl28.h ty58.h (.cons (.tmp rfl rfl) .nil) (vs := [(.agg [(.int .i64 r11.1.Rel), p13.1.v].toArray)]) rfl rfl rfl (by intro v hv; simp at hv; rcases hv with rfl <;> rfl)) (fun k14 => ?_)
     refine Cv1 (.cons .h (.cons .h .nil)) (own_lit (Ro := ow58) (E := 58) (F := (p13.2 ++ [])) (xs := ([r11.1] : List Fact)) (MkL_cons mk58 MkL_nil apps) rfl rfl) ?_
     refine bnd hF fun z15 hx16 hF => C_x1 (.cons (.t (.t .h)) (.cons .h .nil)) (X_appendO (Ro := ow58) sl28.h ni28 ty58.h rfl rfl rfl (.tmp rfl rfl) (.tmp rfl rfl) hx16 src_own) (fun p17 => ?_)
     iterate 7 refine au ?_
     cases hF
     exact Er (p17.1, p17.2)
   iterate 6 refine au ?_
   cases hF
   exact Er (p7.1, p7.2)
 iterate 4 refine au ?_
 refine bnd hF fun r19 hx20 hF => Cx1 (s_l1Once_ok _ _ _ _ _ hx20) (fun p21 => ?_)
 refine au ?_
 refine Ci hF (fun hb29 hF => ?_) (fun hb29 hF => ?_)
 · iterate 4 refine au ?_
   refine bnd hF fun r22 hx23 hF => Cx2 (s_l2AnyFact_ok _ _ _ _ _ _ _ hx23) (fun p24 => ?_)
   refine C_new rfl (N_buildSliceT (g := true) sl28.h ty58.h (.cons (.tmp rfl rfl) .nil) (vs := [(.agg [(.int .i64 r22.1.Rel), p24.1.v].toArray)]) rfl rfl rfl (by intro v hv; simp at hv; rcases hv with rfl <;> rfl)) (fun k25 => ?_)
   refine Cv1 (.cons .h (.cons .h .nil)) (own_lit (Ro := ow58) (E := 58) (F := (p24.2 ++ [])) (xs := ([r22.1] : List Fact)) (MkL_cons mk58 MkL_nil apps) rfl rfl) ?_
   refine bnd hF fun z26 hx27 hF => C_x1 (.cons (.t (.t .h)) (.cons .h .nil)) (X_appendO (Ro := ow58) sl28.h ni28 ty58.h rfl rfl rfl (.tmp rfl rfl) (.tmp rfl rfl) hx27 src_own) (fun p28 => ?_)
   iterate 7 refine au ?_
   cases hF
   exact Er (p28.1, p28.2)
 iterate 6 refine au ?_
 cases hF
 exact Er (⟨(some ⟨k1, 0, none⟩), 0, 1⟩, (k1 :: []))
def s_l2AnySchema (a_c : l1Cur) : Option ((List Int) × l1Cur) :=
 (s_l2Schema a_c).bind fun r1 =>
 (s_l1Once ({ b := a_c.b, i := r1.2.i, h := r1.2.h } : l1Cur) 14).bind fun r4 =>
 if r4.1 then (
   (s_l1PickInt ({ b := a_c.b, i := r4.2.i, h := r4.2.h } : l1Cur) ([0, 1, 4] : List Int)).bind fun r8 =>
   (app r1.1 ([r8.1] : List Int)).bind fun z12 =>
   some (z12, ({ b := a_c.b, i := r8.2.i, h := r8.2.h } : l1Cur)))
 else (
   some (r1.1, ({ b := a_c.b, i := r4.2.i, h := r4.2.h } : l1Cur)))
theorem s_l2AnySchema_ok (kq0 : Nat) (a_c : l1Cur) (v0_0 : Sv) (R : (List Int) × l1Cur) (hF : s_l2AnySchema a_c = some R) :
   Fw.Spec Tryz.prog 95 [(pz kq0)] [cbox kq0 116 (.agg [v0_0.v, (.int .i64 a_c.i), (.int .i64 a_c.h)].toArray), crd (RdS 5 rdU8) v0_0.v a_c.b] (fun p : Sv × List Nat => p.1.v) (fun p => [cown (OwnS 3 (roE rdInt)) p.2 p.1.v R.1, cbox kq0 116 (.agg [v0_0.v, (.int .i64 R.2.i), (.int .i64 R.2.h)].toArray)]) := by
 refine Se 15 Tryz.func95 [.tmp 2] ?_
 intro H0 F0
 unfold s_l2AnySchema at hF
 iterate 5 refine au ?_
 refine bnd hF fun r1 hx2 hF => Cx2 (s_l2Schema_ok _ _ _ _ hx2) (fun p3 => ?_)
 iterate 5 refine au ?_
 refine bnd hF fun r4 hx5 hF => Cx1 (s_l1Once_ok _ _ _ _ _ hx5) (fun p6 => ?_)
 refine au ?_
 refine Ci hF (fun hb15 hF => ?_) (fun hb15 hF => ?_)
 · iterate 3 refine au ?_
   refine C_new rfl (N_buildSliceT (g := true) sl24.h ty3.h (.cons (.int _ _) (.cons (.int _ _) (.cons (.int _ _) .nil))) (vs := [(.int .i64 0), (.int .i64 1), (.int .i64 4)]) rfl rfl rfl (by intro v hv; simp at hv; rcases hv with rfl | rfl | rfl <;> rfl)) (fun k7 => ?_)
   refine Cv1 (.cons .h .nil) (own_lit (Ro := (roE rdInt)) (E := 3) (F := ([] ++ ([] ++ ([] ++ [])))) (xs := ([0, 1, 4] : List Int)) (MkL_cons (Mk_pure (fun _ => rfl)) (MkL_cons (Mk_pure (fun _ => rfl)) (MkL_cons (Mk_pure (fun _ => rfl)) MkL_nil apps) apps) apps) rfl rfl) ?_
   refine bnd hF fun r8 hx9 hF => C_x2 (.cons .h (.cons .h (.rd (.t .h) rfl .nil))) (XC_bor frz_own (fun _ => (.cons .nil)) (XC_pre (.cons (.t .h) (.rd (.t .h) rfl (.rd .h rfl .nil))) (X_callS cf76.h (.cons (.tmp rfl rfl) (.cons (.tmp rfl rfl) .nil)) (s_l1PickInt_ok kq0 ({ b := a_c.b, i := r4.2.i, h := r4.2.h } : l1Cur) v0_0 ([0, 1, 4] : List Int) (⟨(some ⟨k7, 0, none⟩), 3, 1⟩) _ hx9)))) (fun p10 => ?_)
   refine C_new rfl (N_buildSliceT (g := true) sl24.h ty3.h (.cons (.tmp rfl rfl) .nil) (vs := [(.int .i64 r8.1)]) rfl rfl rfl (by intro v hv; simp at hv; rcases hv with rfl <;> rfl)) (fun k11 => ?_)
   refine Cv1 (.cons .h .nil) (own_lit (Ro := (roE rdInt)) (E := 3) (F := ([] ++ [])) (xs := ([r8.1] : List Int)) (MkL_cons (Mk_pure (fun _ => rfl)) MkL_nil apps) rfl rfl) ?_
   refine bnd hF fun z12 hx13 hF => C_x1 (.cons (.t (.t (.t .h))) (.cons .h .nil)) (X_appendO (Ro := (roE rdInt)) sl24.h ni24 ty3.h rfl rfl rfl (.tmp rfl rfl) (.tmp rfl rfl) hx13 src_own) (fun p14 => ?_)
   iterate 7 refine au ?_
   cases hF
   exact Er (p14.1, p14.2)
 iterate 6 refine au ?_
 cases hF
 exact Er (p3.1, p3.2)
def s_l5Draw (fuel : Nat) (a_c : l1Cur) : Option ((List Int) × (List Method) × (List Fact) × l1Cur) :=
 (s_l2Schema a_c).bind fun r1 =>
 (s_l5Methods fuel ({ b := a_c.b, i := r1.2.i, h := r1.2.h } : l1Cur) r1.1).bind fun r4 =>
 (s_l2Facts fuel ({ b := a_c.b, i := r4.2.i, h := r4.2.h } : l1Cur) r1.1 8).bind fun r7 =>
 (s_l1Below ({ b := a_c.b, i := r7.2.i, h := r7.2.h } : l1Cur) 20).bind fun r10 =>
 if ((r10.1 : Int) == 0) then (
   (s_l5AnyMethod fuel ({ b := a_c.b, i := r10.2.i, h := r10.2.h } : l1Cur) r1.1).bind fun r13 =>
   (app r4.1 ([r13.1] : List Method)).bind fun z17 =>
   some (r1.1, z17, r7.1, ({ b := a_c.b, i := r13.2.i, h := r13.2.h } : l1Cur)))
 else (
   if ((r10.1 : Int) == 1) then (
     (s_l2AnyFacts fuel ({ b := a_c.b, i := r10.2.i, h := r10.2.h } : l1Cur) r1.1).bind fun r20 =>
     some (r1.1, r4.1, r20.1, ({ b := a_c.b, i := r20.2.i, h := r20.2.h } : l1Cur)))
   else (
     if ((r10.1 : Int) == 2) then (
       (s_l2AnySchema ({ b := a_c.b, i := r10.2.i, h := r10.2.h } : l1Cur)).bind fun r23 =>
       some (r23.1, r4.1, r7.1, ({ b := a_c.b, i := r23.2.i, h := r23.2.h } : l1Cur)))
     else (
       some (r1.1, r4.1, r7.1, ({ b := a_c.b, i := r10.2.i, h := r10.2.h } : l1Cur)))))
theorem s_l5Draw_ok (fuel : Nat) (kq0 : Nat) (a_c : l1Cur) (v0_0 : Sv) (R : (List Int) × (List Method) × (List Fact) × l1Cur) (hF : s_l5Draw fuel a_c = some R) :
   Fw.Spec Tryz.prog 118 [(pz kq0)] [cbox kq0 116 (.agg [v0_0.v, (.int .i64 a_c.i), (.int .i64 a_c.h)].toArray), crd (RdS 5 rdU8) v0_0.v a_c.b] (fun p : Sv × List Nat × Sv × List Nat × Sv × List Nat => (.tuple [p.1.v, p.2.2.1.v, p.2.2.2.2.1.v].toArray)) (fun p => [cown (OwnS 3 (roE rdInt)) p.2.1 p.1.v R.1, cown (OwnS 97 ow97) p.2.2.2.1 p.2.2.1.v R.2.1, cown (OwnS 58 ow58) p.2.2.2.2.2 p.2.2.2.2.1.v R.2.2.1, cbox kq0 116 (.agg [v0_0.v, (.int .i64 R.2.2.2.i), (.int .i64 R.2.2.2.h)].toArray)]) := by
 refine Se 38 Tryz.func118 [.tmp 2, .tmp 3, .tmp 4] ?_
 intro H0 F0
 unfold s_l5Draw at hF
 iterate 7 refine au ?_
 refine bnd hF fun r1 hx2 hF => Cx2 (s_l2Schema_ok _ _ _ _ hx2) (fun p3 => ?_)
 iterate 5 refine au ?_
 refine bnd hF fun r4 hx5 hF => C_x3 (.cons .h (.cons .h (.rd .h rfl .nil))) (XC_bor frz_own (fun _ => (.cons (.cons .nil))) (XC_pre (.cons (.t .h) (.rd (.t .h) rfl (.rd .h rfl .nil))) (X_callS cf166.h (.cons (.tmp rfl rfl) (.cons (.tmp rfl rfl) .nil)) (s_l5Methods_ok fuel kq0 ({ b := a_c.b, i := r1.2.i, h := r1.2.h } : l1Cur) v0_0 r1.1 p3.1 _ hx5)))) (fun p6 => ?_)
 iterate 5 refine au ?_
 refine bnd hF fun r7 hx8 hF => C_x3 (.cons .h (.cons (.t .h) (.rd (.t .h) rfl .nil))) (XC_bor frz_own (fun _ => (.cons (.cons .nil))) (XC_pre (.cons (.t .h) (.rd (.t .h) rfl (.rd .h rfl .nil))) (X_callS cf92.h (.cons (.tmp rfl rfl) (.cons (.tmp rfl rfl) (.cons (.int _ _) .nil))) (s_l2Facts_ok fuel kq0 ({ b := a_c.b, i := r4.2.i, h := r4.2.h } : l1Cur) v0_0 r1.1 p3.1 8 _ hx8)))) (fun p9 => ?_)
 iterate 5 refine au ?_
 refine bnd hF fun r10 hx11 hF => Cx1 (s_l1Below_ok _ _ _ _ _ hx11) (fun p12 => ?_)
 refine au ?_
 refine CW_block (K_region (C_val (V_eql (i := r10.1) (j := 0) (.tmp rfl rfl) (.int _ _)) ?_))
 iterate 2 refine au ?_
 refine Ci hF (fun hb28 hF => ?_) (fun hb28 hF => ?_)
 · iterate 4 refine au ?_
   refine bnd hF fun r13 hx14 hF => C_x3 (.cons (.t .h) (.cons .h (.rd (.t (.t .h)) rfl .nil))) (XC_bor frz_own (fun _ => (.cons (.cons .nil))) (XC_pre (.cons (.t .h) (.rd (.t .h) rfl (.rd .h rfl .nil))) (X_callS cf167.h (.cons (.tmp rfl rfl) (.cons (.tmp rfl rfl) .nil)) (s_l5AnyMethod_ok fuel kq0 ({ b := a_c.b, i := r10.2.i, h := r10.2.h } : l1Cur) v0_0 r1.1 p3.1 _ hx14)))) (fun p15 => ?_)
   refine C_new rfl (N_buildSliceT (g := true) sl41.h ty97.h (.cons (.tmp rfl rfl) .nil) (vs := [(.agg [(.int .i64 r13.1.Rel), p15.1.v, (.int .i64 r13.1.Limit), (.int .i64 r13.1.Cost), (.int .i64 r13.1.Quota)].toArray)]) rfl rfl rfl (by intro v hv; simp at hv; rcases hv with rfl <;> rfl)) (fun k16 => ?_)
   refine Cv1 (.cons .h (.cons (.t .h) .nil)) (own_lit (Ro := ow97) (E := 97) (F := (p15.2 ++ [])) (xs := ([r13.1] : List Method)) (MkL_cons mk97 MkL_nil apps) rfl rfl) ?_
   refine bnd hF fun z17 hx18 hF => C_x1 (.cons (.t (.t (.t (.t .h)))) (.cons .h .nil)) (X_appendO (Ro := ow97) sl41.h ni41 ty97.h rfl rfl rfl (.tmp rfl rfl) (.tmp rfl rfl) hx18 src_own) (fun p19 => ?_)
   iterate 11 refine au ?_
   cases hF
   exact Er (p3.1, p3.2, p19.1, p19.2, p9.1, p9.2)
 iterate 4 refine au ?_
 refine Ci hF (fun hb27 hF => ?_) (fun hb27 hF => ?_)
 · iterate 3 refine au ?_
   refine bnd hF fun r20 hx21 hF => C_x3 (.cons (.t .h) (.cons .h (.rd (.t (.t .h)) rfl .nil))) (XC_bor frz_own (fun _ => (.cons (.cons .nil))) (XC_pre (.cons (.t .h) (.rd (.t .h) rfl (.rd .h rfl .nil))) (X_callS cf94.h (.cons (.tmp rfl rfl) (.cons (.tmp rfl rfl) .nil)) (s_l2AnyFacts_ok fuel kq0 ({ b := a_c.b, i := r10.2.i, h := r10.2.h } : l1Cur) v0_0 r1.1 p3.1 _ hx21)))) (fun p22 => ?_)
   iterate 11 refine au ?_
   cases hF
   exact Er (p3.1, p3.2, p6.1, p6.2, p22.1, p22.2)
 iterate 4 refine au ?_
 refine Ci hF (fun hb26 hF => ?_) (fun hb26 hF => ?_)
 · iterate 2 refine au ?_
   refine bnd hF fun r23 hx24 hF => Cx2 (s_l2AnySchema_ok _ _ _ _ hx24) (fun p25 => ?_)
   iterate 11 refine au ?_
   cases hF
   exact Er (p25.1, p25.2, p6.1, p6.2, p9.1, p9.2)
 iterate 10 refine au ?_
 cases hF
 exact Er (p3.1, p3.2, p6.1, p6.2, p9.1, p9.2)
def s_l8Seeds_L1 (a_c : l1Cur) : Nat → Int → Int → (List Int) → Int → Option ((List Int) × l1Cur)
 | 0, _, _, _, _ => none
 | m30 + 1, c24, c25, c26, c29 => if (decide ((0 : Int) < c29)) then (
     (s_l1Below ({ b := a_c.b, i := c24, h := c25 } : l1Cur) 4).bind fun r38 =>
     (app c26 ([r38.1] : List Int)).bind fun z42 =>
     s_l8Seeds_L1 a_c m30 r38.2.i r38.2.h z42 (IntKind.i64.wrap (c29 - 1)))
   else (
     (s_l1Once ({ b := a_c.b, i := c24, h := c25 } : l1Cur) 14).bind fun r45 =>
     if r45.1 then (
       (s_l1PickInt ({ b := a_c.b, i := r45.2.i, h := r45.2.h } : l1Cur) ([(-1), 9, 10] : List Int)).bind fun r49 =>
       (app c26 ([r49.1] : List Int)).bind fun z53 =>
       some (z53, ({ b := a_c.b, i := r49.2.i, h := r49.2.h } : l1Cur)))
     else (
       some (c26, ({ b := a_c.b, i := r45.2.i, h := r45.2.h } : l1Cur))))
def s_l8Seeds (a_c : l1Cur) : Option ((List Int) × l1Cur) :=
 (s_l1Below a_c 3).bind fun r2 =>
 s_l8Seeds_L1 a_c ((r2.1 - 0).toNat + 2) r2.2.i r2.2.h ([] : List Int) r2.1
theorem s_l8Seeds_ok (kq0 : Nat) (a_c : l1Cur) (v0_0 : Sv) (R : (List Int) × l1Cur) (hF : s_l8Seeds a_c = some R) :
   Fw.Spec Tryz.prog 83 [(pz kq0)] [cbox kq0 116 (.agg [v0_0.v, (.int .i64 a_c.i), (.int .i64 a_c.h)].toArray), crd (RdS 5 rdU8) v0_0.v a_c.b] (fun p : Sv × List Nat => p.1.v) (fun p => [cown (OwnS 3 (roE rdInt)) p.2 p.1.v R.1, cbox kq0 116 (.agg [v0_0.v, (.int .i64 R.2.i), (.int .i64 R.2.h)].toArray)]) := by
 refine Se 26 Tryz.func83 [.tmp 2] ?_
 intro H0 F0
 unfold s_l8Seeds at hF
 iterate 4 refine au ?_
 refine C_new rfl (N_buildSliceT (g := true) sl24.h ty3.h .nil (vs := []) rfl rfl rfl (by simp)) (fun k1 => ?_)
 refine Cv1 (.cons .h .nil) (own_lit (Ro := (roE rdInt)) (E := 3) (F := []) (xs := ([] : List Int)) MkL_nil rfl rfl) ?_
 iterate 5 refine au ?_
 refine bnd hF fun r2 hx3 hF => Cx1 (s_l1Below_ok _ _ _ _ _ hx3) (fun p4 => ?_)
 iterate 2 refine au ?_
 refine CW_block (CW_loop (m := ((r2.1 - 0).toNat + 2)) (fun m30 f' cs' => ∃ (g : Fr) (c24 : Int) (c25 : Int) (c26 : List Int) (c29 : Int) (v27 : Sv) (F28 : List Nat), f' = updL g [(0, (pz kq0)), (3, v27.v), (4, (.int .i64 c29))] ∧ Ent cs' [cbox kq0 116 (.agg [v0_0.v, (.int .i64 c24), (.int .i64 c25)].toArray), crd (RdS 5 rdU8) v0_0.v a_c.b, cown (OwnS 3 (roE rdInt)) F28 v27.v c26] ∧ s_l8Seeds_L1 a_c m30 c24 c25 c26 c29 = some R) ⟨_, _, _, _, _, ⟨(some ⟨k1, 0, none⟩), 0, 1⟩, (k1 :: []), eqA, entA, hF⟩ ?_)
 rintro m30 _ _ ⟨g31, c24, c25, c26, c29, v27, F28, rfl, hE, hF⟩
 refine K_ent hE ?_
 rcases m30 with _ | m30
 · rw [s_l8Seeds_L1] at hF
   exact absurd hF (by simp)
 rw [s_l8Seeds_L1] at hF
 iterate 5 refine au ?_
 refine Ci hF (fun hb57 hF => ?_) (fun hb57 hF => ?_)
 · iterate 5 refine au ?_
   refine bnd hF fun r38 hx39 hF => Cx1 (s_l1Below_ok _ _ _ _ _ hx39) (fun p40 => ?_)
   refine C_new rfl (N_buildSliceT (g := true) sl24.h ty3.h (.cons (.tmp rfl rfl) .nil) (vs := [(.int .i64 r38.1)]) rfl rfl rfl (by intro v hv; simp at hv; rcases hv with rfl <;> rfl)) (fun k41 => ?_)
   refine Cv1 (.cons .h .nil) (own_lit (Ro := (roE rdInt)) (E := 3) (F := ([] ++ [])) (xs := ([r38.1] : List Int)) (MkL_cons (Mk_pure (fun _ => rfl)) MkL_nil apps) rfl rfl) ?_
   refine bnd hF fun z42 hx43 hF => C_x1 (.cons (.t (.t (.t .h))) (.cons .h .nil)) (X_appendO (Ro := (roE rdInt)) sl24.h ni24 ty3.h rfl rfl rfl (.tmp rfl rfl) (.tmp rfl rfl) hx43 src_own) (fun p44 => ?_)
   iterate 7 refine au ?_
   exact ⟨m30, Nat.lt_succ_self _, _, _, _, _, _, p44.1, p44.2, eqA, entA, hF⟩
 iterate 7 refine au ?_
 refine bnd hF fun r45 hx46 hF => Cx1 (s_l1Once_ok _ _ _ _ _ hx46) (fun p47 => ?_)
 refine au ?_
 refine Ci hF (fun hb56 hF => ?_) (fun hb56 hF => ?_)
 · iterate 3 refine au ?_
   refine C_new rfl (N_buildSliceT (g := true) sl24.h ty3.h (.cons (.int _ _) (.cons (.int _ _) (.cons (.int _ _) .nil))) (vs := [(.int .i64 (-1)), (.int .i64 9), (.int .i64 10)]) rfl rfl rfl (by intro v hv; simp at hv; rcases hv with rfl | rfl | rfl <;> rfl)) (fun k48 => ?_)
   refine Cv1 (.cons .h .nil) (own_lit (Ro := (roE rdInt)) (E := 3) (F := ([] ++ ([] ++ ([] ++ [])))) (xs := ([(-1), 9, 10] : List Int)) (MkL_cons (Mk_pure (fun _ => rfl)) (MkL_cons (Mk_pure (fun _ => rfl)) (MkL_cons (Mk_pure (fun _ => rfl)) MkL_nil apps) apps) apps) rfl rfl) ?_
   refine bnd hF fun r49 hx50 hF => C_x2 (.cons .h (.cons .h (.rd .h rfl .nil))) (XC_bor frz_own (fun _ => (.cons .nil)) (XC_pre (.cons (.t .h) (.rd (.t .h) rfl (.rd .h rfl .nil))) (X_callS cf76.h (.cons (.tmp rfl rfl) (.cons (.tmp rfl rfl) .nil)) (s_l1PickInt_ok kq0 ({ b := a_c.b, i := r45.2.i, h := r45.2.h } : l1Cur) v0_0 ([(-1), 9, 10] : List Int) (⟨(some ⟨k48, 0, none⟩), 3, 1⟩) _ hx50)))) (fun p51 => ?_)
   refine C_new rfl (N_buildSliceT (g := true) sl24.h ty3.h (.cons (.tmp rfl rfl) .nil) (vs := [(.int .i64 r49.1)]) rfl rfl rfl (by intro v hv; simp at hv; rcases hv with rfl <;> rfl)) (fun k52 => ?_)
   refine Cv1 (.cons .h .nil) (own_lit (Ro := (roE rdInt)) (E := 3) (F := ([] ++ [])) (xs := ([r49.1] : List Int)) (MkL_cons (Mk_pure (fun _ => rfl)) MkL_nil apps) rfl rfl) ?_
   refine bnd hF fun z53 hx54 hF => C_x1 (.cons (.t (.t (.t (.t .h)))) (.cons .h .nil)) (X_appendO (Ro := (roE rdInt)) sl24.h ni24 ty3.h rfl rfl rfl (.tmp rfl rfl) (.tmp rfl rfl) hx54 src_own) (fun p55 => ?_)
   iterate 7 refine au ?_
   cases hF
   exact Er (p55.1, p55.2)
 iterate 6 refine au ?_
 cases hF
 exact Er (v27, F28)
def s_l8Draw (fuel : Nat) (a_c : l1Cur) : Option ((List Int) × (List Method) × (List Fact) × (List Int) × l1Cur) :=
 (s_l5Draw fuel a_c).bind fun r1 =>
 (s_l8Seeds ({ b := a_c.b, i := r1.2.2.2.i, h := r1.2.2.2.h } : l1Cur)).bind fun r4 =>
 some (r1.1, r1.2.1, r1.2.2.1, r4.1, ({ b := a_c.b, i := r4.2.i, h := r4.2.h } : l1Cur))
theorem s_l8Draw_ok (fuel : Nat) (kq0 : Nat) (a_c : l1Cur) (v0_0 : Sv) (R : (List Int) × (List Method) × (List Fact) × (List Int) × l1Cur) (hF : s_l8Draw fuel a_c = some R) :
   Fw.Spec Tryz.prog 63 [(pz kq0)] [cbox kq0 116 (.agg [v0_0.v, (.int .i64 a_c.i), (.int .i64 a_c.h)].toArray), crd (RdS 5 rdU8) v0_0.v a_c.b] (fun p : Sv × List Nat × Sv × List Nat × Sv × List Nat × Sv × List Nat => (.tuple [p.1.v, p.2.2.1.v, p.2.2.2.2.1.v, p.2.2.2.2.2.2.1.v].toArray)) (fun p => [cown (OwnS 3 (roE rdInt)) p.2.1 p.1.v R.1, cown (OwnS 97 ow97) p.2.2.2.1 p.2.2.1.v R.2.1, cown (OwnS 58 ow58) p.2.2.2.2.2.1 p.2.2.2.2.1.v R.2.2.1, cown (OwnS 3 (roE rdInt)) p.2.2.2.2.2.2.2 p.2.2.2.2.2.2.1.v R.2.2.2.1, cbox kq0 116 (.agg [v0_0.v, (.int .i64 R.2.2.2.2.i), (.int .i64 R.2.2.2.2.h)].toArray)]) := by
 refine Se 20 Tryz.func63 [.tmp 2, .tmp 3, .tmp 4, .tmp 5] ?_
 intro H0 F0
 unfold s_l8Draw at hF
 iterate 8 refine au ?_
 refine bnd hF fun r1 hx2 hF => Cx4 (s_l5Draw_ok _ _ _ _ _ hx2) (fun p3 => ?_)
 refine au ?_
 refine C_val (V_extract (l := [p3.1.v, p3.2.2.1.v, p3.2.2.2.2.1.v]) (v := p3.1.v) (.tmp rfl rfl) rfl) ?_
 refine C_val (V_extract (l := [p3.1.v, p3.2.2.1.v, p3.2.2.2.2.1.v]) (v := p3.2.2.1.v) (.tmp rfl rfl) rfl) ?_
 refine C_val (V_extract (l := [p3.1.v, p3.2.2.1.v, p3.2.2.2.2.1.v]) (v := p3.2.2.2.2.1.v) (.tmp rfl rfl) rfl) ?_
 iterate 9 refine au ?_
 refine bnd hF fun r4 hx5 hF => Cx2 (s_l8Seeds_ok _ _ _ _ hx5) (fun p6 => ?_)
 iterate 6 refine au ?_
 cases hF
 exact Er (p3.1, p3.2.1, p3.2.2.1, p3.2.2.2.1, p3.2.2.2.2.1, p3.2.2.2.2.2, p6.1, p6.2)
def s_DrawReachAll (fuel : Nat) (a_code : List UInt8) : Option ((List Int) × (List Method) × (List Fact) × (List Int)) :=
 (s_l1New a_code).bind fun r1 =>
 (s_l8Draw fuel r1).bind fun r4 =>
 some (r4.1, r4.2.1, r4.2.2.1, r4.2.2.2.1)
theorem s_DrawReachAll_ok (fuel : Nat) (a_code : List UInt8) (v0_0 : Sv) (R : (List Int) × (List Method) × (List Fact) × (List Int)) (hF : s_DrawReachAll fuel a_code = some R) :
   Fw.Spec Tryz.prog 19 [v0_0.v] [crd (RdS 5 rdU8) v0_0.v a_code] (fun p : Sv × List Nat × Sv × List Nat × Sv × List Nat × Sv × List Nat => (.tuple [p.1.v, p.2.2.1.v, p.2.2.2.2.1.v, p.2.2.2.2.2.2.1.v].toArray)) (fun p => [cown (OwnS 3 (roE rdInt)) p.2.1 p.1.v R.1, cown (OwnS 97 ow97) p.2.2.2.1 p.2.2.1.v R.2.1, cown (OwnS 58 ow58) p.2.2.2.2.2.1 p.2.2.2.2.1.v R.2.2.1, cown (OwnS 3 (roE rdInt)) p.2.2.2.2.2.2.2 p.2.2.2.2.2.2.1.v R.2.2.2]) := by
 refine Se 22 Tryz.func19 [.tmp 2, .tmp 3, .tmp 4, .tmp 5] ?_
 intro H0 F0
 unfold s_DrawReachAll at hF
 iterate 8 refine au ?_
 refine bnd hF fun r1 hx2 hF => Cx2 (s_l1New_ok _ _ _ hx2) (fun p3 => ?_)
 refine bnd hF fun r4 hx5 hF => Cx5 (s_l8Draw_ok _ _ _ _ _ hx5) (fun p6 => ?_)
 refine au ?_
 refine C_val (V_extract (l := [p6.1.v, p6.2.2.1.v, p6.2.2.2.2.1.v, p6.2.2.2.2.2.2.1.v]) (v := p6.1.v) (.tmp rfl rfl) rfl) ?_
 refine C_val (V_extract (l := [p6.1.v, p6.2.2.1.v, p6.2.2.2.2.1.v, p6.2.2.2.2.2.2.1.v]) (v := p6.2.2.1.v) (.tmp rfl rfl) rfl) ?_
 refine C_val (V_extract (l := [p6.1.v, p6.2.2.1.v, p6.2.2.2.2.1.v, p6.2.2.2.2.2.2.1.v]) (v := p6.2.2.2.2.1.v) (.tmp rfl rfl) rfl) ?_
 refine C_val (V_extract (l := [p6.1.v, p6.2.2.1.v, p6.2.2.2.2.1.v, p6.2.2.2.2.2.2.1.v]) (v := p6.2.2.2.2.2.2.1.v) (.tmp rfl rfl) rfl) ?_
 iterate 16 refine au ?_
 cases hF
 exact Er (p6.1, p6.2.1, p6.2.2.1, p6.2.2.2.1, p6.2.2.2.2.1, p6.2.2.2.2.2.1, p6.2.2.2.2.2.2.1, p6.2.2.2.2.2.2.2)
def i_within (a_n : Int) (a_low : Int) (a_high : Int) : Option (Bool) :=
 some ((decide ((a_low : Int) ≤ a_n)) && (decide ((a_n : Int) ≤ a_high)))
theorem i_within_ok (a_n : Int) (a_low : Int) (a_high : Int) (R : Bool) (hF : i_within a_n a_low a_high = some R) :
   Fw.Spec Tryz.prog 78 [(.int .i64 a_n), (.int .i64 a_low), (.int .i64 a_high)] [] (fun _ : Unit => (.bool R)) (fun _ => []) := by
 refine Se 15 Tryz.func78 [.tmp 6] ?_
 intro H0 F0
 unfold i_within at hF
 iterate 4 refine au ?_
 refine C_cut (fun f' cs' => ∃ (g : Fr), f' = updL g [(6, (.bool ((decide ((a_low : Int) ≤ a_n)) && (decide ((a_n : Int) ≤ a_high)))))] ∧ Ent cs' []) ?_ ?_
 · iterate 4 refine au ?_
   rcases Bool.eq_false_or_eq_true (decide ((a_low : Int) ≤ a_n)) with hg1 | hg1
   · rw [hg1]
     try rw [hg1] at hF; dsimp only [cond_true, cond_false] at hF
     iterate 9 refine au ?_
     exact ⟨_, eqA, entA⟩
   rw [hg1]
   try rw [hg1] at hF; dsimp only [cond_true, cond_false] at hF
   iterate 6 refine au ?_
   exact ⟨_, eqA, entA⟩
 rintro _ _ ⟨g2, rfl, hE⟩
 refine K_ent hE ?_
 refine au ?_
 cases hF
 exact Er ()
def i_IsSchema_1 (a_n : Int) : Option (Bool) :=
 (i_within a_n 1 3).bind fun r1 =>
 some (!r1)
theorem i_IsSchema_1_ok (a_n : Int) (R : Bool) (hF : i_IsSchema_1 a_n = some R) :
   Fw.Spec Tryz.prog 156 [(.int .i64 a_n)] [] (fun _ : Unit => (.bool R)) (fun _ => []) := by
 refine Se 6 Tryz.func156 [.tmp 2] ?_
 intro H0 F0
 unfold i_IsSchema_1 at hF
 iterate 5 refine au ?_
 refine bnd hF fun r1 hx2 hF => Cx0 (i_within_ok _ _ _ _ hx2) (fun _ => ?_)
 iterate 4 refine au ?_
 cases hF
 exact Er ()
def g_slices_IndexFunc_int_int_iIsSchema1_L1 : List Int → Nat → Option (Int)
 | [], k4 => some (-1)
 | x6 :: rest5, k4 => (i_IsSchema_1 x6).bind fun r15 =>
   if r15 then (
     some (k4 : Int))
   else (
     g_slices_IndexFunc_int_int_iIsSchema1_L1 rest5 (k4 + 1))
def g_slices_IndexFunc_int_int_iIsSchema1 (a_s : List Int) : Option (Int) :=
 g_slices_IndexFunc_int_int_iIsSchema1_L1 a_s 0
theorem g_slices_IndexFunc_int_int_iIsSchema1_ok (a_s : List Int) (v0_0 : Sv) (R : Int) (hF : g_slices_IndexFunc_int_int_iIsSchema1 a_s = some R) :
   Fw.Spec Tryz.prog 185 [v0_0.v, (.func (.func 156) [].toArray [].toArray)] [crd (RdS 3 rdInt) v0_0.v a_s] (fun _ : Unit => (.int .i64 R)) (fun _ => []) := by
 refine Se 19 Tryz.func185 [.tmp 4] ?_
 intro H0 F0
 unfold g_slices_IndexFunc_int_int_iIsSchema1 at hF
 iterate 9 refine au ?_
 refine CW_block (CW_loop (m := a_s.length) (fun m2 f' cs' => ∃ (g : Fr) (k4 : Nat) (rest5 : List Int), m2 = rest5.length ∧ f' = updL g [(0, v0_0.v), (1, (.func (.func 156) [].toArray [].toArray)), (7, (.int .i64 (a_s.length : Int))), (8, (.int .i64 (k4 : Int)))] ∧ List.drop k4 a_s = rest5 ∧ Ent cs' [crd (RdS 3 rdInt) v0_0.v a_s] ∧ g_slices_IndexFunc_int_int_iIsSchema1_L1 rest5 k4 = some R) ⟨_, 0, _, rfl, eqA, rfl, entA, hF⟩ ?_)
 rintro m2 _ _ ⟨g3, k4, rest5, rfl, rfl, hd7, hE, hF⟩
 refine Kb hE a_s (fun hbd12 => ?_)
 rcases rest5 with _ | ⟨x6, rest5⟩
 · have hk8 := dn hd7
   rw [g_slices_IndexFunc_int_int_iIsSchema1_L1] at hF
   iterate 4 refine au ?_
   refine CdF ?_
   iterate 8 refine au ?_
   cases hF
   exact Er ()
 obtain ⟨hk8, hx9, hd10⟩ := drop_cons hd7
 rw [g_slices_IndexFunc_int_int_iIsSchema1_L1] at hF
 iterate 4 refine au ?_
 refine CdT ?_
 iterate 10 refine au ?_
 refine Ai hx9 (fun k13 j14 => ?_)
 refine Al ls3_0 ?_
 refine bnd hF fun r15 hx16 hF => C_x0 .nil (X_callCS cf156.h (.tmp rfl rfl) (.cons (.tmp rfl rfl) .nil) (i_IsSchema_1_ok x6 _ hx16)) (fun _ => ?_)
 refine au ?_
 refine Ci hF (fun hb19 hF => ?_) (fun hb19 hF => ?_)
 · iterate 5 refine au ?_
   cases hF
   exact Er ()
 iterate 5 refine au ?_
 rw [wk k4]
 exact ⟨_, Nat.lt_succ_self _, _, k4 + 1, rest5, rfl, eqA, hd10, entA, hF⟩
def g_slices_ContainsFunc_int_int_iIsSchema1 (a_s : List Int) : Option (Bool) :=
 (g_slices_IndexFunc_int_int_iIsSchema1 a_s).bind fun r1 =>
 some (decide ((0 : Int) ≤ r1))
theorem g_slices_ContainsFunc_int_int_iIsSchema1_ok (a_s : List Int) (v0_0 : Sv) (R : Bool) (hF : g_slices_ContainsFunc_int_int_iIsSchema1 a_s = some R) :
   Fw.Spec Tryz.prog 155 [v0_0.v, (.func (.func 156) [].toArray [].toArray)] [crd (RdS 3 rdInt) v0_0.v a_s] (fun _ : Unit => (.bool R)) (fun _ => []) := by
 refine Se 9 Tryz.func155 [.tmp 4] ?_
 intro H0 F0
 unfold g_slices_ContainsFunc_int_int_iIsSchema1 at hF
 iterate 6 refine au ?_
 refine bnd hF fun r1 hx2 hF => Cx0 (g_slices_IndexFunc_int_int_iIsSchema1_ok _ _ _ hx2) (fun _ => ?_)
 iterate 4 refine au ?_
 cases hF
 exact Er ()
def i_IsSchema (a_s : List Int) : Option (Bool) :=
 ((i_within (a_s.length : Int) 1 3).bind fun r3 =>
   bif r3 then ((g_slices_ContainsFunc_int_int_iIsSchema1 a_s).bind fun r7 =>
     some (!r7))
   else (some false)).bind fun o1 =>
 match o1 with
 | c10 => some c10
theorem i_IsSchema_ok (a_s : List Int) (v0_0 : Sv) (R : Bool) (hF : i_IsSchema a_s = some R) :
   Fw.Spec Tryz.prog 110 [v0_0.v] [crd (RdS 3 rdInt) v0_0.v a_s] (fun _ : Unit => (.bool R)) (fun _ => []) := by
 refine Se 11 Tryz.func110 [.tmp 2] ?_
 intro H0 F0
 unfold i_IsSchema at hF
 iterate 3 refine au ?_
 obtain ⟨o1, hio1, hO2⟩ := bind_some hF
 refine au ?_
 refine C_cut (fun f' cs' => ∃ (c10 : Bool) (g : Fr), c10 = o1 ∧ f' = updL g [(2, (.bool c10))] ∧ Ent cs' []) ?_ ?_
 · replace hF := hio1
   iterate 2 refine au ?_
   refine bnd hF fun r3 hx4 hF => Cx0 (i_within_ok _ _ _ _ hx4) (fun _ => ?_)
   refine au ?_
   rcases Bool.eq_false_or_eq_true r3 with hg6 | hg6
   · rw [hg6]
     try rw [hg6] at hF; dsimp only [cond_true, cond_false] at hF
     iterate 3 refine au ?_
     refine bnd hF fun r7 hx8 hF => Cx0 (g_slices_ContainsFunc_int_int_iIsSchema1_ok _ _ _ hx8) (fun _ => ?_)
     iterate 5 refine au ?_
     cases hF
     exact ⟨_, _, rfl, eqA, entA⟩
   rw [hg6]
   try rw [hg6] at hF; dsimp only [cond_true, cond_false] at hF
   iterate 6 refine au ?_
   cases hF
   exact ⟨_, _, rfl, eqA, entA⟩
 rintro _ _ ⟨c10, g11, rfl, rfl, hE⟩
 replace hF := hO2
 try dsimp only at hF
 refine K_ent hE ?_
 refine au ?_
 cases hF
 exact Er ()
def i_hasRel (a_s : List Int) (a_rel : Int) : Option (Bool) :=
 ((i_IsSchema a_s).bind fun r3 =>
   bif r3 then ((i_within a_rel 0 (IntKind.i64.wrap ((a_s.length : Int) - 1))).bind fun r7 =>
     some r7)
   else (some false)).bind fun o1 =>
 match o1 with
 | c10 => some c10
theorem i_hasRel_ok (a_s : List Int) (v0_0 : Sv) (a_rel : Int) (R : Bool) (hF : i_hasRel a_s a_rel = some R) :
   Fw.Spec Tryz.prog 158 [v0_0.v, (.int .i64 a_rel)] [crd (RdS 3 rdInt) v0_0.v a_s] (fun _ : Unit => (.bool R)) (fun _ => []) := by
 refine Se 14 Tryz.func158 [.tmp 4] ?_
 intro H0 F0
 unfold i_hasRel at hF
 iterate 3 refine au ?_
 obtain ⟨o1, hio1, hO2⟩ := bind_some hF
 refine au ?_
 refine C_cut (fun f' cs' => ∃ (c10 : Bool) (g : Fr), c10 = o1 ∧ f' = updL g [(4, (.bool c10))] ∧ Ent cs' []) ?_ ?_
 · replace hF := hio1
   refine au ?_
   refine bnd hF fun r3 hx4 hF => Cx0 (i_IsSchema_ok _ _ _ hx4) (fun _ => ?_)
   refine au ?_
   rcases Bool.eq_false_or_eq_true r3 with hg6 | hg6
   · rw [hg6]
     try rw [hg6] at hF; dsimp only [cond_true, cond_false] at hF
     iterate 9 refine au ?_
     refine bnd hF fun r7 hx8 hF => Cx0 (i_within_ok _ _ _ _ hx8) (fun _ => ?_)
     iterate 3 refine au ?_
     cases hF
     exact ⟨_, _, rfl, eqA, entA⟩
   rw [hg6]
   try rw [hg6] at hF; dsimp only [cond_true, cond_false] at hF
   iterate 8 refine au ?_
   cases hF
   exact ⟨_, _, rfl, eqA, entA⟩
 rintro _ _ ⟨c10, g11, rfl, rfl, hE⟩
 replace hF := hO2
 try dsimp only at hF
 refine K_ent hE ?_
 refine au ?_
 cases hF
 exact Er ()
def i_ascending_L1 (a_l : List Int) : List Int → Nat → Option (Bool)
 | [], k4 => some true
 | x6 :: rest5, k4 => (bif (decide ((0 : Int) < (k4 : Int))) then ((ix a_l (IntKind.i64.wrap ((k4 : Int) - 1))).bind fun x18 =>
       some (decide ((x6 : Int) ≤ x18)))
     else (some false)).bind fun o13 =>
   match o13 with
   | c24 => if c24 then (
       some false)
     else (
       i_ascending_L1 a_l rest5 (k4 + 1))
def i_ascending (a_l : List Int) : Option (Bool) :=
 i_ascending_L1 a_l a_l 0
theorem i_ascending_ok (a_l : List Int) (v0_0 : Sv) (R : Bool) (hF : i_ascending a_l = some R) :
   Fw.Spec Tryz.prog 123 [v0_0.v] [crd (RdS 3 rdInt) v0_0.v a_l] (fun _ : Unit => (.bool R)) (fun _ => []) := by
 refine Se 24 Tryz.func123 [.tmp 2] ?_
 intro H0 F0
 unfold i_ascending at hF
 iterate 9 refine au ?_
 refine CW_block (CW_loop (m := a_l.length) (fun m2 f' cs' => ∃ (g : Fr) (k4 : Nat) (rest5 : List Int), m2 = rest5.length ∧ f' = updL g [(0, v0_0.v), (5, (.int .i64 (a_l.length : Int))), (6, (.int .i64 (k4 : Int)))] ∧ List.drop k4 a_l = rest5 ∧ Ent cs' [crd (RdS 3 rdInt) v0_0.v a_l] ∧ i_ascending_L1 a_l rest5 k4 = some R) ⟨_, 0, _, rfl, eqA, rfl, entA, hF⟩ ?_)
 rintro m2 _ _ ⟨g3, k4, rest5, rfl, rfl, hd7, hE, hF⟩
 refine Kb hE a_l (fun hbd12 => ?_)
 rcases rest5 with _ | ⟨x6, rest5⟩
 · have hk8 := dn hd7
   rw [i_ascending_L1] at hF
   iterate 4 refine au ?_
   refine CdF ?_
   iterate 8 refine au ?_
   cases hF
   exact Er ()
 obtain ⟨hk8, hx9, hd10⟩ := drop_cons hd7
 rw [i_ascending_L1] at hF
 iterate 4 refine au ?_
 refine CdT ?_
 iterate 6 refine au ?_
 obtain ⟨o13, hio13, hO14⟩ := bind_some hF
 refine K_draw [0, 1, 2, 3, 4, 5, 6, 7, 8, 9, 10, 11, 12, 13] [0, 1, 3, 7, 7, 31, 63, 7, 7, 263, 903, 1927, 4095, 8191] [] mixed (by decide +kernel) ?_
 refine D_cut (fun f' cs' => ∃ (c24 : Bool) (g : Fr), c24 = o13 ∧ f' = updL g [(0, v0_0.v), (5, (.int .i64 (a_l.length : Int))), (6, (.int .i64 (k4 : Int))), (22, (.bool c24))] ∧ Ent cs' [crd (RdS 3 rdInt) v0_0.v a_l]) ?_ ?_
 · replace hF := hio13
   iterate 3 refine du ?_
   rcases Bool.eq_false_or_eq_true (decide ((0 : Int) < (k4 : Int))) with hg15 | hg15
   · rw [hg15]
     try rw [hg15] at hF; dsimp only [cond_true, cond_false] at hF
     iterate 2 refine du ?_
     refine Di hx9 (fun k16 j17 => ?_)
     refine Dl ls3_0 ?_
     iterate 3 refine du ?_
     refine bnd hF fun x18 hx19 hF => ?_
     obtain ⟨hp20, hx21⟩ := ix_some hx19
     refine Di hx21 (fun k22 j23 => ?_)
     refine Dl ls3_0 ?_
     iterate 3 refine du ?_
     cases hF
     exact ⟨_, _, rfl, eqA, entA⟩
   rw [hg15]
   try rw [hg15] at hF; dsimp only [cond_true, cond_false] at hF
   iterate 12 refine du ?_
   cases hF
   exact ⟨_, _, rfl, eqA, entA⟩
 rintro _ _ ⟨c24, g27, rfl, rfl, hE⟩
 replace hF := hO14
 try dsimp only at hF
 refine K_ent hE ?_
 refine Ci hF (fun hb26 hF => ?_) (fun hb26 hF => ?_)
 · iterate 4 refine au ?_
   cases hF
   exact Er ()
 iterate 5 refine au ?_
 rw [wk k4]
 exact ⟨_, Nat.lt_succ_self _, _, k4 + 1, rest5, rfl, eqA, hd10, entA, hF⟩
def i_Method_fits_1 (a_i : Int) (a_e1 : Int) : Option (Bool) :=
 (i_within a_i 0 (IntKind.i64.wrap (a_e1 - 1))).bind fun r1 =>
 some (!r1)
theorem i_Method_fits_1_ok (a_i : Int) (kc1 : Nat) (a_e1 : Int) (R : Bool) (hF : i_Method_fits_1 a_i a_e1 = some R) :
   Fw.Spec Tryz.prog 198 [(.int .i64 a_i), (pz kc1)] [cboR kc1 3 (.int .i64 a_e1)] (fun _ : Unit => (.bool R)) (fun _ => []) := by
 refine Se 9 Tryz.func198 [.tmp 3] ?_
 intro H0 F0
 unfold i_Method_fits_1 at hF
 iterate 7 refine au ?_
 refine bnd hF fun r1 hx2 hF => Cx0 (i_within_ok _ _ _ _ hx2) (fun _ => ?_)
 iterate 4 refine au ?_
 cases hF
 exact Er ()
def g_slices_IndexFunc_int_int_iMethodfits1_L1 (a_e1 : Int) : List Int → Nat → Option (Int)
 | [], k4 => some (-1)
 | x6 :: rest5, k4 => (i_Method_fits_1 x6 a_e1).bind fun r15 =>
   if r15 then (
     some (k4 : Int))
   else (
     g_slices_IndexFunc_int_int_iMethodfits1_L1 a_e1 rest5 (k4 + 1))
def g_slices_IndexFunc_int_int_iMethodfits1 (a_s : List Int) (a_e1 : Int) : Option (Int) :=
 g_slices_IndexFunc_int_int_iMethodfits1_L1 a_e1 a_s 0
theorem g_slices_IndexFunc_int_int_iMethodfits1_ok (a_s : List Int) (v0_0 : Sv) (kc1 : Nat) (a_e1 : Int) (R : Int) (hF : g_slices_IndexFunc_int_int_iMethodfits1 a_s a_e1 = some R) :
   Fw.Spec Tryz.prog 185 [v0_0.v, (.func (.func 198) [].toArray [(pz kc1)].toArray)] [crd (RdS 3 rdInt) v0_0.v a_s, cboR kc1 3 (.int .i64 a_e1)] (fun _ : Unit => (.int .i64 R)) (fun _ => []) := by
 refine Se 19 Tryz.func185 [.tmp 4] ?_
 intro H0 F0
 unfold g_slices_IndexFunc_int_int_iMethodfits1 at hF
 iterate 9 refine au ?_
 refine CW_block (CW_loop (m := a_s.length) (fun m2 f' cs' => ∃ (g : Fr) (k4 : Nat) (rest5 : List Int), m2 = rest5.length ∧ f' = updL g [(0, v0_0.v), (1, (.func (.func 198) [].toArray [(pz kc1)].toArray)), (7, (.int .i64 (a_s.length : Int))), (8, (.int .i64 (k4 : Int)))] ∧ List.drop k4 a_s = rest5 ∧ Ent cs' [crd (RdS 3 rdInt) v0_0.v a_s, cboR kc1 3 (.int .i64 a_e1)] ∧ g_slices_IndexFunc_int_int_iMethodfits1_L1 a_e1 rest5 k4 = some R) ⟨_, 0, _, rfl, eqA, rfl, entA, hF⟩ ?_)
 rintro m2 _ _ ⟨g3, k4, rest5, rfl, rfl, hd7, hE, hF⟩
 refine Kb hE a_s (fun hbd12 => ?_)
 rcases rest5 with _ | ⟨x6, rest5⟩
 · have hk8 := dn hd7
   rw [g_slices_IndexFunc_int_int_iMethodfits1_L1] at hF
   iterate 4 refine au ?_
   refine CdF ?_
   iterate 8 refine au ?_
   cases hF
   exact Er ()
 obtain ⟨hk8, hx9, hd10⟩ := drop_cons hd7
 rw [g_slices_IndexFunc_int_int_iMethodfits1_L1] at hF
 iterate 4 refine au ?_
 refine CdT ?_
 iterate 10 refine au ?_
 refine Ai hx9 (fun k13 j14 => ?_)
 refine Al ls3_0 ?_
 refine bnd hF fun r15 hx16 hF => C_x0 (.rd (.t (.t .h)) rfl .nil) (X_callCS cf198.h (.tmp rfl rfl) (.cons (.tmp rfl rfl) .nil) (i_Method_fits_1_ok x6 kc1 a_e1 _ hx16)) (fun _ => ?_)
 refine au ?_
 refine Ci hF (fun hb19 hF => ?_) (fun hb19 hF => ?_)
 · iterate 5 refine au ?_
   cases hF
   exact Er ()
 iterate 5 refine au ?_
 rw [wk k4]
 exact ⟨_, Nat.lt_succ_self _, _, k4 + 1, rest5, rfl, eqA, hd10, entA, hF⟩
def g_slices_ContainsFunc_int_int_iMethodfits1 (a_s : List Int) (a_e1 : Int) : Option (Bool) :=
 (g_slices_IndexFunc_int_int_iMethodfits1 a_s a_e1).bind fun r1 =>
 some (decide ((0 : Int) ≤ r1))
theorem g_slices_ContainsFunc_int_int_iMethodfits1_ok (a_s : List Int) (v0_0 : Sv) (kc1 : Nat) (a_e1 : Int) (R : Bool) (hF : g_slices_ContainsFunc_int_int_iMethodfits1 a_s a_e1 = some R) :
   Fw.Spec Tryz.prog 155 [v0_0.v, (.func (.func 198) [].toArray [(pz kc1)].toArray)] [crd (RdS 3 rdInt) v0_0.v a_s, cboR kc1 3 (.int .i64 a_e1)] (fun _ : Unit => (.bool R)) (fun _ => []) := by
 refine Se 9 Tryz.func155 [.tmp 4] ?_
 intro H0 F0
 unfold g_slices_ContainsFunc_int_int_iMethodfits1 at hF
 iterate 6 refine au ?_
 refine bnd hF fun r1 hx2 hF => Cx0 (g_slices_IndexFunc_int_int_iMethodfits1_ok _ _ _ _ _ hx2) (fun _ => ?_)
 iterate 4 refine au ?_
 cases hF
 exact Er ()
def i_isCost (a_n : Int) : Option (Bool) :=
 (i_within a_n 0 99).bind fun r1 =>
 some r1
theorem i_isCost_ok (a_n : Int) (R : Bool) (hF : i_isCost a_n = some R) :
   Fw.Spec Tryz.prog 199 [(.int .i64 a_n)] [] (fun _ : Unit => (.bool R)) (fun _ => []) := by
 refine Se 5 Tryz.func199 [.tmp 2] ?_
 intro H0 F0
 unfold i_isCost at hF
 iterate 5 refine au ?_
 refine bnd hF fun r1 hx2 hF => Cx0 (i_within_ok _ _ _ _ hx2) (fun _ => ?_)
 iterate 3 refine au ?_
 cases hF
 exact Er ()
def i_Method_fits (a_m : Method) (a_arity : Int) : Option (Bool) :=
 ((i_ascending a_m.Inputs).bind fun r5 =>
   bif r5 then ((g_slices_ContainsFunc_int_int_iMethodfits1 a_m.Inputs a_arity).bind fun r9 =>
     bif (!r9) then ((i_within a_m.Limit 0 9).bind fun r13 =>
       bif r13 then ((i_isCost a_m.Cost).bind fun r17 =>
         bif r17 then ((i_within a_m.Quota 1 99).bind fun r21 =>
           some r21)
         else (some false))
       else (some false))
     else (some false))
   else (some false)).bind fun o3 =>
 match o3 with
 | c24 => some c24
theorem i_Method_fits_ok (a_m : Method) (v0_1 : Sv) (a_arity : Int) (R : Bool) (hF : i_Method_fits a_m a_arity = some R) :
   Fw.Spec Tryz.prog 169 [(.agg [(.int .i64 a_m.Rel), v0_1.v, (.int .i64 a_m.Limit), (.int .i64 a_m.Cost), (.int .i64 a_m.Quota)].toArray), (.int .i64 a_arity)] [crd (RdS 3 rdInt) v0_1.v a_m.Inputs] (fun _ : Unit => (.bool R)) (fun _ => []) := by
 refine Se 30 Tryz.func169 [.tmp 4] ?_
 intro H0 F0
 unfold i_Method_fits at hF
 refine au ?_
 refine AbR (fun k1 => ?_)
 refine AbR (fun k2 => ?_)
 iterate 2 refine au ?_
 obtain ⟨o3, hio3, hO4⟩ := bind_some hF
 refine au ?_
 refine C_cut (fun f' cs' => ∃ (c24 : Bool) (g : Fr), c24 = o3 ∧ f' = updL g [(4, (.bool c24))] ∧ Ent cs' []) ?_ ?_
 · replace hF := hio3
   iterate 2 refine au ?_
   refine bnd hF fun r5 hx6 hF => Cx0 (i_ascending_ok _ _ _ hx6) (fun _ => ?_)
   refine au ?_
   rcases Bool.eq_false_or_eq_true r5 with hg8 | hg8
   · rw [hg8]
     try rw [hg8] at hF; dsimp only [cond_true, cond_false] at hF
     iterate 5 refine au ?_
     refine C_val (V_makeFunc (fn := .func 198) (vs := []) (us := [(pz k2)]) .nil (.cons (.tmp rfl rfl) .nil)) ?_
     refine au ?_
     refine bnd hF fun r9 hx10 hF => Cx0 (g_slices_ContainsFunc_int_int_iMethodfits1_ok _ _ _ _ _ hx10) (fun _ => ?_)
     iterate 4 refine au ?_
     rcases Bool.eq_false_or_eq_true (!r9) with hg12 | hg12
     · rw [hg12]
       try rw [hg12] at hF; dsimp only [cond_true, cond_false] at hF
       iterate 5 refine au ?_
       refine bnd hF fun r13 hx14 hF => Cx0 (i_within_ok _ _ _ _ hx14) (fun _ => ?_)
       iterate 2 refine au ?_
       rcases Bool.eq_false_or_eq_true r13 with hg16 | hg16
       · rw [hg16]
         try rw [hg16] at hF; dsimp only [cond_true, cond_false] at hF
         iterate 5 refine au ?_
         refine bnd hF fun r17 hx18 hF => Cx0 (i_isCost_ok _ _ hx18) (fun _ => ?_)
         iterate 2 refine au ?_
         rcases Bool.eq_false_or_eq_true r17 with hg20 | hg20
         · rw [hg20]
           try rw [hg20] at hF; dsimp only [cond_true, cond_false] at hF
           iterate 5 refine au ?_
           refine bnd hF fun r21 hx22 hF => Cx0 (i_within_ok _ _ _ _ hx22) (fun _ => ?_)
           iterate 3 refine au ?_
           cases hF
           exact ⟨_, _, rfl, eqA, entA⟩
         rw [hg20]
         try rw [hg20] at hF; dsimp only [cond_true, cond_false] at hF
         iterate 6 refine au ?_
         cases hF
         exact ⟨_, _, rfl, eqA, entA⟩
       rw [hg16]
       try rw [hg16] at hF; dsimp only [cond_true, cond_false] at hF
       iterate 11 refine au ?_
       cases hF
       exact ⟨_, _, rfl, eqA, entA⟩
     rw [hg12]
     try rw [hg12] at hF; dsimp only [cond_true, cond_false] at hF
     iterate 16 refine au ?_
     cases hF
     exact ⟨_, _, rfl, eqA, entA⟩
   rw [hg8]
   try rw [hg8] at hF; dsimp only [cond_true, cond_false] at hF
   iterate 23 refine au ?_
   cases hF
   exact ⟨_, _, rfl, eqA, entA⟩
 rintro _ _ ⟨c24, g25, rfl, rfl, hE⟩
 replace hF := hO4
 try dsimp only at hF
 refine K_ent hE ?_
 refine au ?_
 cases hF
 exact Er ()
def i_IsMethod (a_s : List Int) (a_m : Method) : Option (Bool) :=
 ((i_hasRel a_s a_m.Rel).bind fun r4 =>
   bif r4 then ((ix a_s a_m.Rel).bind fun x8 =>
     (i_Method_fits a_m x8).bind fun r14 =>
     some r14)
   else (some false)).bind fun o2 =>
 match o2 with
 | c17 => some c17
theorem i_IsMethod_ok (a_s : List Int) (v0_0 : Sv) (a_m : Method) (v1_1 : Sv) (R : Bool) (hF : i_IsMethod a_s a_m = some R) :
   Fw.Spec Tryz.prog 121 [v0_0.v, (.agg [(.int .i64 a_m.Rel), v1_1.v, (.int .i64 a_m.Limit), (.int .i64 a_m.Cost), (.int .i64 a_m.Quota)].toArray)] [crd (RdS 3 rdInt) v0_0.v a_s, crd (RdS 3 rdInt) v1_1.v a_m.Inputs] (fun _ : Unit => (.bool R)) (fun _ => []) := by
 refine Se 18 Tryz.func121 [.tmp 4] ?_
 intro H0 F0
 unfold i_IsMethod at hF
 refine au ?_
 refine AbR (fun k1 => ?_)
 iterate 2 refine au ?_
 obtain ⟨o2, hio2, hO3⟩ := bind_some hF
 refine K_draw [0, 1, 2, 3, 4, 5, 6, 7, 8, 9, 10, 11, 12, 13] [0, 0, 2, 7, 15, 31, 31, 31, 159, 479, 991, 2047, 4095, 8191] [3, 11] mixed (by decide +kernel) ?_
 refine D_cut (fun f' cs' => ∃ (c17 : Bool) (g : Fr), c17 = o2 ∧ f' = updL g [(4, (.bool c17))] ∧ Ent cs' []) ?_ ?_
 · replace hF := hio2
   iterate 3 refine du ?_
   refine bnd hF fun r4 hx5 hF => Dx0 (i_hasRel_ok _ _ _ _ hx5) (fun _ => ?_)
   refine du ?_
   rcases Bool.eq_false_or_eq_true r4 with hg7 | hg7
   · rw [hg7]
     try rw [hg7] at hF; dsimp only [cond_true, cond_false] at hF
     iterate 4 refine du ?_
     refine bnd hF fun x8 hx9 hF => ?_
     obtain ⟨hp10, hx11⟩ := ix_some hx9
     refine Di hx11 (fun k12 j13 => ?_)
     refine Dl ls3_0 ?_
     refine bnd hF fun r14 hx15 hF => Dx0 (i_Method_fits_ok _ _ _ _ hx15) (fun _ => ?_)
     iterate 3 refine du ?_
     cases hF
     exact ⟨_, _, rfl, eqA, entA⟩
   rw [hg7]
   try rw [hg7] at hF; dsimp only [cond_true, cond_false] at hF
   iterate 10 refine du ?_
   cases hF
   exact ⟨_, _, rfl, eqA, entA⟩
 rintro _ _ ⟨c17, g18, rfl, rfl, hE⟩
 replace hF := hO3
 try dsimp only at hF
 refine K_ent hE ?_
 refine au ?_
 cases hF
 exact Er ()
def i_AreMethods_1 (a_m : Method) (a_e1 : List Int) : Option (Bool) :=
 (i_IsMethod a_e1 a_m).bind fun r2 =>
 some (!r2)
theorem i_AreMethods_1_ok (a_m : Method) (v0_1 : Sv) (kc1 : Nat) (a_e1 : List Int) (vc1_0 : Sv) (R : Bool) (hF : i_AreMethods_1 a_m a_e1 = some R) :
   Fw.Spec Tryz.prog 120 [(.agg [(.int .i64 a_m.Rel), v0_1.v, (.int .i64 a_m.Limit), (.int .i64 a_m.Cost), (.int .i64 a_m.Quota)].toArray), (pz kc1)] [crd (RdS 3 rdInt) v0_1.v a_m.Inputs, cboR kc1 24 vc1_0.v, crd (RdS 3 rdInt) vc1_0.v a_e1] (fun _ : Unit => (.bool R)) (fun _ => []) := by
 refine Se 8 Tryz.func120 [.tmp 3] ?_
 intro H0 F0
 unfold i_AreMethods_1 at hF
 refine au ?_
 refine AbR (fun k1 => ?_)
 iterate 5 refine au ?_
 refine bnd hF fun r2 hx3 hF => Cx0 (i_IsMethod_ok _ _ _ _ _ hx3) (fun _ => ?_)
 iterate 4 refine au ?_
 cases hF
 exact Er ()
def g_slices_IndexFunc_impl_Method_impl_Method_iAreMethods1_L1 (a_e1 : List Int) : List Method → Nat → Option (Int)
 | [], k4 => some (-1)
 | x6 :: rest5, k4 => (i_AreMethods_1 x6 a_e1).bind fun r16 =>
   if r16 then (
     some (k4 : Int))
   else (
     g_slices_IndexFunc_impl_Method_impl_Method_iAreMethods1_L1 a_e1 rest5 (k4 + 1))
def g_slices_IndexFunc_impl_Method_impl_Method_iAreMethods1 (a_s : List Method) (a_e1 : List Int) : Option (Int) :=
 g_slices_IndexFunc_impl_Method_impl_Method_iAreMethods1_L1 a_e1 a_s 0
theorem g_slices_IndexFunc_impl_Method_impl_Method_iAreMethods1_ok (a_s : List Method) (v0_0 : Sv) (kc1 : Nat) (a_e1 : List Int) (vc1_0 : Sv) (R : Int) (hF : g_slices_IndexFunc_impl_Method_impl_Method_iAreMethods1 a_s a_e1 = some R) :
   Fw.Spec Tryz.prog 168 [v0_0.v, (.func (.func 120) [].toArray [(pz kc1)].toArray)] [crd (RdS 97 rd97) v0_0.v a_s, cboR kc1 24 vc1_0.v, crd (RdS 3 rdInt) vc1_0.v a_e1] (fun _ : Unit => (.int .i64 R)) (fun _ => []) := by
 refine Se 19 Tryz.func168 [.tmp 4] ?_
 intro H0 F0
 unfold g_slices_IndexFunc_impl_Method_impl_Method_iAreMethods1 at hF
 iterate 9 refine au ?_
 refine CW_block (CW_loop (m := a_s.length) (fun m2 f' cs' => ∃ (g : Fr) (k4 : Nat) (rest5 : List Method), m2 = rest5.length ∧ f' = updL g [(0, v0_0.v), (1, (.func (.func 120) [].toArray [(pz kc1)].toArray)), (7, (.int .i64 (a_s.length : Int))), (8, (.int .i64 (k4 : Int)))] ∧ List.drop k4 a_s = rest5 ∧ Ent cs' [crd (RdS 97 rd97) v0_0.v a_s, cboR kc1 24 vc1_0.v, crd (RdS 3 rdInt) vc1_0.v a_e1] ∧ g_slices_IndexFunc_impl_Method_impl_Method_iAreMethods1_L1 a_e1 rest5 k4 = some R) ⟨_, 0, _, rfl, eqA, rfl, entA, hF⟩ ?_)
 rintro m2 _ _ ⟨g3, k4, rest5, rfl, rfl, hd7, hE, hF⟩
 refine Kb hE a_s (fun hbd12 => ?_)
 rcases rest5 with _ | ⟨x6, rest5⟩
 · have hk8 := dn hd7
   rw [g_slices_IndexFunc_impl_Method_impl_Method_iAreMethods1_L1] at hF
   iterate 4 refine au ?_
   refine CdF ?_
   iterate 8 refine au ?_
   cases hF
   exact Er ()
 obtain ⟨hk8, hx9, hd10⟩ := drop_cons hd7
 rw [g_slices_IndexFunc_impl_Method_impl_Method_iAreMethods1_L1] at hF
 iterate 4 refine au ?_
 refine CdT ?_
 iterate 10 refine au ?_
 refine Ai hx9 (fun k13 j14 => ?_)
 refine AlA1 (ul97_0_97 x6) la97_0_97 (fun p15 => ?_)
 refine bnd hF fun r16 hx17 hF => C_x0 (.rd .h rfl (.rd (.t (.t (.t .h))) rfl (.rd (.t (.t (.t (.t .h)))) rfl .nil))) (X_callCS cf120.h (.tmp rfl rfl) (.cons (.tmp rfl rfl) .nil) (i_AreMethods_1_ok x6 p15 kc1 a_e1 vc1_0 _ hx17)) (fun _ => ?_)
 refine au ?_
 refine Ci hF (fun hb20 hF => ?_) (fun hb20 hF => ?_)
 · iterate 5 refine au ?_
   cases hF
   exact Er ()
 iterate 5 refine au ?_
 rw [wk k4]
 exact ⟨_, Nat.lt_succ_self _, _, k4 + 1, rest5, rfl, eqA, hd10, entA, hF⟩
def g_slices_ContainsFunc_impl_Method_impl_Method_iAreMethods1 (a_s : List Method) (a_e1 : List Int) : Option (Bool) :=
 (g_slices_IndexFunc_impl_Method_impl_Method_iAreMethods1 a_s a_e1).bind fun r1 =>
 some (decide ((0 : Int) ≤ r1))
theorem g_slices_ContainsFunc_impl_Method_impl_Method_iAreMethods1_ok (a_s : List Method) (v0_0 : Sv) (kc1 : Nat) (a_e1 : List Int) (vc1_0 : Sv) (R : Bool) (hF : g_slices_ContainsFunc_impl_Method_impl_Method_iAreMethods1 a_s a_e1 = some R) :
   Fw.Spec Tryz.prog 119 [v0_0.v, (.func (.func 120) [].toArray [(pz kc1)].toArray)] [crd (RdS 97 rd97) v0_0.v a_s, cboR kc1 24 vc1_0.v, crd (RdS 3 rdInt) vc1_0.v a_e1] (fun _ : Unit => (.bool R)) (fun _ => []) := by
 refine Se 9 Tryz.func119 [.tmp 4] ?_
 intro H0 F0
 unfold g_slices_ContainsFunc_impl_Method_impl_Method_iAreMethods1 at hF
 iterate 6 refine au ?_
 refine bnd hF fun r1 hx2 hF => Cx0 (g_slices_IndexFunc_impl_Method_impl_Method_iAreMethods1_ok _ _ _ _ _ _ hx2) (fun _ => ?_)
 iterate 4 refine au ?_
 cases hF
 exact Er ()
def i_AreMethods (a_s : List Int) (a_l : List Method) : Option (Bool) :=
 ((i_IsSchema a_s).bind fun r4 =>
   bif r4 then (bif (decide (((a_l.length : Int) : Int) ≤ 5)) then ((g_slices_ContainsFunc_impl_Method_impl_Method_iAreMethods1 a_l a_s).bind fun r9 =>
       some (!r9))
     else (some false))
   else (some false)).bind fun o2 =>
 match o2 with
 | c12 => some c12
theorem i_AreMethods_ok (a_s : List Int) (v0_0 : Sv) (a_l : List Method) (v1_0 : Sv) (R : Bool) (hF : i_AreMethods a_s a_l = some R) :
   Fw.Spec Tryz.prog 64 [v0_0.v, v1_0.v] [crd (RdS 3 rdInt) v0_0.v a_s, crd (RdS 97 rd97) v1_0.v a_l] (fun _ : Unit => (.bool R)) (fun _ => []) := by
 refine Se 18 Tryz.func64 [.tmp 4] ?_
 intro H0 F0
 unfold i_AreMethods at hF
 refine au ?_
 refine AbR (fun k1 => ?_)
 iterate 2 refine au ?_
 obtain ⟨o2, hio2, hO3⟩ := bind_some hF
 refine au ?_
 refine C_cut (fun f' cs' => ∃ (c12 : Bool) (g : Fr), c12 = o2 ∧ f' = updL g [(4, (.bool c12))] ∧ Ent cs' []) ?_ ?_
 · replace hF := hio2
   refine au ?_
   refine bnd hF fun r4 hx5 hF => Cx0 (i_IsSchema_ok _ _ _ hx5) (fun _ => ?_)
   refine au ?_
   rcases Bool.eq_false_or_eq_true r4 with hg7 | hg7
   · rw [hg7]
     try rw [hg7] at hF; dsimp only [cond_true, cond_false] at hF
     iterate 8 refine au ?_
     rcases Bool.eq_false_or_eq_true (decide (((a_l.length : Int) : Int) ≤ 5)) with hg8 | hg8
     · rw [hg8]
       try rw [hg8] at hF; dsimp only [cond_true, cond_false] at hF
       iterate 3 refine au ?_
       refine C_val (V_makeFunc (fn := .func 120) (vs := []) (us := [(pz k1)]) .nil (.cons (.tmp rfl rfl) .nil)) ?_
       refine au ?_
       refine bnd hF fun r9 hx10 hF => Cx0 (g_slices_ContainsFunc_impl_Method_impl_Method_iAreMethods1_ok _ _ _ _ _ _ hx10) (fun _ => ?_)
       iterate 5 refine au ?_
       cases hF
       exact ⟨_, _, rfl, eqA, entA⟩
     rw [hg8]
     try rw [hg8] at hF; dsimp only [cond_true, cond_false] at hF
     iterate 7 refine au ?_
     cases hF
     exact ⟨_, _, rfl, eqA, entA⟩
   rw [hg7]
   try rw [hg7] at hF; dsimp only [cond_true, cond_false] at hF
   iterate 12 refine au ?_
   cases hF
   exact ⟨_, _, rfl, eqA, entA⟩
 rintro _ _ ⟨c12, g13, rfl, rfl, hE⟩
 replace hF := hO3
 try dsimp only at hF
 refine K_ent hE ?_
 refine au ?_
 cases hF
 exact Er ()
def i_isValue (a_n : Int) : Option (Bool) :=
 (i_within a_n 0 9).bind fun r1 =>
 some r1
theorem i_isValue_ok (a_n : Int) (R : Bool) (hF : i_isValue a_n = some R) :
   Fw.Spec Tryz.prog 45 [(.int .i64 a_n)] [] (fun _ : Unit => (.bool R)) (fun _ => []) := by
 refine Se 5 Tryz.func45 [.tmp 2] ?_
 intro H0 F0
 unfold i_isValue at hF
 iterate 5 refine au ?_
 refine bnd hF fun r1 hx2 hF => Cx0 (i_within_ok _ _ _ _ hx2) (fun _ => ?_)
 iterate 3 refine au ?_
 cases hF
 exact Er ()
def i_areValues_1 (a_n : Int) : Option (Bool) :=
 (i_isValue a_n).bind fun r1 =>
 some (!r1)
theorem i_areValues_1_ok (a_n : Int) (R : Bool) (hF : i_areValues_1 a_n = some R) :
   Fw.Spec Tryz.prog 170 [(.int .i64 a_n)] [] (fun _ : Unit => (.bool R)) (fun _ => []) := by
 refine Se 6 Tryz.func170 [.tmp 2] ?_
 intro H0 F0
 unfold i_areValues_1 at hF
 iterate 5 refine au ?_
 refine bnd hF fun r1 hx2 hF => Cx0 (i_isValue_ok _ _ hx2) (fun _ => ?_)
 iterate 4 refine au ?_
 cases hF
 exact Er ()
def g_slices_IndexFunc_int_int_iareValues1_L1 : List Int → Nat → Option (Int)
 | [], k4 => some (-1)
 | x6 :: rest5, k4 => (i_areValues_1 x6).bind fun r15 =>
   if r15 then (
     some (k4 : Int))
   else (
     g_slices_IndexFunc_int_int_iareValues1_L1 rest5 (k4 + 1))
def g_slices_IndexFunc_int_int_iareValues1 (a_s : List Int) : Option (Int) :=
 g_slices_IndexFunc_int_int_iareValues1_L1 a_s 0
theorem g_slices_IndexFunc_int_int_iareValues1_ok (a_s : List Int) (v0_0 : Sv) (R : Int) (hF : g_slices_IndexFunc_int_int_iareValues1 a_s = some R) :
   Fw.Spec Tryz.prog 185 [v0_0.v, (.func (.func 170) [].toArray [].toArray)] [crd (RdS 3 rdInt) v0_0.v a_s] (fun _ : Unit => (.int .i64 R)) (fun _ => []) := by
 refine Se 19 Tryz.func185 [.tmp 4] ?_
 intro H0 F0
 unfold g_slices_IndexFunc_int_int_iareValues1 at hF
 iterate 9 refine au ?_
 refine CW_block (CW_loop (m := a_s.length) (fun m2 f' cs' => ∃ (g : Fr) (k4 : Nat) (rest5 : List Int), m2 = rest5.length ∧ f' = updL g [(0, v0_0.v), (1, (.func (.func 170) [].toArray [].toArray)), (7, (.int .i64 (a_s.length : Int))), (8, (.int .i64 (k4 : Int)))] ∧ List.drop k4 a_s = rest5 ∧ Ent cs' [crd (RdS 3 rdInt) v0_0.v a_s] ∧ g_slices_IndexFunc_int_int_iareValues1_L1 rest5 k4 = some R) ⟨_, 0, _, rfl, eqA, rfl, entA, hF⟩ ?_)
 rintro m2 _ _ ⟨g3, k4, rest5, rfl, rfl, hd7, hE, hF⟩
 refine Kb hE a_s (fun hbd12 => ?_)
 rcases rest5 with _ | ⟨x6, rest5⟩
 · have hk8 := dn hd7
   rw [g_slices_IndexFunc_int_int_iareValues1_L1] at hF
   iterate 4 refine au ?_
   refine CdF ?_
   iterate 8 refine au ?_
   cases hF
   exact Er ()
 obtain ⟨hk8, hx9, hd10⟩ := drop_cons hd7
 rw [g_slices_IndexFunc_int_int_iareValues1_L1] at hF
 iterate 4 refine au ?_
 refine CdT ?_
 iterate 10 refine au ?_
 refine Ai hx9 (fun k13 j14 => ?_)
 refine Al ls3_0 ?_
 refine bnd hF fun r15 hx16 hF => C_x0 .nil (X_callCS cf170.h (.tmp rfl rfl) (.cons (.tmp rfl rfl) .nil) (i_areValues_1_ok x6 _ hx16)) (fun _ => ?_)
 refine au ?_
 refine Ci hF (fun hb19 hF => ?_) (fun hb19 hF => ?_)
 · iterate 5 refine au ?_
   cases hF
   exact Er ()
 iterate 5 refine au ?_
 rw [wk k4]
 exact ⟨_, Nat.lt_succ_self _, _, k4 + 1, rest5, rfl, eqA, hd10, entA, hF⟩
def g_slices_ContainsFunc_int_int_iareValues1 (a_s : List Int) : Option (Bool) :=
 (g_slices_IndexFunc_int_int_iareValues1 a_s).bind fun r1 =>
 some (decide ((0 : Int) ≤ r1))
theorem g_slices_ContainsFunc_int_int_iareValues1_ok (a_s : List Int) (v0_0 : Sv) (R : Bool) (hF : g_slices_ContainsFunc_int_int_iareValues1 a_s = some R) :
   Fw.Spec Tryz.prog 155 [v0_0.v, (.func (.func 170) [].toArray [].toArray)] [crd (RdS 3 rdInt) v0_0.v a_s] (fun _ : Unit => (.bool R)) (fun _ => []) := by
 refine Se 9 Tryz.func155 [.tmp 4] ?_
 intro H0 F0
 unfold g_slices_ContainsFunc_int_int_iareValues1 at hF
 iterate 6 refine au ?_
 refine bnd hF fun r1 hx2 hF => Cx0 (g_slices_IndexFunc_int_int_iareValues1_ok _ _ _ hx2) (fun _ => ?_)
 iterate 4 refine au ?_
 cases hF
 exact Er ()
def i_areValues (a_l : List Int) : Option (Bool) :=
 (g_slices_ContainsFunc_int_int_iareValues1 a_l).bind fun r1 =>
 some (!r1)
theorem i_areValues_ok (a_l : List Int) (v0_0 : Sv) (R : Bool) (hF : i_areValues a_l = some R) :
   Fw.Spec Tryz.prog 124 [v0_0.v] [crd (RdS 3 rdInt) v0_0.v a_l] (fun _ : Unit => (.bool R)) (fun _ => []) := by
 refine Se 6 Tryz.func124 [.tmp 2] ?_
 intro H0 F0
 unfold i_areValues at hF
 iterate 5 refine au ?_
 refine bnd hF fun r1 hx2 hF => Cx0 (g_slices_ContainsFunc_int_int_iareValues1_ok _ _ _ hx2) (fun _ => ?_)
 iterate 4 refine au ?_
 cases hF
 exact Er ()
def i_IsFact (a_s : List Int) (a_f : Fact) : Option (Bool) :=
 ((i_hasRel a_s a_f.Rel).bind fun r4 =>
   bif r4 then ((ix a_s a_f.Rel).bind fun x8 =>
     bif (((a_f.Values.length : Int) : Int) == x8) then ((i_areValues a_f.Values).bind fun r15 =>
       some r15)
     else (some false))
   else (some false)).bind fun o2 =>
 match o2 with
 | c18 => some c18
theorem i_IsFact_ok (a_s : List Int) (v0_0 : Sv) (a_f : Fact) (v1_1 : Sv) (R : Bool) (hF : i_IsFact a_s a_f = some R) :
   Fw.Spec Tryz.prog 115 [v0_0.v, (.agg [(.int .i64 a_f.Rel), v1_1.v].toArray)] [crd (RdS 3 rdInt) v0_0.v a_s, crd (RdS 3 rdInt) v1_1.v a_f.Values] (fun _ : Unit => (.bool R)) (fun _ => []) := by
 refine Se 25 Tryz.func115 [.tmp 4] ?_
 intro H0 F0
 unfold i_IsFact at hF
 refine au ?_
 refine AbR (fun k1 => ?_)
 iterate 2 refine au ?_
 obtain ⟨o2, hio2, hO3⟩ := bind_some hF
 refine K_draw [0, 1, 2, 3, 4, 5, 6, 7, 8, 9, 10, 11, 12, 13, 14, 15, 16, 17, 18, 19, 20] [0, 0, 2, 7, 15, 31, 63, 127, 31, 31, 543, 1823, 3871, 8191, 16383, 32767, 65535, 131071, 262143, 524287, 1048575] [3, 18] mixed (by decide +kernel) ?_
 refine D_cut (fun f' cs' => ∃ (c18 : Bool) (g : Fr), c18 = o2 ∧ f' = updL g [(4, (.bool c18))] ∧ Ent cs' []) ?_ ?_
 · replace hF := hio2
   iterate 3 refine du ?_
   refine bnd hF fun r4 hx5 hF => Dx0 (i_hasRel_ok _ _ _ _ hx5) (fun _ => ?_)
   refine du ?_
   rcases Bool.eq_false_or_eq_true r4 with hg7 | hg7
   · rw [hg7]
     try rw [hg7] at hF; dsimp only [cond_true, cond_false] at hF
     iterate 6 refine du ?_
     refine bnd hF fun x8 hx9 hF => ?_
     obtain ⟨hp10, hx11⟩ := ix_some hx9
     refine Di hx11 (fun k12 j13 => ?_)
     refine Dl ls3_0 ?_
     iterate 3 refine du ?_
     rcases Bool.eq_false_or_eq_true (((a_f.Values.length : Int) : Int) == x8) with hg14 | hg14
     · rw [hg14]
       try rw [hg14] at hF; dsimp only [cond_true, cond_false] at hF
       iterate 2 refine du ?_
       refine bnd hF fun r15 hx16 hF => Dx0 (i_areValues_ok _ _ _ hx16) (fun _ => ?_)
       iterate 3 refine du ?_
       cases hF
       exact ⟨_, _, rfl, eqA, entA⟩
     rw [hg14]
     try rw [hg14] at hF; dsimp only [cond_true, cond_false] at hF
     iterate 6 refine du ?_
     cases hF
     exact ⟨_, _, rfl, eqA, entA⟩
   rw [hg7]
   try rw [hg7] at hF; dsimp only [cond_true, cond_false] at hF
   iterate 17 refine du ?_
   cases hF
   exact ⟨_, _, rfl, eqA, entA⟩
 rintro _ _ ⟨c18, g19, rfl, rfl, hE⟩
 replace hF := hO3
 try dsimp only at hF
 refine K_ent hE ?_
 refine au ?_
 cases hF
 exact Er ()
def g_cmp_isNaN_int (a_x : Int) : Option (Bool) :=
 some ((a_x : Int) != a_x)
theorem g_cmp_isNaN_int_ok (a_x : Int) (R : Bool) (hF : g_cmp_isNaN_int a_x = some R) :
   Fw.Spec Tryz.prog 180 [(.int .i64 a_x)] [] (fun _ : Unit => (.bool R)) (fun _ => []) := by
 refine Se 6 Tryz.func180 [.tmp 2] ?_
 intro H0 F0
 unfold g_cmp_isNaN_int at hF
 iterate 10 refine au ?_
 cases hF
 exact Er ()
def g_cmp_Compare_int (a_x : Int) (a_y : Int) : Option (Int) :=
 (g_cmp_isNaN_int a_x).bind fun r1 =>
 (g_cmp_isNaN_int a_y).bind fun r4 =>
 if r1 then (
   if r4 then (
     some 0)
   else (
     some (-1)))
 else (
   if r4 then (
     some 1)
   else (
     if (decide ((a_x : Int) < a_y)) then (
       some (-1))
     else (
       if (decide ((a_y : Int) < a_x)) then (
         some 1)
       else (
         some 0))))
theorem g_cmp_Compare_int_ok (a_x : Int) (a_y : Int) (R : Int) (hF : g_cmp_Compare_int a_x a_y = some R) :
   Fw.Spec Tryz.prog 148 [(.int .i64 a_x), (.int .i64 a_y)] [] (fun _ : Unit => (.int .i64 R)) (fun _ => []) := by
 refine Se 20 Tryz.func148 [.tmp 4] ?_
 intro H0 F0
 unfold g_cmp_Compare_int at hF
 iterate 5 refine au ?_
 refine bnd hF fun r1 hx2 hF => Cx0 (g_cmp_isNaN_int_ok _ _ hx2) (fun _ => ?_)
 iterate 4 refine au ?_
 refine bnd hF fun r4 hx5 hF => Cx0 (g_cmp_isNaN_int_ok _ _ hx5) (fun _ => ?_)
 iterate 6 refine au ?_
 refine Ci hF (fun hb11 hF => ?_) (fun hb11 hF => ?_)
 · iterate 4 refine au ?_
   refine Ci hF (fun hb7 hF => ?_) (fun hb7 hF => ?_)
   · iterate 4 refine au ?_
     cases hF
     exact Er ()
   iterate 5 refine au ?_
   cases hF
   exact Er ()
 iterate 5 refine au ?_
 refine Ci hF (fun hb10 hF => ?_) (fun hb10 hF => ?_)
 · iterate 4 refine au ?_
   cases hF
   exact Er ()
 iterate 7 refine au ?_
 refine Ci hF (fun hb9 hF => ?_) (fun hb9 hF => ?_)
 · iterate 4 refine au ?_
   cases hF
   exact Er ()
 iterate 7 refine au ?_
 refine Ci hF (fun hb8 hF => ?_) (fun hb8 hF => ?_)
 · iterate 4 refine au ?_
   cases hF
   exact Er ()
 iterate 5 refine au ?_
 cases hF
 exact Er ()
def g_slices_Compare_int_int_L1 (a_s1 : List Int) (a_s2 : List Int) : List Int → Nat → Option (Int)
 | [], k4 => if (decide (((a_s1.length : Int) : Int) < (a_s2.length : Int))) then (
     some (-1))
   else (
     some 0)
 | x6 :: rest5, k4 => if (decide (((a_s2.length : Int) : Int) ≤ (k4 : Int))) then (
     some 1)
   else (
     (ix a_s2 (k4 : Int)).bind fun x16 =>
     (g_cmp_Compare_int x6 x16).bind fun r22 =>
     if ((r22 : Int) != 0) then (
       some r22)
     else (
       g_slices_Compare_int_int_L1 a_s1 a_s2 rest5 (k4 + 1)))
def g_slices_Compare_int_int (a_s1 : List Int) (a_s2 : List Int) : Option (Int) :=
 g_slices_Compare_int_int_L1 a_s1 a_s2 a_s1 0
theorem g_slices_Compare_int_int_ok (a_s1 : List Int) (v0_0 : Sv) (a_s2 : List Int) (v1_0 : Sv) (R : Int) (hF : g_slices_Compare_int_int a_s1 a_s2 = some R) :
   Fw.Spec Tryz.prog 149 [v0_0.v, v1_0.v] [crd (RdS 3 rdInt) v0_0.v a_s1, crd (RdS 3 rdInt) v1_0.v a_s2] (fun _ : Unit => (.int .i64 R)) (fun _ => []) := by
 refine Se 36 Tryz.func149 [.tmp 4] ?_
 intro H0 F0
 unfold g_slices_Compare_int_int at hF
 iterate 9 refine au ?_
 refine CW_block (CW_loop (m := a_s1.length) (fun m2 f' cs' => ∃ (g : Fr) (k4 : Nat) (rest5 : List Int), m2 = rest5.length ∧ f' = updL g [(0, v0_0.v), (1, v1_0.v), (9, v0_0.v), (10, (.int .i64 (a_s1.length : Int))), (11, (.int .i64 (k4 : Int)))] ∧ List.drop k4 a_s1 = rest5 ∧ Ent cs' [crd (RdS 3 rdInt) v0_0.v a_s1, crd (RdS 3 rdInt) v1_0.v a_s2] ∧ g_slices_Compare_int_int_L1 a_s1 a_s2 rest5 k4 = some R) ⟨_, 0, _, rfl, eqA, rfl, entA, hF⟩ ?_)
 rintro m2 _ _ ⟨g3, k4, rest5, rfl, rfl, hd7, hE, hF⟩
 refine Kb hE a_s1 (fun hbd12 => ?_)
 rcases rest5 with _ | ⟨x6, rest5⟩
 · have hk8 := dn hd7
   rw [g_slices_Compare_int_int_L1] at hF
   iterate 4 refine au ?_
   refine CdF ?_
   iterate 12 refine au ?_
   refine Ci hF (fun hb13 hF => ?_) (fun hb13 hF => ?_)
   · iterate 4 refine au ?_
     cases hF
     exact Er ()
   iterate 5 refine au ?_
   cases hF
   exact Er ()
 obtain ⟨hk8, hx9, hd10⟩ := drop_cons hd7
 rw [g_slices_Compare_int_int_L1] at hF
 iterate 4 refine au ?_
 refine CdT ?_
 iterate 4 refine au ?_
 refine Ai hx9 (fun k14 j15 => ?_)
 refine Al ls3_0 ?_
 iterate 10 refine au ?_
 refine Ci hF (fun hb27 hF => ?_) (fun hb27 hF => ?_)
 · iterate 4 refine au ?_
   cases hF
   exact Er ()
 iterate 4 refine au ?_
 refine bnd hF fun x16 hx17 hF => ?_
 obtain ⟨hp18, hx19⟩ := ix_some hx17
 refine Ai hx19 (fun k20 j21 => ?_)
 refine Al ls3_0 ?_
 iterate 5 refine au ?_
 refine bnd hF fun r22 hx23 hF => Cx0 (g_cmp_Compare_int_ok _ _ _ hx23) (fun _ => ?_)
 iterate 6 refine au ?_
 refine Ci hF (fun hb26 hF => ?_) (fun hb26 hF => ?_)
 · iterate 5 refine au ?_
   cases hF
   exact Er ()
 iterate 5 refine au ?_
 rw [wk k4]
 exact ⟨_, Nat.lt_succ_self _, _, k4 + 1, rest5, rfl, eqA, hd10, entA, hF⟩
def g_cmp_Or_int_L1 : List Int → Nat → Option (Int)
 | [], k4 => some 0
 | x6 :: rest5, k4 => if ((x6 : Int) != 0) then (
     some x6)
   else (
     g_cmp_Or_int_L1 rest5 (k4 + 1))
def g_cmp_Or_int (a_vals : List Int) : Option (Int) :=
 g_cmp_Or_int_L1 a_vals 0
theorem g_cmp_Or_int_ok (a_vals : List Int) (v0_0 : Sv) (R : Int) (hF : g_cmp_Or_int a_vals = some R) :
   Fw.Spec Tryz.prog 147 [v0_0.v] [crd (RdS 3 rdInt) v0_0.v a_vals] (fun _ : Unit => (.int .i64 R)) (fun _ => []) := by
 refine Se 18 Tryz.func147 [.tmp 2] ?_
 intro H0 F0
 unfold g_cmp_Or_int at hF
 iterate 12 refine au ?_
 refine CW_block (CW_loop (m := a_vals.length) (fun m2 f' cs' => ∃ (g : Fr) (k4 : Nat) (rest5 : List Int), m2 = rest5.length ∧ f' = updL g [(3, (.int .i64 0)), (6, v0_0.v), (7, (.int .i64 (a_vals.length : Int))), (8, (.int .i64 (k4 : Int)))] ∧ List.drop k4 a_vals = rest5 ∧ Ent cs' [crd (RdS 3 rdInt) v0_0.v a_vals] ∧ g_cmp_Or_int_L1 rest5 k4 = some R) ⟨_, 0, _, rfl, eqA, rfl, entA, hF⟩ ?_)
 rintro m2 _ _ ⟨g3, k4, rest5, rfl, rfl, hd7, hE, hF⟩
 refine Kb hE a_vals (fun hbd12 => ?_)
 rcases rest5 with _ | ⟨x6, rest5⟩
 · have hk8 := dn hd7
   rw [g_cmp_Or_int_L1] at hF
   iterate 4 refine au ?_
   refine CdF ?_
   iterate 9 refine au ?_
   cases hF
   exact Er ()
 obtain ⟨hk8, hx9, hd10⟩ := drop_cons hd7
 rw [g_cmp_Or_int_L1] at hF
 iterate 4 refine au ?_
 refine CdT ?_
 iterate 3 refine au ?_
 refine Ai hx9 (fun k13 j14 => ?_)
 refine Al ls3_0 ?_
 iterate 7 refine au ?_
 refine Ci hF (fun hb16 hF => ?_) (fun hb16 hF => ?_)
 · iterate 5 refine au ?_
   cases hF
   exact Er ()
 iterate 5 refine au ?_
 rw [wk k4]
 exact ⟨_, Nat.lt_succ_self _, _, k4 + 1, rest5, rfl, eqA, hd10, entA, hF⟩
def i_CompareFacts (a_a : Fact) (a_b : Fact) : Option (Int) :=
 (g_cmp_Compare_int a_a.Rel a_b.Rel).bind fun r3 =>
 (g_slices_Compare_int_int a_a.Values a_b.Values).bind fun r6 =>
 (g_cmp_Or_int ([r3, r6] : List Int)).bind fun r10 =>
 some r10
theorem i_CompareFacts_ok (a_a : Fact) (v0_1 : Sv) (a_b : Fact) (v1_1 : Sv) (R : Int) (hF : i_CompareFacts a_a a_b = some R) :
   Fw.Spec Tryz.prog 98 [(.agg [(.int .i64 a_a.Rel), v0_1.v].toArray), (.agg [(.int .i64 a_b.Rel), v1_1.v].toArray)] [crd (RdS 3 rdInt) v0_1.v a_a.Values, crd (RdS 3 rdInt) v1_1.v a_b.Values] (fun _ : Unit => (.int .i64 R)) (fun _ => []) := by
 refine Se 17 Tryz.func98 [.tmp 4] ?_
 intro H0 F0
 unfold i_CompareFacts at hF
 refine au ?_
 refine AbR (fun k1 => ?_)
 refine AbR (fun k2 => ?_)
 iterate 2 refine au ?_
 refine K_draw [0, 1, 2, 3, 5, 6, 7, 8, 4, 9, 10, 11, 12] [0, 1, 0, 4, 15, 0, 32, 0, 128, 511, 1023, 2047, 4095] [4, 9, 11] mixed (by decide +kernel) ?_
 iterate 8 refine du ?_
 refine bnd hF fun r3 hx4 hF => Dx0 (g_cmp_Compare_int_ok _ _ _ hx4) (fun _ => ?_)
 refine bnd hF fun r6 hx7 hF => Dx0 (g_slices_Compare_int_int_ok _ _ _ _ _ hx7) (fun _ => ?_)
 refine D_new rfl .no rfl (fun ha => N_buildSliceT (g := true) (len := 2) (parts := [(0, .tmp 9), (1, .tmp 14)]) sl24.h ty3.h (.cons (EN ha (.tmp rfl rfl) rfl) (.cons (EN ha (.tmp rfl rfl) rfl) .nil)) (vs := [(.int .i64 r3), (.int .i64 r6)]) rfl rfl rfl (by intro v hv; simp at hv; rcases hv with rfl | rfl <;> rfl)) (fun k9 => ?_)
 refine Dv1 (.cons .h .nil) (own_lit (Ro := (roE rdInt)) (E := 3) (F := ([] ++ ([] ++ []))) (xs := ([r3, r6] : List Int)) (MkL_cons (Mk_pure (fun _ => rfl)) (MkL_cons (Mk_pure (fun _ => rfl)) MkL_nil apps) apps) rfl rfl) ?_
 refine bnd hF fun r10 hx11 hF => D_act1 rfl rfl .no (.cons .h .nil) (.dep rfl .nil) (fun ha => XC_bor frz_own (fun _ => .nil) (X_callS cf147.h (.cons (EN ha (.tmp rfl rfl) rfl) .nil) (g_cmp_Or_int_ok ([r3, r6] : List Int) (⟨(some ⟨k9, 0, none⟩), 2, 1⟩) _ hx11))) (fun _ => ?_)
 iterate 2 refine du ?_
 refine au ?_
 cases hF
 exact Er ()
def i_AreFacts_L1 (a_s : List Int) (a_l : List Fact) : List Fact → Nat → Option (Bool)
 | [], k4 => ((i_IsSchema a_s).bind fun r15 =>
     bif r15 then (some (decide (((a_l.length : Int) : Int) ≤ 24)))
     else (some false)).bind fun o13 =>
   match o13 with
   | c19 => some c19
 | x6 :: rest5, k4 => ((i_IsFact a_s x6).bind fun r27 =>
     bif (!r27) then (some true)
     else (bif (decide ((0 : Int) < (k4 : Int))) then ((ix a_l (IntKind.i64.wrap ((k4 : Int) - 1))).bind fun x32 =>
         (i_CompareFacts x32 x6).bind fun r39 =>
         some (decide ((0 : Int) ≤ r39)))
       else (some false))).bind fun o25 =>
   match o25 with
   | c42 => if c42 then (
       some false)
     else (
       i_AreFacts_L1 a_s a_l rest5 (k4 + 1))
def i_AreFacts (a_s : List Int) (a_l : List Fact) : Option (Bool) :=
 i_AreFacts_L1 a_s a_l a_l 0
theorem i_AreFacts_ok (a_s : List Int) (v0_0 : Sv) (a_l : List Fact) (v1_0 : Sv) (R : Bool) (hF : i_AreFacts a_s a_l = some R) :
   Fw.Spec Tryz.prog 60 [v0_0.v, v1_0.v] [crd (RdS 3 rdInt) v0_0.v a_s, crd (RdS 58 rd58) v1_0.v a_l] (fun _ : Unit => (.bool R)) (fun _ => []) := by
 refine Se 40 Tryz.func60 [.tmp 4] ?_
 intro H0 F0
 unfold i_AreFacts at hF
 iterate 9 refine au ?_
 refine CW_block (CW_loop (m := a_l.length) (fun m2 f' cs' => ∃ (g : Fr) (k4 : Nat) (rest5 : List Fact), m2 = rest5.length ∧ f' = updL g [(0, v0_0.v), (1, v1_0.v), (7, v1_0.v), (8, (.int .i64 (a_l.length : Int))), (9, (.int .i64 (k4 : Int)))] ∧ List.drop k4 a_l = rest5 ∧ Ent cs' [crd (RdS 3 rdInt) v0_0.v a_s, crd (RdS 58 rd58) v1_0.v a_l] ∧ i_AreFacts_L1 a_s a_l rest5 k4 = some R) ⟨_, 0, _, rfl, eqA, rfl, entA, hF⟩ ?_)
 rintro m2 _ _ ⟨g3, k4, rest5, rfl, rfl, hd7, hE, hF⟩
 refine Kb hE a_l (fun hbd12 => ?_)
 rcases rest5 with _ | ⟨x6, rest5⟩
 · have hk8 := dn hd7
   rw [i_AreFacts_L1] at hF
   iterate 4 refine au ?_
   refine CdF ?_
   iterate 4 refine au ?_
   obtain ⟨o13, hio13, hO14⟩ := bind_some hF
   refine au ?_
   refine C_cut (fun f' cs' => ∃ (c19 : Bool) (g : Fr), c19 = o13 ∧ f' = updL g [(4, (.bool c19))] ∧ Ent cs' []) ?_ ?_
   · replace hF := hio13
     refine au ?_
     refine bnd hF fun r15 hx16 hF => Cx0 (i_IsSchema_ok _ _ _ hx16) (fun _ => ?_)
     refine au ?_
     rcases Bool.eq_false_or_eq_true r15 with hg18 | hg18
     · rw [hg18]
       try rw [hg18] at hF; dsimp only [cond_true, cond_false] at hF
       iterate 9 refine au ?_
       cases hF
       exact ⟨_, _, rfl, eqA, entA⟩
     rw [hg18]
     try rw [hg18] at hF; dsimp only [cond_true, cond_false] at hF
     iterate 6 refine au ?_
     cases hF
     exact ⟨_, _, rfl, eqA, entA⟩
   rintro _ _ ⟨c19, g20, rfl, rfl, hE⟩
   replace hF := hO14
   try dsimp only at hF
   refine K_ent hE ?_
   refine au ?_
   cases hF
   exact Er ()
 obtain ⟨hk8, hx9, hd10⟩ := drop_cons hd7
 rw [i_AreFacts_L1] at hF
 iterate 4 refine au ?_
 refine CdT ?_
 iterate 4 refine au ?_
 refine Ai hx9 (fun k21 j22 => ?_)
 refine AlA1 (ul58_0_58 x6) la58_0_58 (fun p23 => ?_)
 refine AnW (fun k24 => ?_)
 refine au ?_
 refine As (.agg [(.int .i64 x6.Rel), p23.v].toArray) ?_
 refine au ?_
 obtain ⟨o25, hio25, hO26⟩ := bind_some hF
 refine K_draw [0, 1, 2, 3, 4, 5, 6, 7, 8, 9, 10, 11, 12, 13, 14, 15, 16, 17] [0, 0, 3, 7, 15, 31, 63, 127, 255, 255, 767, 2047, 4095, 255, 16383, 32767, 65535, 131071] [2, 14] mixed (by decide +kernel) ?_
 refine D_cut (fun f' cs' => ∃ (c42 : Bool) (g : Fr), c42 = o25 ∧ f' = updL g [(0, v0_0.v), (1, v1_0.v), (7, v1_0.v), (8, (.int .i64 (a_l.length : Int))), (9, (.int .i64 (k4 : Int))), (31, (.bool c42))] ∧ Ent cs' [crd (RdS 3 rdInt) v0_0.v a_s, crd (RdS 58 rd58) v1_0.v a_l]) ?_ ?_
 · replace hF := hio25
   refine du ?_
   refine D_atO rfl .no .h (fun ha hp => V_loadBox ag58.h ty58.h.sz rfl (EN ha (.tmp rfl rfl) rfl) hp.2 rfl) ?_
   refine bnd hF fun r27 hx28 hF => Dx0 (i_IsFact_ok _ _ _ _ _ hx28) (fun _ => ?_)
   iterate 2 refine du ?_
   rcases Bool.eq_false_or_eq_true (!r27) with hg30 | hg30
   · rw [hg30]
     try rw [hg30] at hF; dsimp only [cond_true, cond_false] at hF
     iterate 14 refine du ?_
     cases hF
     exact ⟨_, _, rfl, eqA, entA⟩
   rw [hg30]
   try rw [hg30] at hF; dsimp only [cond_true, cond_false] at hF
   iterate 3 refine du ?_
   rcases Bool.eq_false_or_eq_true (decide ((0 : Int) < (k4 : Int))) with hg31 | hg31
   · rw [hg31]
     try rw [hg31] at hF; dsimp only [cond_true, cond_false] at hF
     iterate 3 refine du ?_
     refine bnd hF fun x32 hx33 hF => ?_
     obtain ⟨hp34, hx35⟩ := ix_some hx33
     refine Di hx35 (fun k36 j37 => ?_)
     refine DlA1 (ul58_0_58 x32) la58_0_58 (fun p38 => ?_)
     refine D_atO rfl (.on 21 rfl rfl rfl) (.t (.t .h)) (fun ha hp => V_loadBox ag58.h ty58.h.sz rfl (EN ha (.tmp rfl rfl) rfl) hp.2 rfl) ?_
     refine bnd hF fun r39 hx40 hF => Dx0 (i_CompareFacts_ok _ _ _ _ _ hx40) (fun _ => ?_)
     iterate 4 refine du ?_
     cases hF
     exact ⟨_, _, rfl, eqA, entA⟩
   rw [hg31]
   try rw [hg31] at hF; dsimp only [cond_true, cond_false] at hF
   iterate 11 refine du ?_
   cases hF
   exact ⟨_, _, rfl, eqA, entA⟩
 rintro _ _ ⟨c42, g45, rfl, rfl, hE⟩
 replace hF := hO26
 try dsimp only at hF
 refine K_ent hE ?_
 refine Ci hF (fun hb44 hF => ?_) (fun hb44 hF => ?_)
 · iterate 4 refine au ?_
   cases hF
   exact Er ()
 iterate 5 refine au ?_
 rw [wk k4]
 exact ⟨_, Nat.lt_succ_self _, _, k4 + 1, rest5, rfl, eqA, hd10, entA, hF⟩
def g_slices_Grow_int_int_nil (a_n : Int) : Option (List Int) :=
 if 0 ≤ a_n ∧ a_n < 4294967296 then some [] else none
theorem g_slices_Grow_int_int_nil_ok (a_n : Int) (R : List Int) (hF : g_slices_Grow_int_int_nil a_n = some R) :
   Fw.Spec Tryz.prog 177 [(.slice none 0 0), .int .i64 a_n] [] (fun p : Sv × List Nat => p.1.v) (fun p => [cown (OwnS 3 (roE rdInt)) p.2 p.1.v R]) := by
 unfold g_slices_Grow_int_int_nil at hF
 split at hF
 · rename_i h
   obtain ⟨h0, h1⟩ := h
   cases hF
   obtain ⟨q, rfl⟩ : ∃ q : Nat, a_n = (q : Int) := ⟨a_n.toNat, by omega⟩
   have w0 : IntKind.i64.wrap ((0 : Int) - ((0 : Nat) : Int)) = 0 := by decide
   have w1 : IntKind.i64.wrap ((q : Int) - 0) = (q : Int) := by rw [wrap_in (by omega) (by omega)]; omega
   refine Spec_enter (n := 27) Tryz.func177 rfl rfl (rs := [.tmp 4]) rfl rfl rfl ?_
   intro H0 F0
   iterate 8 refine au ?_
   refine CW_cond (b := (decide ((q : Int) < 0))) (.tmp rfl rfl) (fun hb => absurd hb (by simp only [decide_eq_true_eq]; omega)) (fun _ => ?_)
   iterate 5 refine au ?_
   refine C_val (V_capNil sl24.h (.tmp rfl rfl)) ?_
   refine au ?_
   refine C_val (V_lenR (l := 0) sl24.h (.tmp rfl rfl) ⟨none, 0, rfl⟩) ?_
   refine au ?_
   rw [w0]
   refine au ?_
   rw [w1]
   iterate 6 refine au ?_
   refine CW_cond (b := (decide ((0 : Int) < (q : Int)))) (.tmp rfl rfl) (fun hb => ?_) (fun hb => ?_)
   · have hq : 0 < q := by simp only [decide_eq_true_eq] at hb; omega
     iterate 3 refine au ?_
     refine C_val (V_capNil sl24.h (.tmp rfl rfl)) ?_
     refine C_val (V_sliceNilHi sl24.h ty3.h.sz (.tmp rfl rfl) (.tmp rfl rfl)) ?_
     refine au ?_
     refine C_x1 .nil (X_growNil (Ro := (roE rdInt)) (E := 3) sl24.h ik3 ty3.h rfl rfl rfl (by exact .tmp rfl rfl) (by exact .tmp rfl rfl) hq (by omega)) (fun k => ?_)
     refine au ?_
     refine C_val (V_lenR (l := 0) sl24.h (.tmp rfl rfl) ⟨none, 0, rfl⟩) ?_
     refine C_sliceHiD (i := ((0 : Nat) : Int)) sl24.h ty3.h.sz (by exact .tmp rfl rfl) (.inr rfl) (by exact .tmp rfl rfl) .h rfl (by omega) (by omega) (by omega) ?_
     iterate 7 refine au ?_
     exact End_ret (⟨some ⟨k, 0, none⟩, 0, 2⟩, [k]) (.tmp rfl rfl .nil) rfl (.sel (.cons .h .nil))
   · iterate 6 refine au ?_
     exact End_ret (⟨none, 0, 0⟩, []) (.tmp rfl rfl .nil) rfl (.conv .nil (own_nil (Ro := (roE rdInt)) (E := 3)) (.cons .nil) (.sel (.cons .h .nil)))
 · simp at hF
def g_slices_Concat_int_int_L2 : List (List Int) → Nat → (List Int) → Option ((List Int))
 | [], k23, c17 => some c17
 | x25 :: rest24, k23, c17 => (app c17 x25).bind fun z35 =>
   g_slices_Concat_int_int_L2 rest24 (k23 + 1) z35
def g_slices_Concat_int_int_L1 (a_slices : List (List Int)) : List (List Int) → Nat → Int → Option ((List Int))
 | [], k5, c1 => (g_slices_Grow_int_int_nil c1).bind fun r14 =>
   g_slices_Concat_int_int_L2 a_slices 0 r14
 | x7 :: rest6, k5, c1 => (if (decide (((IntKind.i64.wrap (c1 + (x7.length : Int))) : Int) < 0)) then (
       none)
     else (
       some ())).bind fun o39 =>
   match o39 with
   | _ => g_slices_Concat_int_int_L1 a_slices rest6 (k5 + 1) (IntKind.i64.wrap (c1 + (x7.length : Int)))
def g_slices_Concat_int_int (a_slices : List (List Int)) : Option ((List Int)) :=
 g_slices_Concat_int_int_L1 a_slices a_slices 0 0
theorem g_slices_Concat_int_int_ok (a_slices : List (List Int)) (v0_0 : Sv) (R : (List Int)) (hF : g_slices_Concat_int_int a_slices = some R) :
   Fw.Spec Tryz.prog 142 [v0_0.v] [crd (RdS 24 (RdS 3 rdInt)) v0_0.v a_slices] (fun p : Sv × List Nat => p.1.v) (fun p => [cown (OwnS 3 (roE rdInt)) p.2 p.1.v R]) := by
 refine Se 36 Tryz.func142 [.tmp 2] ?_
 intro H0 F0
 unfold g_slices_Concat_int_int at hF
 iterate 12 refine au ?_
 refine CW_block (CW_loop (m := a_slices.length) (fun m3 f' cs' => ∃ (g : Fr) (k5 : Nat) (rest6 : List (List Int)) (c1 : Int), m3 = rest6.length ∧ f' = updL g [(0, v0_0.v), (3, (.int .i64 c1)), (9, v0_0.v), (10, (.int .i64 (a_slices.length : Int))), (11, (.int .i64 (k5 : Int)))] ∧ List.drop k5 a_slices = rest6 ∧ Ent cs' [crd (RdS 24 (RdS 3 rdInt)) v0_0.v a_slices] ∧ g_slices_Concat_int_int_L1 a_slices rest6 k5 c1 = some R) ⟨_, 0, _, _, rfl, eqA, rfl, entA, hF⟩ ?_)
 rintro m3 _ _ ⟨g4, k5, rest6, c1, rfl, rfl, hd8, hE, hF⟩
 refine Kb hE a_slices (fun hbd13 => ?_)
 rcases rest6 with _ | ⟨x7, rest6⟩
 · have hk9 := dn hd8
   rw [g_slices_Concat_int_int_L1] at hF
   iterate 4 refine au ?_
   refine CdF ?_
   iterate 6 refine au ?_
   refine bnd hF fun r14 hx15 hF => Cx1 (g_slices_Grow_int_int_nil_ok _ _ hx15) (fun p16 => ?_)
   iterate 8 refine au ?_
   refine CW_block (CW_loop (m := a_slices.length) (fun m21 f' cs' => ∃ (g : Fr) (k23 : Nat) (rest24 : List (List Int)) (c17 : List Int) (v18 : Sv) (F19 : List Nat), m21 = rest24.length ∧ f' = updL g [(6, v18.v), (25, v0_0.v), (26, (.int .i64 (a_slices.length : Int))), (27, (.int .i64 (k23 : Int)))] ∧ List.drop k23 a_slices = rest24 ∧ Ent cs' [cown (OwnS 3 (roE rdInt)) F19 v18.v c17, crd (RdS 24 (RdS 3 rdInt)) v0_0.v a_slices] ∧ g_slices_Concat_int_int_L2 rest24 k23 c17 = some R) ⟨_, 0, _, _, p16.1, p16.2, rfl, eqA, rfl, entA, hF⟩ ?_)
   rintro m21 _ _ ⟨g22, k23, rest24, c17, v18, F19, rfl, rfl, hd26, hE, hF⟩
   refine Kb hE a_slices (fun hbd31 => ?_)
   rcases rest24 with _ | ⟨x25, rest24⟩
   · have hk27 := dn hd26
     rw [g_slices_Concat_int_int_L2] at hF
     iterate 4 refine au ?_
     refine CdF ?_
     iterate 9 refine au ?_
     cases hF
     exact Er (v18, F19)
   obtain ⟨hk27, hx28, hd29⟩ := drop_cons hd26
   rw [g_slices_Concat_int_int_L2] at hF
   iterate 4 refine au ?_
   refine CdT ?_
   iterate 3 refine au ?_
   refine Ai hx28 (fun k32 j33 => ?_)
   refine C_ldV (R' := (RdS 3 rdInt)) ag24.h (.tmp rfl rfl) .h lv24_0 (fun w34 => ?_)
   iterate 5 refine au ?_
   refine bnd hF fun z35 hx36 hF => C_x1 (.cons (.t (.t .h)) (.rd .h rfl .nil)) (X_appendO (Ro := (roE rdInt)) sl24.h ni24 ty3.h rfl rfl rfl (.tmp rfl rfl) (.tmp rfl rfl) hx36 src_rd) (fun p37 => ?_)
   iterate 6 refine au ?_
   rw [wk k23]
   exact ⟨_, Nat.lt_succ_self _, _, k23 + 1, rest24, _, p37.1, p37.2, rfl, eqA, hd29, entA, hF⟩
 obtain ⟨hk9, hx10, hd11⟩ := drop_cons hd8
 rw [g_slices_Concat_int_int_L1] at hF
 iterate 4 refine au ?_
 refine CdT ?_
 refine au ?_
 obtain ⟨o39, hio39, hO40⟩ := bind_some hF
 refine K_cut (fun f' cs' => ∃ (g : Fr), o39 = () ∧ f' = updL g [(0, v0_0.v), (3, (.int .i64 (IntKind.i64.wrap (c1 + (x7.length : Int))))), (9, v0_0.v), (10, (.int .i64 (a_slices.length : Int))), (11, (.int .i64 (k5 : Int)))] ∧ Ent cs' [crd (RdS 24 (RdS 3 rdInt)) v0_0.v a_slices]) ?_ ?_
 · replace hF := hio39
   refine CW_block (K_region (C_idx (a := x7) sl38.h ty24.h.sz (.tmp rfl rfl) (.tmp rfl rfl) .h (Int.natCast_nonneg k5) hx10 (fun k41 j42 => ?_)))
   refine C_ldV (R' := (RdS 3 rdInt)) ag24.h (.tmp rfl rfl) .h lv24_0 (fun w43 => ?_)
   iterate 13 refine au ?_
   refine Ci hF (fun hb44 hF => ?_) (fun hb44 hF => ?_)
   · exact absurd hF (by simp)
   refine au ?_
   cases hF
   exact ⟨_, rfl, eqA, entA⟩
 rintro _ _ ⟨g46, rfl, rfl, hE⟩
 replace hF := hO40
 try dsimp only at hF
 refine K_ent hE ?_
 iterate 4 refine au ?_
 rw [wk k5]
 exact ⟨_, Nat.lt_succ_self _, _, k5 + 1, rest6, _, rfl, eqA, hd11, entA, hF⟩
def g_slices_Sort_int_int (a_x : List Int) : Option (List Int) :=
 some (a_x.mergeSort fun x y => decide (x ≤ y))
theorem g_slices_Sort_int_int_ok (a_x : List Int) (v0_0 : Sv) (F0_0 : List Nat) (R : List Int) (hF : g_slices_Sort_int_int a_x = some R) :
   Fw.Spec Tryz.prog 143 [v0_0.v] [cown (OwnS 3 (roE rdInt)) F0_0 v0_0.v a_x] (fun _ : List Nat => (.tuple [].toArray)) (fun p => [cown (OwnS 3 (roE rdInt)) p v0_0.v R]) := by
 cases hF
 exact Spec_sort ty3.h (Go.Proofs.Any.slices_Sort_int_none lays189) (Go.Proofs.Any.slices_Sort_int lays189)
def g_slices_Compact_int_int (a_x : List Int) : Option (List Int) :=
 some (Lib.compact a_x)
theorem g_slices_Compact_int_int_ok (a_x : List Int) (v0_0 : Sv) (F0_0 : List Nat) (R : List Int) (hF : g_slices_Compact_int_int a_x = some R) :
   Fw.Spec Tryz.prog 144 [v0_0.v] [cown (OwnS 3 (roE rdInt)) F0_0 v0_0.v a_x] (fun p : Sv × List Nat => p.1.v) (fun p => [cown (OwnS 3 (roE rdInt)) p.2 p.1.v R]) := by
 cases hF
 exact Spec_compact ty3.h compact_le rfl (Go.Proofs.Any.slices_Compact_int_empty lays2020) (Go.Proofs.Any.slices_Compact_int lays2020)
def i_withValues_L1 (r3 : (List Int)) : Nat → (List Int) → Int → Option ((List Int))
 | 0, _, _ => none
 | m10 + 1, c6, c9 => if (decide ((c9 : Int) < (r3.length : Int))) then (
     ((ix r3 c9).bind fun x23 =>
       (i_isValue x23).bind fun r27 =>
       if r27 then (
         (app c6 ([x23] : List Int)).bind fun z31 =>
         some z31)
       else (
         some c6)).bind fun o18 =>
     match o18 with
     | c35 => i_withValues_L1 r3 m10 c35 (IntKind.i64.wrap (c9 + 1)))
   else (
     (g_slices_Sort_int_int c6).bind fun r39 =>
     (g_slices_Compact_int_int r39).bind fun r42 =>
     some r42)
def i_withValues (a_l : List Int) (a_more : List Int) : Option ((List Int)) :=
 (g_slices_Concat_int_int ([a_l, a_more] : List (List Int))).bind fun r3 =>
 i_withValues_L1 r3 (((r3.length : Int) - 0).toNat + 2) ([] : List Int) 0
theorem i_withValues_ok (a_l : List Int) (v0_0 : Sv) (a_more : List Int) (v1_0 : Sv) (R : (List Int)) (hF : i_withValues a_l a_more = some R) :
   Fw.Spec Tryz.prog 88 [v0_0.v, v1_0.v] [crd (RdS 3 rdInt) v0_0.v a_l, crd (RdS 3 rdInt) v1_0.v a_more] (fun p : Sv × List Nat => p.1.v) (fun p => [cown (OwnS 3 (roE rdInt)) p.2 p.1.v R]) := by
 refine Se 29 Tryz.func88 [.tmp 4] ?_
 intro H0 F0
 unfold i_withValues at hF
 iterate 4 refine au ?_
 refine C_new rfl (N_buildSliceT (g := true) sl24.h ty3.h .nil (vs := []) rfl rfl rfl (by simp)) (fun k1 => ?_)
 refine Cv1 (.cons .h .nil) (own_lit (Ro := (roE rdInt)) (E := 3) (F := []) (xs := ([] : List Int)) MkL_nil rfl rfl) ?_
 iterate 6 refine au ?_
 refine C_new rfl (N_buildSliceT (g := true) sl38.h ty24.h (.cons (.tmp rfl rfl) (.cons (.tmp rfl rfl) .nil)) (vs := [v0_0.v, v1_0.v]) rfl rfl rfl (by intro v hv; simp at hv; rcases hv with rfl | rfl <;> rfl)) (fun k2 => ?_)
 refine Cv1 (.cons .h (.rd (.t .h) rfl (.rd (.t (.t .h)) rfl .nil))) (own_lit (Ro := (roE (RdS 3 rdInt))) (E := 24) (F := ([] ++ ([] ++ []))) (xs := ([a_l, a_more] : List (List Int))) (MkL_cons Mk_rd (MkL_cons Mk_rd MkL_nil apps) apps) rfl rfl) ?_
 refine bnd hF fun r3 hx4 hF => C_x2 (.cons .h .nil) (XC_bor frz_own (fun _ => (.cons .nil)) (X_callS cf142.h (.cons (.tmp rfl rfl) .nil) (g_slices_Concat_int_int_ok ([a_l, a_more] : List (List Int)) (⟨(some ⟨k2, 0, none⟩), 2, 1⟩) _ hx4))) (fun p5 => ?_)
 iterate 3 refine au ?_
 refine CW_block (CW_loop (m := (((r3.length : Int) - 0).toNat + 2)) (fun m10 f' cs' => ∃ (g : Fr) (c6 : List Int) (c9 : Int) (v7 : Sv) (F8 : List Nat), f' = updL g [(5, v7.v), (12, p5.1.v), (13, (.int .i64 (r3.length : Int))), (14, (.int .i64 c9))] ∧ Ent cs' [cown (OwnS 3 (roE rdInt)) F8 v7.v c6, cown (OwnS 3 (roE rdInt)) p5.2 p5.1.v r3] ∧ i_withValues_L1 r3 m10 c6 c9 = some R) ⟨_, _, _, ⟨(some ⟨k1, 0, none⟩), 0, 1⟩, (k1 :: []), eqA, entA, hF⟩ ?_)
 rintro m10 _ _ ⟨g11, c6, c9, v7, F8, rfl, hE, hF⟩
 refine K_ent hE ?_
 rcases m10 with _ | m10
 · rw [i_withValues_L1] at hF
   exact absurd hF (by simp)
 rw [i_withValues_L1] at hF
 iterate 4 refine au ?_
 refine Ci hF (fun hb45 hF => ?_) (fun hb45 hF => ?_)
 · refine au ?_
   obtain ⟨o18, hio18, hO19⟩ := bind_some hF
   refine K_cut (fun f' cs' => ∃ (c35 : List Int) (v36 : Sv) (F37 : List Nat) (g : Fr), c35 = o18 ∧ f' = updL g [(5, v36.v), (12, p5.1.v), (13, (.int .i64 (r3.length : Int))), (14, (.int .i64 c9))] ∧ Ent cs' [cown (OwnS 3 (roE rdInt)) F37 v36.v c35, cown (OwnS 3 (roE rdInt)) p5.2 p5.1.v r3]) ?_ ?_
   · replace hF := hio18
     refine CW_block (K_region ?_)
     refine bnd hF fun x23 hx24 hF => ?_
     have hi22 := ix_chk hx24
     obtain ⟨hp25, hx26⟩ := ix_some hx24
     refine C_idxO sl24.h ty3.h.sz (.tmp rfl rfl) (.tmp rfl rfl) (.t .h) hi22 (fun k20 hk21 => ?_)
     refine C_ldO (w := (.int .i64 x23)) ag3.h (.tmp rfl rfl) (.t .h) hk21 hx26 lo3_0 ?_
     iterate 4 refine au ?_
     refine bnd hF fun r27 hx28 hF => Cx0 (i_isValue_ok _ _ hx28) (fun _ => ?_)
     refine au ?_
     refine Ci hF (fun hb34 hF => ?_) (fun hb34 hF => ?_)
     · iterate 3 refine au ?_
       refine C_new rfl (N_buildSliceT (g := true) sl24.h ty3.h (.cons (.tmp rfl rfl) .nil) (vs := [(.int .i64 x23)]) rfl rfl rfl (by intro v hv; simp at hv; rcases hv with rfl <;> rfl)) (fun k30 => ?_)
       refine Cv1 (.cons .h .nil) (own_lit (Ro := (roE rdInt)) (E := 3) (F := ([] ++ [])) (xs := ([x23] : List Int)) (MkL_cons (Mk_pure (fun _ => rfl)) MkL_nil apps) rfl rfl) ?_
       refine bnd hF fun z31 hx32 hF => C_x1 (.cons (.t .h) (.cons .h .nil)) (X_appendO (Ro := (roE rdInt)) sl24.h ni24 ty3.h rfl rfl rfl (.tmp rfl rfl) (.tmp rfl rfl) hx32 src_own) (fun p33 => ?_)
       iterate 2 refine au ?_
       cases hF
       exact ⟨_, p33.1, p33.2, _, rfl, eqA, entA⟩
     refine au ?_
     cases hF
     exact ⟨_, v7, F8, _, rfl, eqA, entA⟩
   rintro _ _ ⟨c35, v36, F37, g38, rfl, rfl, hE⟩
   replace hF := hO19
   try dsimp only at hF
   refine K_ent hE ?_
   iterate 4 refine au ?_
   exact ⟨m10, Nat.lt_succ_self _, _, _, _, v36, F37, eqA, entA, hF⟩
 iterate 6 refine au ?_
 refine bnd hF fun r39 hx40 hF => Cx1 (g_slices_Sort_int_int_ok _ _ _ _ hx40) (fun p41 => ?_)
 iterate 3 refine au ?_
 refine bnd hF fun r42 hx43 hF => Cx1 (g_slices_Compact_int_int_ok _ _ _ _ hx43) (fun p44 => ?_)
 iterate 3 refine au ?_
 cases hF
 exact Er (p44.1, p44.2)
def i_StartReach (a_seeds : List Int) : Option (Reached) :=
 (i_withValues a_seeds []).bind fun r2 =>
 some ({ Facts := [], Values := r2, Log := [], Rounds := 0 } : Reached)
theorem i_StartReach_ok (a_seeds : List Int) (v0_0 : Sv) (R : Reached) (hF : i_StartReach a_seeds = some R) :
   Fw.Spec Tryz.prog 38 [v0_0.v] [crd (RdS 3 rdInt) v0_0.v a_seeds] (fun p : Sv × List Nat × Sv × List Nat × Sv × List Nat => (.agg [p.1.v, p.2.2.1.v, p.2.2.2.2.1.v, (.int .i64 R.Rounds)].toArray)) (fun p => [cown (OwnS 58 ow58) p.2.1 p.1.v R.Facts, cown (OwnS 3 (roE rdInt)) p.2.2.2.1 p.2.2.1.v R.Values, cown (OwnS 54 ow54) p.2.2.2.2.2 p.2.2.2.2.1.v R.Log]) := by
 refine Se 6 Tryz.func38 [.cell 2 46] ?_
 intro H0 F0
 unfold i_StartReach at hF
 refine au ?_
 refine AnW (fun k1 => ?_)
 iterate 3 refine au ?_
 refine Cv1 .nil (rd_nil (R := rdInt) (E := 3)) ?_
 refine bnd hF fun r2 hx3 hF => Cx1 (i_withValues_ok _ _ _ (⟨none, 0, 0⟩) _ hx3) (fun p4 => ?_)
 refine C_val (V_build ty46.h rfl (vs := [p4.1.v]) (.cons (.tmp rfl rfl) .nil) (cells := [(.slice none 0 0), p4.1.v, (.slice none 0 0), (.int .i64 0)]) rfl) ?_
 refine As (.agg [(.slice none 0 0), p4.1.v, (.slice none 0 0), (.int .i64 0)].toArray) ?_
 iterate 2 refine au ?_
 cases hF
 exact End_ret (⟨none, 0, 0⟩, [], p4.1, p4.2, ⟨none, 0, 0⟩, []) (.cellA rfl rfl .h rfl ag46.h ty46.h.sz rfl rfl .nil) rfl (.conv .nil (own_nil (Ro := ow58) (E := 58)) (.cons .nil) (.conv .nil (own_nil (Ro := ow54) (E := 54)) (.cons .nil) (.sel (.cons (.t .h) (.cons (.t (.t .h)) (.cons .h .nil))))))
def g_slices_Clone_int_int (a_s : List Int) : Option ((List Int)) :=
 (app ([] : List Int) a_s).bind fun z5 =>
 some z5
theorem g_slices_Clone_int_int_ok (a_s : List Int) (v0_0 : Sv) (R : (List Int)) (hF : g_slices_Clone_int_int a_s = some R) :
   Fw.Spec Tryz.prog 101 [v0_0.v] [crd (RdS 3 rdInt) v0_0.v a_s] (fun p : Sv × List Nat => p.1.v) (fun p => [cown (OwnS 3 (roE rdInt)) p.2 p.1.v R]) := by
 refine Se 8 Tryz.func101 [.tmp 2] ?_
 intro H0 F0
 unfold g_slices_Clone_int_int at hF
 iterate 6 refine au ?_
 refine C_eqNil (xs := a_s) sl24.h (.tmp rfl rfl) .h crd_nilc (fun bn1 hn2 => ?_)
 refine au ?_
 refine Cc (fun hb3 => ?_) (fun hb3 => ?_)
 · have hnil := hn2 hb3
   replace hF : some [] = some R := by rw [hnil] at hF; simpa [app] using hF
   iterate 4 refine au ?_
   cases hF
   exact End_ret (⟨none, 0, 0⟩, []) (.tmp rfl rfl .nil) rfl (.conv .nil (own_nil (Ro := (roE rdInt)) (E := 3)) (.cons .nil) (.sel (.cons .h .nil)))
 iterate 2 refine au ?_
 refine C_new rfl (N_buildSliceT (g := true) sl24.h ty3.h .nil (vs := []) rfl rfl rfl (by simp)) (fun k4 => ?_)
 refine Cv1 (.cons .h .nil) (own_lit (Ro := (roE rdInt)) (E := 3) (F := []) (xs := ([] : List Int)) MkL_nil rfl rfl) ?_
 refine au ?_
 refine bnd hF fun z5 hx6 hF => C_x1 (.cons .h (.rd .h rfl .nil)) (X_appendO (Ro := (roE rdInt)) sl24.h ni24 ty3.h rfl rfl rfl (.tmp rfl rfl) (.tmp rfl rfl) hx6 src_rd) (fun p7 => ?_)
 iterate 3 refine au ?_
 cases hF
 exact Er (p7.1, p7.2)
def i_lists_L4 (x79 : List Int) : List Int → Nat → (List (List Int)) → Option ((List (List Int)))
 | [], k97, c91 => some c91
 | x99 :: rest98, k97, c91 => (g_slices_Clone_int_int x79).bind fun r108 =>
   (app r108 ([x99] : List Int)).bind fun z112 =>
   (app c91 ([z112] : List (List Int))).bind fun z116 =>
   i_lists_L4 x79 rest98 (k97 + 1) z116
def i_lists_L2 (a_values : List Int) : List (List Int) → Nat → (List (List Int)) → Option ((List (List Int)))
 | [], k77, c71 => some c71
 | x79 :: rest78, k77, c71 => (i_lists_L4 x79 a_values 0 c71).bind fun o86 =>
   match o86 with
   | c120 => i_lists_L2 a_values rest78 (k77 + 1) c120
def i_lists_L1 (a_values : List Int) (a_n : Int) : Nat → (List (List Int)) → Int → Option ((List (List Int)))
 | 0, _, _ => none
 | m7 + 1, c3, c6 => if (decide ((c6 : Int) < a_n)) then (
     (i_lists_L2 a_values c3 0 ([] : List (List Int))).bind fun o15 =>
     match o15 with
     | c125 => i_lists_L1 a_values a_n m7 c125 (IntKind.i64.wrap (c6 + 1)))
   else (
     some c3)
def i_lists (a_values : List Int) (a_n : Int) : Option ((List (List Int))) :=
 i_lists_L1 a_values a_n ((a_n - 0).toNat + 2) ([([] : List Int)] : List (List Int)) 0
theorem i_lists_ok (a_values : List Int) (v0_0 : Sv) (a_n : Int) (R : (List (List Int))) (hF : i_lists a_values a_n = some R) :
   Fw.Spec Tryz.prog 125 [v0_0.v, (.int .i64 a_n)] [crd (RdS 3 rdInt) v0_0.v a_values] (fun p : Sv × List Nat => p.1.v) (fun p => [cown (OwnS 24 (OwnS 3 (roE rdInt))) p.2 p.1.v R]) := by
 refine Se 42 Tryz.func125 [.tmp 4] ?_
 intro H0 F0
 unfold i_lists at hF
 iterate 4 refine au ?_
 refine C_new rfl (N_buildSliceT (g := true) sl24.h ty3.h .nil (vs := []) rfl rfl rfl (by simp)) (fun k1 => ?_)
 refine Cv1 (.cons .h .nil) (own_lit (Ro := (roE rdInt)) (E := 3) (F := []) (xs := ([] : List Int)) MkL_nil rfl rfl) ?_
 refine C_new rfl (N_buildSliceT (g := true) sl38.h ty24.h (.cons (.tmp rfl rfl) .nil) (vs := [(.slice (some ⟨k1, 0, none⟩) 0 1)]) rfl rfl rfl (by intro v hv; simp at hv; rcases hv with rfl <;> rfl)) (fun k2 => ?_)
 refine Cv1 (.cons .h (.cons .h .nil)) (own_lit (Ro := (OwnS 3 (roE rdInt))) (E := 24) (F := ((k1 :: []) ++ [])) (xs := ([([] : List Int)] : List (List Int))) (MkL_cons Mk_own MkL_nil apps) rfl rfl) ?_
 iterate 7 refine au ?_
 refine CW_block (CW_loop (m := ((a_n - 0).toNat + 2)) (fun m7 f' cs' => ∃ (g : Fr) (c3 : List (List Int)) (c6 : Int) (v4 : Sv) (F5 : List Nat), f' = updL g [(0, v0_0.v), (5, v4.v), (13, (.int .i64 a_n)), (14, (.int .i64 c6))] ∧ Ent cs' [crd (RdS 3 rdInt) v0_0.v a_values, cown (OwnS 24 (OwnS 3 (roE rdInt))) F5 v4.v c3] ∧ i_lists_L1 a_values a_n m7 c3 c6 = some R) ⟨_, _, _, ⟨(some ⟨k2, 0, none⟩), 1, 1⟩, (k2 :: ((k1 :: []) ++ [])), eqA, entA, hF⟩ ?_)
 rintro m7 _ _ ⟨g8, c3, c6, v4, F5, rfl, hE, hF⟩
 refine K_ent hE ?_
 rcases m7 with _ | m7
 · rw [i_lists_L1] at hF
   exact absurd hF (by simp)
 rw [i_lists_L1] at hF
 iterate 4 refine au ?_
 refine Ci hF (fun hb129 hF => ?_) (fun hb129 hF => ?_)
 · refine au ?_
   obtain ⟨o15, hio15, hO16⟩ := bind_some hF
   refine K_cut (fun f' cs' => ∃ (c125 : List (List Int)) (v126 : Sv) (F127 : List Nat) (g : Fr), c125 = o15 ∧ f' = updL g [(0, v0_0.v), (5, v126.v), (13, (.int .i64 a_n)), (14, (.int .i64 c6))] ∧ Ent cs' [crd (RdS 3 rdInt) v0_0.v a_values, cown (OwnS 24 (OwnS 3 (roE rdInt))) F127 v126.v c125]) ?_ ?_
   · replace hF := hio15
     refine CW_block (K_region (C_new rfl (N_buildSliceT (g := true) sl38.h ty24.h .nil (vs := []) rfl rfl rfl (by simp)) (fun k17 => ?_)))
     refine Cv1 (.cons .h .nil) (own_lit (Ro := (OwnS 3 (roE rdInt))) (E := 24) (F := []) (xs := ([] : List (List Int))) MkL_nil rfl rfl) ?_
     iterate 8 refine au ?_
     refine CW_block (K_frz (.t (.t .h)) frz_own ?_)
     refine CW_loop (m := c3.length) (fun m75 f' cs' => ∃ (g : Fr) (k77 : Nat) (rest78 : List (List Int)) (c71 : List (List Int)) (v72 : Sv) (F73 : List Nat), m75 = rest78.length ∧ f' = updL g [(0, v0_0.v), (6, v72.v), (13, (.int .i64 a_n)), (14, (.int .i64 c6)), (17, v4.v), (18, (.int .i64 (c3.length : Int))), (19, (.int .i64 (k77 : Int)))] ∧ List.drop k77 c3 = rest78 ∧ Ent cs' [crd (RdS 3 rdInt) v0_0.v a_values, cown (OwnS 24 (OwnS 3 (roE rdInt))) F73 v72.v c71, crd (RdS 24 (RdS 3 rdInt)) v4.v c3] ∧ i_lists_L2 a_values rest78 k77 c71 = some o15) ⟨_, 0, _, _, ⟨(some ⟨k17, 0, none⟩), 0, 1⟩, (k17 :: []), rfl, eqA, rfl, entA, hF⟩ ?_
     rintro m75 _ _ ⟨g76, k77, rest78, c71, v72, F73, rfl, rfl, hd80, hE, hF⟩
     refine Kb hE c3 (fun hbd85 => ?_)
     rcases rest78 with _ | ⟨x79, rest78⟩
     · have hk81 := dn hd80
       rw [i_lists_L2] at hF
       iterate 4 refine au ?_
       refine CdF ?_
       iterate 8 refine au ?_
       cases hF
       exact ⟨_, v72, F73, _, rfl, eqA, entA⟩
     obtain ⟨hk81, hx82, hd83⟩ := drop_cons hd80
     rw [i_lists_L2] at hF
     iterate 4 refine au ?_
     refine CdT ?_
     refine au ?_
     obtain ⟨o86, hio86, hO87⟩ := bind_some hF
     refine K_cut (fun f' cs' => ∃ (c120 : List (List Int)) (v121 : Sv) (F122 : List Nat) (g : Fr), c120 = o86 ∧ f' = updL g [(0, v0_0.v), (6, v121.v), (13, (.int .i64 a_n)), (14, (.int .i64 c6)), (17, v4.v), (18, (.int .i64 (c3.length : Int))), (19, (.int .i64 (k77 : Int)))] ∧ Ent cs' [crd (RdS 3 rdInt) v0_0.v a_values, cown (OwnS 24 (OwnS 3 (roE rdInt))) F122 v121.v c120, crd (RdS 24 (RdS 3 rdInt)) v4.v c3]) ?_ ?_
     · replace hF := hio86
       refine CW_block (K_region (C_idx (a := x79) sl38.h ty24.h.sz (.tmp rfl rfl) (.tmp rfl rfl) (.t (.t .h)) (Int.natCast_nonneg k77) hx82 (fun k88 j89 => ?_)))
       refine C_ldV (R' := (RdS 3 rdInt)) ag24.h (.tmp rfl rfl) .h lv24_0 (fun w90 => ?_)
       iterate 7 refine au ?_
       refine CW_block (CW_loop (m := a_values.length) (fun m95 f' cs' => ∃ (g : Fr) (k97 : Nat) (rest98 : List Int) (c91 : List (List Int)) (v92 : Sv) (F93 : List Nat), m95 = rest98.length ∧ f' = updL g [(0, v0_0.v), (6, v92.v), (8, w90.v), (13, (.int .i64 a_n)), (14, (.int .i64 c6)), (17, v4.v), (18, (.int .i64 (c3.length : Int))), (19, (.int .i64 (k77 : Int))), (23, v0_0.v), (24, (.int .i64 (a_values.length : Int))), (25, (.int .i64 (k97 : Int)))] ∧ List.drop k97 a_values = rest98 ∧ Ent cs' [crd (RdS 3 rdInt) v0_0.v a_values, cown (OwnS 24 (OwnS 3 (roE rdInt))) F93 v92.v c91, crd (RdS 3 rdInt) w90.v x79, crd (RdS 24 (RdS 3 rdInt)) v4.v c3] ∧ i_lists_L4 x79 rest98 k97 c91 = some o86) ⟨_, 0, _, _, v72, F73, rfl, eqA, rfl, entA, hF⟩ ?_)
       rintro m95 _ _ ⟨g96, k97, rest98, c91, v92, F93, rfl, rfl, hd100, hE, hF⟩
       refine Kb hE a_values (fun hbd105 => ?_)
       rcases rest98 with _ | ⟨x99, rest98⟩
       · have hk101 := dn hd100
         rw [i_lists_L4] at hF
         iterate 4 refine au ?_
         refine CdF ?_
         iterate 4 refine au ?_
         cases hF
         exact ⟨_, v92, F93, _, rfl, eqA, entA⟩
       obtain ⟨hk101, hx102, hd103⟩ := drop_cons hd100
       rw [i_lists_L4] at hF
       iterate 4 refine au ?_
       refine CdT ?_
       iterate 3 refine au ?_
       refine Ai hx102 (fun k106 j107 => ?_)
       refine Al ls3_0 ?_
       iterate 5 refine au ?_
       refine bnd hF fun r108 hx109 hF => Cx1 (g_slices_Clone_int_int_ok _ _ _ hx109) (fun p110 => ?_)
       refine au ?_
       refine C_new rfl (N_buildSliceT (g := true) sl24.h ty3.h (.cons (.tmp rfl rfl) .nil) (vs := [(.int .i64 x99)]) rfl rfl rfl (by intro v hv; simp at hv; rcases hv with rfl <;> rfl)) (fun k111 => ?_)
       refine Cv1 (.cons .h .nil) (own_lit (Ro := (roE rdInt)) (E := 3) (F := ([] ++ [])) (xs := ([x99] : List Int)) (MkL_cons (Mk_pure (fun _ => rfl)) MkL_nil apps) rfl rfl) ?_
       refine bnd hF fun z112 hx113 hF => C_x1 (.cons (.t .h) (.cons .h .nil)) (X_appendO (Ro := (roE rdInt)) sl24.h ni24 ty3.h rfl rfl rfl (.tmp rfl rfl) (.tmp rfl rfl) hx113 src_own) (fun p114 => ?_)
       refine C_new rfl (N_buildSliceT (g := true) sl38.h ty24.h (.cons (.tmp rfl rfl) .nil) (vs := [p114.1.v]) rfl rfl rfl (by intro v hv; simp at hv; rcases hv with rfl <;> rfl)) (fun k115 => ?_)
       refine Cv1 (.cons .h (.cons .h .nil)) (own_lit (Ro := (OwnS 3 (roE rdInt))) (E := 24) (F := (p114.2 ++ [])) (xs := ([z112] : List (List Int))) (MkL_cons Mk_own MkL_nil apps) rfl rfl) ?_
       refine bnd hF fun z116 hx117 hF => C_x1 (.cons (.t (.t (.t .h))) (.cons .h .nil)) (X_appendO (Ro := (OwnS 3 (roE rdInt))) sl38.h ni38 ty24.h rfl rfl rfl (.tmp rfl rfl) (.tmp rfl rfl) hx117 src_own) (fun p118 => ?_)
       iterate 6 refine au ?_
       rw [wk k97]
       exact ⟨_, Nat.lt_succ_self _, _, k97 + 1, rest98, _, p118.1, p118.2, rfl, eqA, hd103, entA, hF⟩
     rintro _ _ ⟨c120, v121, F122, g124, rfl, rfl, hE⟩
     replace hF := hO87
     try dsimp only at hF
     refine K_ent hE ?_
     iterate 4 refine au ?_
     rw [wk k77]
     exact ⟨_, Nat.lt_succ_self _, _, k77 + 1, rest78, _, v121, F122, rfl, eqA, hd83, entA, hF⟩
   rintro _ _ ⟨c125, v126, F127, g128, rfl, rfl, hE⟩
   replace hF := hO16
   try dsimp only at hF
   refine K_ent hE ?_
   iterate 4 refine au ?_
   exact ⟨m7, Nat.lt_succ_self _, _, _, _, v126, F127, eqA, entA, hF⟩
 iterate 9 refine au ?_
 cases hF
 exact Er (v4, F5)
def g_slices_Equal_int_int_L1 (a_s2 : List Int) : List Int → Nat → Option (Bool)
 | [], k4 => some true
 | x6 :: rest5, k4 => (ix a_s2 (k4 : Int)).bind fun x15 =>
   if ((x6 : Int) != x15) then (
     some false)
   else (
     g_slices_Equal_int_int_L1 a_s2 rest5 (k4 + 1))
def g_slices_Equal_int_int (a_s1 : List Int) (a_s2 : List Int) : Option (Bool) :=
 if (((a_s1.length : Int) : Int) != (a_s2.length : Int)) then (
   some false)
 else (
   g_slices_Equal_int_int_L1 a_s2 a_s1 0)
theorem g_slices_Equal_int_int_ok (a_s1 : List Int) (v0_0 : Sv) (a_s2 : List Int) (v1_0 : Sv) (R : Bool) (hF : g_slices_Equal_int_int a_s1 a_s2 = some R) :
   Fw.Spec Tryz.prog 86 [v0_0.v, v1_0.v] [crd (RdS 3 rdInt) v0_0.v a_s1, crd (RdS 3 rdInt) v1_0.v a_s2] (fun _ : Unit => (.bool R)) (fun _ => []) := by
 refine Se 26 Tryz.func86 [.tmp 4] ?_
 intro H0 F0
 unfold g_slices_Equal_int_int at hF
 iterate 11 refine au ?_
 refine Ci hF (fun hb23 hF => ?_) (fun hb23 hF => ?_)
 · iterate 4 refine au ?_
   cases hF
   exact Er ()
 iterate 7 refine au ?_
 refine CW_block (CW_loop (m := a_s1.length) (fun m2 f' cs' => ∃ (g : Fr) (k4 : Nat) (rest5 : List Int), m2 = rest5.length ∧ f' = updL g [(0, v0_0.v), (1, v1_0.v), (12, (.int .i64 (a_s1.length : Int))), (13, (.int .i64 (k4 : Int)))] ∧ List.drop k4 a_s1 = rest5 ∧ Ent cs' [crd (RdS 3 rdInt) v0_0.v a_s1, crd (RdS 3 rdInt) v1_0.v a_s2] ∧ g_slices_Equal_int_int_L1 a_s2 rest5 k4 = some R) ⟨_, 0, _, rfl, eqA, rfl, entA, hF⟩ ?_)
 rintro m2 _ _ ⟨g3, k4, rest5, rfl, rfl, hd7, hE, hF⟩
 refine Kb hE a_s1 (fun hbd12 => ?_)
 rcases rest5 with _ | ⟨x6, rest5⟩
 · have hk8 := dn hd7
   rw [g_slices_Equal_int_int_L1] at hF
   iterate 4 refine au ?_
   refine CdF ?_
   iterate 8 refine au ?_
   cases hF
   exact Er ()
 obtain ⟨hk8, hx9, hd10⟩ := drop_cons hd7
 rw [g_slices_Equal_int_int_L1] at hF
 iterate 4 refine au ?_
 refine CdT ?_
 iterate 6 refine au ?_
 refine K_draw [0, 1, 2, 3, 4, 5, 6, 7, 8] [0, 0, 3, 7, 0, 0, 48, 112, 255] [] mixed (by decide +kernel) ?_
 iterate 2 refine du ?_
 refine Di hx9 (fun k13 j14 => ?_)
 refine Dl ls3_0 ?_
 iterate 2 refine du ?_
 refine bnd hF fun x15 hx16 hF => ?_
 obtain ⟨hp17, hx18⟩ := ix_some hx16
 refine Di hx18 (fun k19 j20 => ?_)
 refine Dl ls3_0 ?_
 iterate 2 refine du ?_
 refine Ci hF (fun hb22 hF => ?_) (fun hb22 hF => ?_)
 · iterate 4 refine au ?_
   cases hF
   exact Er ()
 iterate 5 refine au ?_
 rw [wk k4]
 exact ⟨_, Nat.lt_succ_self _, _, k4 + 1, rest5, rfl, eqA, hd10, entA, hF⟩
def i_sameAccess (a_a : Access) (a_b : Access) : Option (Bool) :=
 (bif ((a_a.Method : Int) == a_b.Method) then ((g_slices_Equal_int_int a_a.Values a_b.Values).bind fun r6 =>
     some r6)
   else (some false)).bind fun o3 =>
 match o3 with
 | c9 => some c9
theorem i_sameAccess_ok (a_a : Access) (v0_1 : Sv) (a_b : Access) (v1_1 : Sv) (R : Bool) (hF : i_sameAccess a_a a_b = some R) :
   Fw.Spec Tryz.prog 141 [(.agg [(.int .i64 a_a.Method), v0_1.v].toArray), (.agg [(.int .i64 a_b.Method), v1_1.v].toArray)] [crd (RdS 3 rdInt) v0_1.v a_a.Values, crd (RdS 3 rdInt) v1_1.v a_b.Values] (fun _ : Unit => (.bool R)) (fun _ => []) := by
 refine Se 17 Tryz.func141 [.tmp 4] ?_
 intro H0 F0
 unfold i_sameAccess at hF
 refine au ?_
 refine AbR (fun k1 => ?_)
 refine AbR (fun k2 => ?_)
 iterate 2 refine au ?_
 obtain ⟨o3, hio3, hO4⟩ := bind_some hF
 refine au ?_
 refine C_cut (fun f' cs' => ∃ (c9 : Bool) (g : Fr), c9 = o3 ∧ f' = updL g [(4, (.bool c9))] ∧ Ent cs' []) ?_ ?_
 · replace hF := hio3
   iterate 6 refine au ?_
   rcases Bool.eq_false_or_eq_true ((a_a.Method : Int) == a_b.Method) with hg5 | hg5
   · rw [hg5]
     try rw [hg5] at hF; dsimp only [cond_true, cond_false] at hF
     iterate 9 refine au ?_
     refine bnd hF fun r6 hx7 hF => Cx0 (g_slices_Equal_int_int_ok _ _ _ _ _ hx7) (fun _ => ?_)
     iterate 3 refine au ?_
     cases hF
     exact ⟨_, _, rfl, eqA, entA⟩
   rw [hg5]
   try rw [hg5] at hF; dsimp only [cond_true, cond_false] at hF
   iterate 8 refine au ?_
   cases hF
   exact ⟨_, _, rfl, eqA, entA⟩
 rintro _ _ ⟨c9, g10, rfl, rfl, hE⟩
 replace hF := hO4
 try dsimp only at hF
 refine K_ent hE ?_
 refine au ?_
 cases hF
 exact Er ()
def i_hasAccess_1 (a_x : Access) (a_e1 : Access) : Option (Bool) :=
 (i_sameAccess a_x a_e1).bind fun r2 =>
 some r2
theorem i_hasAccess_1_ok (a_x : Access) (v0_1 : Sv) (kc1 : Nat) (a_e1 : Access) (vc1_1 : Sv) (R : Bool) (hF : i_hasAccess_1 a_x a_e1 = some R) :
   Fw.Spec Tryz.prog 172 [(.agg [(.int .i64 a_x.Method), v0_1.v].toArray), (pz kc1)] [crd (RdS 3 rdInt) v0_1.v a_x.Values, cboR kc1 54 (.agg [(.int .i64 a_e1.Method), vc1_1.v].toArray), crd (RdS 3 rdInt) vc1_1.v a_e1.Values] (fun _ : Unit => (.bool R)) (fun _ => []) := by
 refine Se 7 Tryz.func172 [.tmp 3] ?_
 intro H0 F0
 unfold i_hasAccess_1 at hF
 refine au ?_
 refine AbR (fun k1 => ?_)
 iterate 5 refine au ?_
 refine bnd hF fun r2 hx3 hF => Cx0 (i_sameAccess_ok _ _ _ _ _ hx3) (fun _ => ?_)
 iterate 3 refine au ?_
 cases hF
 exact Er ()
def g_slices_IndexFunc_impl_Access_impl_Access_ihasAccess1_L1 (a_e1 : Access) : List Access → Nat → Option (Int)
 | [], k4 => some (-1)
 | x6 :: rest5, k4 => (i_hasAccess_1 x6 a_e1).bind fun r16 =>
   if r16 then (
     some (k4 : Int))
   else (
     g_slices_IndexFunc_impl_Access_impl_Access_ihasAccess1_L1 a_e1 rest5 (k4 + 1))
def g_slices_IndexFunc_impl_Access_impl_Access_ihasAccess1 (a_s : List Access) (a_e1 : Access) : Option (Int) :=
 g_slices_IndexFunc_impl_Access_impl_Access_ihasAccess1_L1 a_e1 a_s 0
theorem g_slices_IndexFunc_impl_Access_impl_Access_ihasAccess1_ok (a_s : List Access) (v0_0 : Sv) (kc1 : Nat) (a_e1 : Access) (vc1_1 : Sv) (R : Int) (hF : g_slices_IndexFunc_impl_Access_impl_Access_ihasAccess1 a_s a_e1 = some R) :
   Fw.Spec Tryz.prog 200 [v0_0.v, (.func (.func 172) [].toArray [(pz kc1)].toArray)] [crd (RdS 54 rd54) v0_0.v a_s, cboR kc1 54 (.agg [(.int .i64 a_e1.Method), vc1_1.v].toArray), crd (RdS 3 rdInt) vc1_1.v a_e1.Values] (fun _ : Unit => (.int .i64 R)) (fun _ => []) := by
 refine Se 19 Tryz.func200 [.tmp 4] ?_
 intro H0 F0
 unfold g_slices_IndexFunc_impl_Access_impl_Access_ihasAccess1 at hF
 iterate 9 refine au ?_
 refine CW_block (CW_loop (m := a_s.length) (fun m2 f' cs' => ∃ (g : Fr) (k4 : Nat) (rest5 : List Access), m2 = rest5.length ∧ f' = updL g [(0, v0_0.v), (1, (.func (.func 172) [].toArray [(pz kc1)].toArray)), (7, (.int .i64 (a_s.length : Int))), (8, (.int .i64 (k4 : Int)))] ∧ List.drop k4 a_s = rest5 ∧ Ent cs' [crd (RdS 54 rd54) v0_0.v a_s, cboR kc1 54 (.agg [(.int .i64 a_e1.Method), vc1_1.v].toArray), crd (RdS 3 rdInt) vc1_1.v a_e1.Values] ∧ g_slices_IndexFunc_impl_Access_impl_Access_ihasAccess1_L1 a_e1 rest5 k4 = some R) ⟨_, 0, _, rfl, eqA, rfl, entA, hF⟩ ?_)
 rintro m2 _ _ ⟨g3, k4, rest5, rfl, rfl, hd7, hE, hF⟩
 refine Kb hE a_s (fun hbd12 => ?_)
 rcases rest5 with _ | ⟨x6, rest5⟩
 · have hk8 := dn hd7
   rw [g_slices_IndexFunc_impl_Access_impl_Access_ihasAccess1_L1] at hF
   iterate 4 refine au ?_
   refine CdF ?_
   iterate 8 refine au ?_
   cases hF
   exact Er ()
 obtain ⟨hk8, hx9, hd10⟩ := drop_cons hd7
 rw [g_slices_IndexFunc_impl_Access_impl_Access_ihasAccess1_L1] at hF
 iterate 4 refine au ?_
 refine CdT ?_
 iterate 10 refine au ?_
 refine Ai hx9 (fun k13 j14 => ?_)
 refine AlA1 (ul54_0_54 x6) la54_0_54 (fun p15 => ?_)
 refine bnd hF fun r16 hx17 hF => C_x0 (.rd .h rfl (.rd (.t (.t (.t .h))) rfl (.rd (.t (.t (.t (.t .h)))) rfl .nil))) (X_callCS cf172.h (.tmp rfl rfl) (.cons (.tmp rfl rfl) .nil) (i_hasAccess_1_ok x6 p15 kc1 a_e1 vc1_1 _ hx17)) (fun _ => ?_)
 refine au ?_
 refine Ci hF (fun hb20 hF => ?_) (fun hb20 hF => ?_)
 · iterate 5 refine au ?_
   cases hF
   exact Er ()
 iterate 5 refine au ?_
 rw [wk k4]
 exact ⟨_, Nat.lt_succ_self _, _, k4 + 1, rest5, rfl, eqA, hd10, entA, hF⟩
def g_slices_ContainsFunc_impl_Access_impl_Access_ihasAccess1 (a_s : List Access) (a_e1 : Access) : Option (Bool) :=
 (g_slices_IndexFunc_impl_Access_impl_Access_ihasAccess1 a_s a_e1).bind fun r1 =>
 some (decide ((0 : Int) ≤ r1))
theorem g_slices_ContainsFunc_impl_Access_impl_Access_ihasAccess1_ok (a_s : List Access) (v0_0 : Sv) (kc1 : Nat) (a_e1 : Access) (vc1_1 : Sv) (R : Bool) (hF : g_slices_ContainsFunc_impl_Access_impl_Access_ihasAccess1 a_s a_e1 = some R) :
   Fw.Spec Tryz.prog 171 [v0_0.v, (.func (.func 172) [].toArray [(pz kc1)].toArray)] [crd (RdS 54 rd54) v0_0.v a_s, cboR kc1 54 (.agg [(.int .i64 a_e1.Method), vc1_1.v].toArray), crd (RdS 3 rdInt) vc1_1.v a_e1.Values] (fun _ : Unit => (.bool R)) (fun _ => []) := by
 refine Se 9 Tryz.func171 [.tmp 4] ?_
 intro H0 F0
 unfold g_slices_ContainsFunc_impl_Access_impl_Access_ihasAccess1 at hF
 iterate 6 refine au ?_
 refine bnd hF fun r1 hx2 hF => Cx0 (g_slices_IndexFunc_impl_Access_impl_Access_ihasAccess1_ok _ _ _ _ _ _ hx2) (fun _ => ?_)
 iterate 4 refine au ?_
 cases hF
 exact Er ()
def i_hasAccess (a_l : List Access) (a_a : Access) : Option (Bool) :=
 (g_slices_ContainsFunc_impl_Access_impl_Access_ihasAccess1 a_l a_a).bind fun r2 =>
 some r2
theorem i_hasAccess_ok (a_l : List Access) (v0_0 : Sv) (a_a : Access) (v1_1 : Sv) (R : Bool) (hF : i_hasAccess a_l a_a = some R) :
   Fw.Spec Tryz.prog 126 [v0_0.v, (.agg [(.int .i64 a_a.Method), v1_1.v].toArray)] [crd (RdS 54 rd54) v0_0.v a_l, crd (RdS 3 rdInt) v1_1.v a_a.Values] (fun _ : Unit => (.bool R)) (fun _ => []) := by
 refine Se 8 Tryz.func126 [.tmp 4] ?_
 intro H0 F0
 unfold i_hasAccess at hF
 refine au ?_
 refine AbR (fun k1 => ?_)
 iterate 4 refine au ?_
 refine C_val (V_makeFunc (fn := .func 172) (vs := []) (us := [(pz k1)]) .nil (.cons (.tmp rfl rfl) .nil)) ?_
 refine bnd hF fun r2 hx3 hF => Cx0 (g_slices_ContainsFunc_impl_Access_impl_Access_ihasAccess1_ok _ _ _ _ _ _ hx3) (fun _ => ?_)
 iterate 3 refine au ?_
 cases hF
 exact Er ()
end Go.Proofs.YtndckmfbndmkhaaGreat
