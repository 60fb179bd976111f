/-
  Functions of the program as Lean functions, and that the calls return what these say: part 1. No conditions.
-/
import Derived.Test.YtmjhcoelkbcmkabFc
import Derived.Shelf.Sort.Plain
import Derived.Shelf.Slices.In.SortNone
import Derived.Shelf.Slices.CompactI
import Derived.Test.YtmjhcoelkbcmkabProg
import Derived.KernelRfl
set_option maxRecDepth 100000
set_option linter.unusedVariables false
namespace Go.Proofs.Ytmjhcoelkbcmkab
open Go Go.Fw

instance : LaidP Try.prog := ⟨fun _ => True⟩

structure Method where
  Rel : Int
  Inputs : List Int
  Limit : Int
  Cost : Int
  Quota : Int
structure Access where
  Method : Int
  Values : List Int
theorem cf5 : CF Try.prog 5 := fun _ _ => Try.call5 _ _
theorem sl22 : SL Try.prog 22 48 := by unfold SL; kernel_rfl
def rd48 (H : AHeap) (v : Value) (a : Method) : Prop := ∃ v0 : Sv, v = .agg [(.int .i64 a.Rel), v0.v, (.int .i64 a.Limit), (.int .i64 a.Cost), (.int .i64 a.Quota)].toArray ∧ (RdS 3 rdInt) H v0.v a.Inputs
instance : Mono rd48 := ⟨fun h hi => by
  obtain ⟨v0, h, h0⟩ := h
  exact ⟨v0, h, Mono.up h0 hi⟩⟩
instance : Cells rd48 5 := ⟨fun h => by
  obtain ⟨v0, rfl, h0⟩ := h
  exact ⟨rfl, rfl⟩⟩
theorem ty48 : TY Try.prog 48 5 56 (.agg [(.int .i64 0), (.slice none 0 0), (.int .i64 0), (.int .i64 0), (.int .i64 0)].toArray) := by unfold TY; kernel_rfl
def ul48_0_48 (a : Method) (p : Sv) : List Value := [(.int .i64 a.Rel), p.v, (.int .i64 a.Limit), (.int .i64 a.Cost), (.int .i64 a.Quota)]
theorem la48_0_48 {a : Method} : ∀ H e, rd48 H e a → ∃ i : Sv, 0 + 5 ≤ e.cells.size ∧ (e.cells.toList.drop 0).take 5 = ul48_0_48 a i ∧ ∀ c ∈ ([crd (RdS 3 rdInt) i.v a.Inputs] : List Comp), c.P H ∧ c.F = [] := by
  intro H e h
  obtain ⟨v0, rfl, h0⟩ := h
  refine ⟨v0, Nat.le_of_ble_eq_true rfl, rfl, fun c hc => by
    simp only [List.mem_cons, List.not_mem_nil, or_false] at hc
    rcases hc with rfl
    · exact ⟨h0, rfl⟩
⟩
theorem ag48 : AG Try.prog 48 true := by unfold AG; kernel_rfl
theorem cf23 : CF Try.prog 23 := fun _ _ => Try.call23 _ _
theorem fd48_1 : FD Try.prog 48 1 1 := by unfold FD; kernel_rfl
theorem ag26 : AG Try.prog 26 false := by unfold AG; kernel_rfl
theorem cf41 : CF Try.prog 41 := fun _ _ => Try.call41 _ _
theorem sl26 : SL Try.prog 26 3 := by unfold SL; kernel_rfl
theorem cf6 : CF Try.prog 6 := fun _ _ => Try.call6 _ _
theorem sl23 : SL Try.prog 23 51 := by unfold SL; kernel_rfl
def rd51 (H : AHeap) (v : Value) (a : Access) : Prop := ∃ v0 : Sv, v = .agg [(.int .i64 a.Method), v0.v].toArray ∧ (RdS 3 rdInt) H v0.v a.Values
instance : Mono rd51 := ⟨fun h hi => by
  obtain ⟨v0, h, h0⟩ := h
  exact ⟨v0, h, Mono.up h0 hi⟩⟩
instance : Cells rd51 2 := ⟨fun h => by
  obtain ⟨v0, rfl, h0⟩ := h
  exact ⟨rfl, rfl⟩⟩
theorem ty51 : TY Try.prog 51 2 32 (.agg [(.int .i64 0), (.slice none 0 0)].toArray) := by unfold TY; kernel_rfl
def ul51_0_51 (a : Access) (p : Sv) : List Value := [(.int .i64 a.Method), p.v]
theorem la51_0_51 {a : Access} : ∀ H e, rd51 H e a → ∃ i : Sv, 0 + 2 ≤ e.cells.size ∧ (e.cells.toList.drop 0).take 2 = ul51_0_51 a i ∧ ∀ c ∈ ([crd (RdS 3 rdInt) i.v a.Values] : List Comp), c.P H ∧ c.F = [] := by
  intro H e h
  obtain ⟨v0, rfl, h0⟩ := h
  refine ⟨v0, Nat.le_of_ble_eq_true rfl, rfl, fun c hc => by
    simp only [List.mem_cons, List.not_mem_nil, or_false] at hc
    rcases hc with rfl
    · exact ⟨h0, rfl⟩
⟩
theorem ag51 : AG Try.prog 51 true := by unfold AG; kernel_rfl
theorem cf24 : CF Try.prog 24 := fun _ _ => Try.call24 _ _
theorem fd51_1 : FD Try.prog 51 1 1 := by unfold FD; kernel_rfl
theorem cf8 : CF Try.prog 8 := fun _ _ => Try.call8 _ _
theorem sl28 : SL Try.prog 28 55 := by unfold SL; kernel_rfl
theorem ty55 : TY Try.prog 55 5 56 (.agg [(.int .i64 0), (.slice none 0 0), (.int .i64 0), (.int .i64 0), (.int .i64 0)].toArray) := by unfold TY; kernel_rfl
def rd55 (H : AHeap) (v : Value) (a : Method) : Prop := ∃ v0 : Sv, v = .agg [(.int .i64 a.Rel), v0.v, (.int .i64 a.Limit), (.int .i64 a.Cost), (.int .i64 a.Quota)].toArray ∧ (RdS 3 rdInt) H v0.v a.Inputs
instance : Mono rd55 := ⟨fun h hi => by
  obtain ⟨v0, h, h0⟩ := h
  exact ⟨v0, h, Mono.up h0 hi⟩⟩
instance : Cells rd55 5 := ⟨fun h => by
  obtain ⟨v0, rfl, h0⟩ := h
  exact ⟨rfl, rfl⟩⟩
def ow55 : ORel Method := fun F H v a => ∃ (v0 : Sv) (F0 : List Nat), v = .agg [(.int .i64 a.Rel), v0.v, (.int .i64 a.Limit), (.int .i64 a.Cost), (.int .i64 a.Quota)].toArray ∧ F0 = F ∧ (OwnS 3 (roE rdInt)) F0 H v0.v a.Inputs
instance : Keep ow55 := ⟨fun h hi hg => by
  obtain ⟨v0, F0, rfl, rfl, h0⟩ := h
  exact ⟨v0, F0, rfl, rfl, Keep.keep h0 hi (fun k hk => hg k (by simp [hk]))⟩⟩
instance : Local ow55 := ⟨fun h hg => by
  obtain ⟨v0, F0, rfl, rfl, h0⟩ := h
  exact ⟨v0, F0, rfl, rfl, Local.keep h0 (fun k hk => hg k (by simp [hk]))⟩⟩
instance : Owns ow55 := ⟨fun h k hk => by
  obtain ⟨v0, F0, rfl, rfl, h0⟩ := h
  exact Owns.owns h0 k hk
⟩
instance : OCells ow55 5 := ⟨fun h => by
  obtain ⟨v0, F0, rfl, rfl, h0⟩ := h
  exact ⟨rfl, rfl⟩⟩
instance : Frz ow55 rd55 := ⟨fun h hg => by
  obtain ⟨v0, F0, rfl, rfl, h0⟩ := h
  exact ⟨v0, rfl, Frz.frz h0 (fun k hk => hg k (by simp [hk]))⟩⟩
theorem cf27 : CF Try.prog 27 := fun _ _ => Try.call27 _ _
theorem fd48_0 : FD Try.prog 48 0 0 := by unfold FD; kernel_rfl
theorem ag3 : AG Try.prog 3 false := by unfold AG; kernel_rfl
theorem fd55_0 : FD Try.prog 55 0 0 := by unfold FD; kernel_rfl
theorem ty3 : TY Try.prog 3 1 8 (.int .i64 0) := by unfold TY; kernel_rfl
theorem cf45 : CF Try.prog 45 := fun _ _ => Try.call45 _ _
theorem ls3_0 {a : Int} : ∀ H e, rdInt H e a → e.cells.toList[0]? = some (.int .i64 a) := by
  intro H e h
  subst h
  rfl
theorem fd55_1 : FD Try.prog 55 1 1 := by unfold FD; kernel_rfl
theorem ty26 : TY Try.prog 26 1 24 (.slice none 0 0) := by unfold TY; kernel_rfl
theorem fd48_2 : FD Try.prog 48 2 2 := by unfold FD; kernel_rfl
theorem fd55_2 : FD Try.prog 55 2 2 := by unfold FD; kernel_rfl
theorem fd48_3 : FD Try.prog 48 3 3 := by unfold FD; kernel_rfl
theorem fd55_3 : FD Try.prog 55 3 3 := by unfold FD; kernel_rfl
theorem fd48_4 : FD Try.prog 48 4 4 := by unfold FD; kernel_rfl
theorem fd55_4 : FD Try.prog 55 4 4 := by unfold FD; kernel_rfl
theorem ag55 : AG Try.prog 55 true := by unfold AG; kernel_rfl
theorem mk55 {a : Method} {v0 : Sv} {F0 : List Nat} : Mk ow55 F0 (.agg [(.int .i64 a.Rel), v0.v, (.int .i64 a.Limit), (.int .i64 a.Cost), (.int .i64 a.Quota)].toArray) a [cown (OwnS 3 (roE rdInt)) F0 v0.v a.Inputs] :=
  ⟨fun H h => ⟨v0, F0, rfl, rfl, h (cown (OwnS 3 (roE rdInt)) F0 v0.v a.Inputs) (by simp)⟩, by simp [cown]⟩
theorem cf9 : CF Try.prog 9 := fun _ _ => Try.call9 _ _
theorem sl30 : SL Try.prog 30 53 := by unfold SL; kernel_rfl
theorem ty53 : TY Try.prog 53 2 32 (.agg [(.int .i64 0), (.slice none 0 0)].toArray) := by unfold TY; kernel_rfl
def rd53 (H : AHeap) (v : Value) (a : Access) : Prop := ∃ v0 : Sv, v = .agg [(.int .i64 a.Method), v0.v].toArray ∧ (RdS 3 rdInt) H v0.v a.Values
instance : Mono rd53 := ⟨fun h hi => by
  obtain ⟨v0, h, h0⟩ := h
  exact ⟨v0, h, Mono.up h0 hi⟩⟩
instance : Cells rd53 2 := ⟨fun h => by
  obtain ⟨v0, rfl, h0⟩ := h
  exact ⟨rfl, rfl⟩⟩
def ow53 : ORel Access := fun F H v a => ∃ (v0 : Sv) (F0 : List Nat), v = .agg [(.int .i64 a.Method), v0.v].toArray ∧ F0 = F ∧ (OwnS 3 (roE rdInt)) F0 H v0.v a.Values
instance : Keep ow53 := ⟨fun h hi hg => by
  obtain ⟨v0, F0, rfl, rfl, h0⟩ := h
  exact ⟨v0, F0, rfl, rfl, Keep.keep h0 hi (fun k hk => hg k (by simp [hk]))⟩⟩
instance : Local ow53 := ⟨fun h hg => by
  obtain ⟨v0, F0, rfl, rfl, h0⟩ := h
  exact ⟨v0, F0, rfl, rfl, Local.keep h0 (fun k hk => hg k (by simp [hk]))⟩⟩
instance : Owns ow53 := ⟨fun h k hk => by
  obtain ⟨v0, F0, rfl, rfl, h0⟩ := h
  exact Owns.owns h0 k hk
⟩
instance : OCells ow53 2 := ⟨fun h => by
  obtain ⟨v0, F0, rfl, rfl, h0⟩ := h
  exact ⟨rfl, rfl⟩⟩
instance : Frz ow53 rd53 := ⟨fun h hg => by
  obtain ⟨v0, F0, rfl, rfl, h0⟩ := h
  exact ⟨v0, rfl, Frz.frz h0 (fun k hk => hg k (by simp [hk]))⟩⟩
theorem cf28 : CF Try.prog 28 := fun _ _ => Try.call28 _ _
theorem fd51_0 : FD Try.prog 51 0 0 := by unfold FD; kernel_rfl
theorem fd53_0 : FD Try.prog 53 0 0 := by unfold FD; kernel_rfl
theorem fd53_1 : FD Try.prog 53 1 1 := by unfold FD; kernel_rfl
theorem ag53 : AG Try.prog 53 true := by unfold AG; kernel_rfl
theorem mk53 {a : Access} {v0 : Sv} {F0 : List Nat} : Mk ow53 F0 (.agg [(.int .i64 a.Method), v0.v].toArray) a [cown (OwnS 3 (roE rdInt)) F0 v0.v a.Values] :=
  ⟨fun H h => ⟨v0, F0, rfl, rfl, h (cown (OwnS 3 (roE rdInt)) F0 v0.v a.Values) (by simp)⟩, by simp [cown]⟩
theorem cf7 : CF Try.prog 7 := fun _ _ => Try.call7 _ _
theorem cf25 : CF Try.prog 25 := fun _ _ => Try.call25 _ _
theorem ls53_0 {a : Access} : ∀ H e, rd53 H e a → e.cells.toList[0]? = some (.int .i64 a.Method) := by
  intro H e h
  obtain ⟨_, rfl, _⟩ := h
  rfl
theorem cf42 : CF Try.prog 42 := fun _ _ => Try.call42 _ _
theorem ls55_0 {a : Method} : ∀ H e, rd55 H e a → e.cells.toList[0]? = some (.int .i64 a.Rel) := by
  intro H e h
  obtain ⟨_, rfl, _⟩ := h
  rfl
theorem mixed : Try.prog.follows .mixedOrders = true := by kernel_rfl
theorem lv53_1 {a : Access} : ∀ H e, rd53 H e a → ∃ w : Sv, e.cells.toList[1]? = some w.v ∧ (RdS 3 rdInt) H w.v a.Values := by
  intro H e h
  obtain ⟨v0, rfl, h0⟩ := h
  exact ⟨v0, rfl, h0⟩
theorem cf43 : CF Try.prog 43 := fun _ _ => Try.call43 _ _
theorem ni26 : NotInt Try.prog 26 := .inr ⟨3, by kernel_rfl⟩
theorem ni30 : NotInt Try.prog 30 := .inr ⟨53, by kernel_rfl⟩
theorem cf26 : CF Try.prog 26 := fun _ _ => Try.call26 _ _
theorem cf44 : CF Try.prog 44 := fun _ _ => Try.call44 _ _
theorem cf10 : CF Try.prog 10 := fun _ _ => Try.call10 _ _
theorem cf29 : CF Try.prog 29 := fun _ _ => Try.call29 _ _
theorem ty28 : TY Try.prog 28 1 24 (.slice none 0 0) := by unfold TY; kernel_rfl
theorem cf47 : CF Try.prog 47 := fun _ _ => Try.call47 _ _
def ul53_0_53 (a : Access) (p : Sv) : List Value := [(.int .i64 a.Method), p.v]
theorem la53_0_53 {a : Access} : ∀ H e, rd53 H e a → ∃ i : Sv, 0 + 2 ≤ e.cells.size ∧ (e.cells.toList.drop 0).take 2 = ul53_0_53 a i ∧ ∀ c ∈ ([crd (RdS 3 rdInt) i.v a.Values] : List Comp), c.P H ∧ c.F = [] := by
  intro H e h
  obtain ⟨v0, rfl, h0⟩ := h
  refine ⟨v0, Nat.le_of_ble_eq_true rfl, rfl, fun c hc => by
    simp only [List.mem_cons, List.not_mem_nil, or_false] at hc
    rcases hc with rfl
    · exact ⟨h0, rfl⟩
⟩
theorem cf56 : CF Try.prog 56 := fun _ _ => Try.call56 _ _
theorem cf70 : CF Try.prog 70 := fun _ _ => Try.call70 _ _
theorem cf46 : CF Try.prog 46 := fun _ _ => Try.call46 _ _
theorem cf48 : CF Try.prog 48 := fun _ _ => Try.call48 _ _
theorem ag28 : AG Try.prog 28 false := by unfold AG; kernel_rfl
theorem cf49 : CF Try.prog 49 := fun _ _ => Try.call49 _ _
theorem cf55 : CF Try.prog 55 := fun _ _ => Try.call55 _ _
theorem cf30 : CF Try.prog 30 := fun _ _ => Try.call30 _ _
def lays189_ren : Go.Shelf.Ren := ⟨fun | 189 => 30 | 125 => 51 | 257 => 50 | 128 => 66 | 129 => 67 | 294 => 57 | 295 => 58 | 296 => 59 | 297 => 60 | 298 => 61 | 299 => 62 | 216 => 63 | 300 => 64 | 301 => 65 | 328 => 71 | 329 => 72 | 330 => 73 | 331 => 74 | 332 => 75 | 215 => 76 | 343 => 77 | n => n, fun | 28 => 26 | 3 => 3 | 46 => 86 | 0 => 0 | 51 => 101 | 53 => 103 | 4 => 4 | 183 => 93 | 182 => 92 | 131 => 98 | 5 => 5 | 9 => 9 | 218 => 108 | 222 => 112 | 228 => 115 | 229 => 116 | n => n, fun | n => n⟩
theorem lays189 : Go.Proofs.Lays.n189 Try.prog lays189_ren := {
  mixed := by kernel_rfl
  f125 := Try.func51.trans (congrArg some (by kernel_rfl))
  f128 := Try.func66.trans (congrArg some (by kernel_rfl))
  f129 := Try.func67.trans (congrArg some (by kernel_rfl))
  f189 := Try.func30.trans (congrArg some (by kernel_rfl))
  f215 := Try.func76.trans (congrArg some (by kernel_rfl))
  f216 := Try.func63.trans (congrArg some (by kernel_rfl))
  f257 := Try.func50.trans (congrArg some (by kernel_rfl))
  f294 := Try.func57.trans (congrArg some (by kernel_rfl))
  f295 := Try.func58.trans (congrArg some (by kernel_rfl))
  f296 := Try.func59.trans (congrArg some (by kernel_rfl))
  f297 := Try.func60.trans (congrArg some (by kernel_rfl))
  f298 := Try.func61.trans (congrArg some (by kernel_rfl))
  f299 := Try.func62.trans (congrArg some (by kernel_rfl))
  f300 := Try.func64.trans (congrArg some (by kernel_rfl))
  f301 := Try.func65.trans (congrArg some (by kernel_rfl))
  f328 := Try.func71.trans (congrArg some (by kernel_rfl))
  f329 := Try.func72.trans (congrArg some (by kernel_rfl))
  f330 := Try.func73.trans (congrArg some (by kernel_rfl))
  f331 := Try.func74.trans (congrArg some (by kernel_rfl))
  f332 := Try.func75.trans (congrArg some (by kernel_rfl))
  f343 := Try.func77.trans (congrArg some (by kernel_rfl))
  t0 := Try.underlying0
  a0 := Try.isAgg0
  z0 := Try.sizeOf0
  v0 := Try.zeroValue0
  t3 := Try.underlying3
  a3 := Try.isAgg3
  z3 := Try.sizeOf3
  v3 := Try.zeroValue3
  t4 := Try.underlying4
  a4 := Try.isAgg4
  z4 := Try.sizeOf4
  v4 := Try.zeroValue4
  t5 := Try.underlying5
  a5 := Try.isAgg5
  z5 := Try.sizeOf5
  v5 := Try.zeroValue5
  t9 := Try.underlying9
  a9 := Try.isAgg9
  z9 := Try.sizeOf9
  v9 := Try.zeroValue9
  t28 := Try.underlying26
  a28 := Try.isAgg26
  z28 := Try.sizeOf26
  v28 := Try.zeroValue26
  t46 := Try.underlying86
  a46 := Try.isAgg86
  z46 := Try.sizeOf86
  v46 := Try.zeroValue86
  t51 := Try.underlying101
  a51 := Try.isAgg101
  z51 := Try.sizeOf101
  v51 := Try.zeroValue101
  t53 := Try.underlying103
  a53 := Try.isAgg103
  z53 := Try.sizeOf103
  v53 := Try.zeroValue103
  t131 := Try.underlying98
  a131 := Try.isAgg98
  z131 := Try.sizeOf98
  v131 := Try.zeroValue98
  t182 := Try.underlying92
  a182 := Try.isAgg92
  z182 := Try.sizeOf92
  v182 := Try.zeroValue92
  t183 := Try.underlying93
  a183 := Try.isAgg93
  z183 := Try.sizeOf93
  v183 := Try.zeroValue93
  t218 := Try.underlying108
  a218 := Try.isAgg108
  z218 := Try.sizeOf108
  v218 := Try.zeroValue108
  t222 := Try.underlying112
  a222 := Try.isAgg112
  z222 := Try.sizeOf112
  v222 := Try.zeroValue112
  t228 := Try.underlying115
  a228 := Try.isAgg115
  z228 := Try.sizeOf115
  v228 := Try.zeroValue115
  t229 := Try.underlying116
  a229 := Try.isAgg116
  z229 := Try.sizeOf116
  v229 := Try.zeroValue116 }
theorem cf31 : CF Try.prog 31 := fun _ _ => Try.call31 _ _
def lays2020_ren : Go.Shelf.Ren := ⟨fun | 20 => 31 | n => n, fun | 22 => 26 | 3 => 3 | 4 => 4 | 0 => 0 | n => n, fun | n => n⟩
theorem lays2020 : Go.Proofs.Lays2.n20 Try.prog lays2020_ren := {
  mixed := by kernel_rfl
  f20 := Try.func31.trans (congrArg some (by kernel_rfl))
  t0 := Try.underlying0
  a0 := Try.isAgg0
  z0 := Try.sizeOf0
  v0 := Try.zeroValue0
  t3 := Try.underlying3
  a3 := Try.isAgg3
  z3 := Try.sizeOf3
  v3 := Try.zeroValue3
  t4 := Try.underlying4
  a4 := Try.isAgg4
  z4 := Try.sizeOf4
  v4 := Try.zeroValue4
  t22 := Try.underlying26
  a22 := Try.isAgg26
  z22 := Try.sizeOf26
  v22 := Try.zeroValue26
  i3 := by kernel_rfl }
theorem cf11 : CF Try.prog 11 := fun _ _ => Try.call11 _ _
theorem cf12 : CF Try.prog 12 := fun _ _ => Try.call12 _ _
def ul55_0_55 (a : Method) (p : Sv) : List Value := [(.int .i64 a.Rel), p.v, (.int .i64 a.Limit), (.int .i64 a.Cost), (.int .i64 a.Quota)]
theorem la55_0_55 {a : Method} : ∀ H e, rd55 H e a → ∃ i : Sv, 0 + 5 ≤ e.cells.size ∧ (e.cells.toList.drop 0).take 5 = ul55_0_55 a i ∧ ∀ c ∈ ([crd (RdS 3 rdInt) i.v a.Inputs] : List Comp), c.P H ∧ c.F = [] := by
  intro H e h
  obtain ⟨v0, rfl, h0⟩ := h
  refine ⟨v0, Nat.le_of_ble_eq_true rfl, rfl, fun c hc => by
    simp only [List.mem_cons, List.not_mem_nil, or_false] at hc
    rcases hc with rfl
    · exact ⟨h0, rfl⟩
⟩
theorem cf32 : CF Try.prog 32 := fun _ _ => Try.call32 _ _
theorem cf13 : CF Try.prog 13 := fun _ _ => Try.call13 _ _
theorem cf33 : CF Try.prog 33 := fun _ _ => Try.call33 _ _
theorem cf14 : CF Try.prog 14 := fun _ _ => Try.call14 _ _
theorem sf55_0 {a : Method} {d : Int} : ∀ F H e, ow55 F H e a → ow55 F H (setPart e 0 (Value.cells (.int .i64 d)).toList) { a with Rel := d } := by
  intro F H e h
  obtain ⟨v0, F0, rfl, rfl, h0⟩ := h
  exact ⟨v0, F0, rfl, rfl, h0⟩
theorem fsf55_0 {a : Method} : ∀ F H e, ow55 F H e a → 0 + 1 ≤ e.cells.size := by
  intro F H e h
  obtain ⟨v0, F0, rfl, rfl, h0⟩ := h
  exact Nat.le_of_ble_eq_true rfl
theorem pt55_1 : Part ow55 1 (OwnS 3 (roE rdInt)) (fun a : Method => a.Inputs) (fun a d => { a with Inputs := d }) := ⟨fun {F H e a} h => by
  obtain ⟨v0, F0, rfl, rfl, h0⟩ := h
  exact ⟨v0, [], F0, [], rfl, by simp, h0, fun hi hk h' => ⟨v0, _, rfl, by simp, h'⟩⟩⟩
theorem cf16 : CF Try.prog 16 := fun _ _ => Try.call16 _ _
theorem sf55_2 {a : Method} {d : Int} : ∀ F H e, ow55 F H e a → ow55 F H (setPart e 2 (Value.cells (.int .i64 d)).toList) { a with Limit := d } := by
  intro F H e h
  obtain ⟨v0, F0, rfl, rfl, h0⟩ := h
  exact ⟨v0, F0, rfl, rfl, h0⟩
theorem fsf55_2 {a : Method} : ∀ F H e, ow55 F H e a → 2 + 1 ≤ e.cells.size := by
  intro F H e h
  obtain ⟨v0, F0, rfl, rfl, h0⟩ := h
  exact Nat.le_of_ble_eq_true rfl
theorem sf55_3 {a : Method} {d : Int} : ∀ F H e, ow55 F H e a → ow55 F H (setPart e 3 (Value.cells (.int .i64 d)).toList) { a with Cost := d } := by
  intro F H e h
  obtain ⟨v0, F0, rfl, rfl, h0⟩ := h
  exact ⟨v0, F0, rfl, rfl, h0⟩
theorem fsf55_3 {a : Method} : ∀ F H e, ow55 F H e a → 3 + 1 ≤ e.cells.size := by
  intro F H e h
  obtain ⟨v0, F0, rfl, rfl, h0⟩ := h
  exact Nat.le_of_ble_eq_true rfl
theorem sf55_4 {a : Method} {d : Int} : ∀ F H e, ow55 F H e a → ow55 F H (setPart e 4 (Value.cells (.int .i64 d)).toList) { a with Quota := d } := by
  intro F H e h
  obtain ⟨v0, F0, rfl, rfl, h0⟩ := h
  exact ⟨v0, F0, rfl, rfl, h0⟩
theorem fsf55_4 {a : Method} : ∀ F H e, ow55 F H e a → 4 + 1 ≤ e.cells.size := by
  intro F H e h
  obtain ⟨v0, F0, rfl, rfl, h0⟩ := h
  exact Nat.le_of_ble_eq_true rfl
theorem cf15 : CF Try.prog 15 := fun _ _ => Try.call15 _ _
theorem sf53_0 {a : Access} {d : Int} : ∀ F H e, ow53 F H e a → ow53 F H (setPart e 0 (Value.cells (.int .i64 d)).toList) { a with Method := d } := by
  intro F H e h
  obtain ⟨v0, F0, rfl, rfl, h0⟩ := h
  exact ⟨v0, F0, rfl, rfl, h0⟩
theorem fsf53_0 {a : Access} : ∀ F H e, ow53 F H e a → 0 + 1 ≤ e.cells.size := by
  intro F H e h
  obtain ⟨v0, F0, rfl, rfl, h0⟩ := h
  exact Nat.le_of_ble_eq_true rfl
theorem pt53_1 : Part ow53 1 (OwnS 3 (roE rdInt)) (fun a : Access => a.Values) (fun a d => { a with Values := d }) := ⟨fun {F H e a} h => by
  obtain ⟨v0, F0, rfl, rfl, h0⟩ := h
  exact ⟨v0, [], F0, [], rfl, by simp, h0, fun hi hk h' => ⟨v0, _, rfl, by simp, h'⟩⟩⟩
theorem cf17 : CF Try.prog 17 := fun _ _ => Try.call17 _ _
theorem fa48_0 : fieldAt Try.prog 48 0 = some (3, 0, 1) := by kernel_rfl
theorem fa48_1 : fieldAt Try.prog 48 1 = some (26, 1, 1) := by kernel_rfl
theorem fa48_2 : fieldAt Try.prog 48 2 = some (3, 2, 1) := by kernel_rfl
theorem fa48_3 : fieldAt Try.prog 48 3 = some (3, 3, 1) := by kernel_rfl
theorem fa48_4 : fieldAt Try.prog 48 4 = some (3, 4, 1) := by kernel_rfl
def wf48 (a : Method) : Prop := wfInt a.Rel ∧ (wfSl wfInt) a.Inputs ∧ wfInt a.Limit ∧ wfInt a.Cost ∧ wfInt a.Quota
theorem sh48 : ∀ H v a, rd48 H v a → isAgV v = aggT Try.prog 48 := by
  intro H v a h
  obtain ⟨v1, rfl, _⟩ := h
  kernel_rfl
theorem op48 : Opn Try.prog 48 rd48 wf48 := by
  intro T enc w fuel cs x h hw ρ H hr hF
  have hl := opn_len fa48_0 h (n := 5) ty48.sz.cells
  obtain ⟨ρ0, H0, av0, a0, r0, f0, u0, i0, v0, q0, w0⟩ := opn_field fa48_0 h hw (Opn.int (by kernel_rfl)) hr hF
  obtain ⟨ρ1, H1, av1, a1, r1, f1, u1, i1, v1, q1, w1⟩ := opn_field fa48_1 h hw (Opn.slice (s := 1) (by kernel_rfl) (by kernel_rfl) (by decide) (Nat.lt_of_lt_of_le (by decide) (Nat.le_of_eq (show 8 = _ from by kernel_rfl))) (Opn.int (by kernel_rfl))) r0 f0
  obtain ⟨ρ2, H2, av2, a2, r2, f2, u2, i2, v2, q2, w2⟩ := opn_field fa48_2 h hw (Opn.int (by kernel_rfl)) r1 f1
  obtain ⟨ρ3, H3, av3, a3, r3, f3, u3, i3, v3, q3, w3⟩ := opn_field fa48_3 h hw (Opn.int (by kernel_rfl)) r2 f2
  obtain ⟨ρ4, H4, av4, a4, r4, f4, u4, i4, v4, q4, w4⟩ := opn_field fa48_4 h hw (Opn.int (by kernel_rfl)) r3 f3
  obtain rfl : av0 = (.int .i64 a0) := q0
  replace v0 := v0.up (((u1.trans u2).trans u3).trans u4)
  obtain ⟨sa1, sm1, rfl⟩ := RdS.len q1
  replace v1 := v1.one rfl
  replace v1 := v1.up ((u2.trans u3).trans u4)
  obtain rfl : av2 = (.int .i64 a2) := q2
  replace v2 := v2.up (u3.trans u4)
  obtain rfl : av3 = (.int .i64 a3) := q3
  replace v3 := v3.up u4
  obtain rfl : av4 = (.int .i64 a4) := q4
  have hv := RelVs.field (o := 0) v0 (RelVs.field (o := 1) v1 (RelVs.field (o := 2) v2 (RelVs.field (o := 3) v3 (RelVs.field (o := 4) v4 (RelVs.end hl)))))
  rw [List.drop_zero] at hv
  refine ⟨ρ4, H4, (.agg [(.int .i64 a0), (.slice sa1 a1.length sm1), (.int .i64 a2), (.int .i64 a3), (.int .i64 a4)].toArray : Value), ({ Rel := a0, Inputs := a1, Limit := a2, Cost := a3, Quota := a4 } : Method), r4, f4, ((((u0.trans u1).trans u2).trans u3).trans u4), ((((i0.trans i1).trans i2).trans i3).trans i4), ?_, ?_, w0, w1, w2, w3, w4⟩
  · exact hv
  · exact ⟨⟨sa1, _, sm1⟩, rfl, (Mono.up q1 ((i2.trans i3).trans i4))⟩
theorem fa51_0 : fieldAt Try.prog 51 0 = some (3, 0, 1) := by kernel_rfl
theorem fa51_1 : fieldAt Try.prog 51 1 = some (26, 1, 1) := by kernel_rfl
def wf51 (a : Access) : Prop := wfInt a.Method ∧ (wfSl wfInt) a.Values
theorem sh51 : ∀ H v a, rd51 H v a → isAgV v = aggT Try.prog 51 := by
  intro H v a h
  obtain ⟨v1, rfl, _⟩ := h
  kernel_rfl
theorem op51 : Opn Try.prog 51 rd51 wf51 := by
  intro T enc w fuel cs x h hw ρ H hr hF
  have hl := opn_len fa51_0 h (n := 2) ty51.sz.cells
  obtain ⟨ρ0, H0, av0, a0, r0, f0, u0, i0, v0, q0, w0⟩ := opn_field fa51_0 h hw (Opn.int (by kernel_rfl)) hr hF
  obtain ⟨ρ1, H1, av1, a1, r1, f1, u1, i1, v1, q1, w1⟩ := opn_field fa51_1 h hw (Opn.slice (s := 1) (by kernel_rfl) (by kernel_rfl) (by decide) (Nat.lt_of_lt_of_le (by decide) (Nat.le_of_eq (show 8 = _ from by kernel_rfl))) (Opn.int (by kernel_rfl))) r0 f0
  obtain rfl : av0 = (.int .i64 a0) := q0
  replace v0 := v0.up u1
  obtain ⟨sa1, sm1, rfl⟩ := RdS.len q1
  replace v1 := v1.one rfl
  have hv := RelVs.field (o := 0) v0 (RelVs.field (o := 1) v1 (RelVs.end hl))
  rw [List.drop_zero] at hv
  refine ⟨ρ1, H1, (.agg [(.int .i64 a0), (.slice sa1 a1.length sm1)].toArray : Value), ({ Method := a0, Values := a1 } : Access), r1, f1, (u0.trans u1), (i0.trans i1), ?_, ?_, w0, w1⟩
  · exact hv
  · exact ⟨⟨sa1, _, sm1⟩, rfl, q1⟩

/-! laws.szIntS -/
def l_szIntS (a_a : List Int) (a_left : Int) : Option (Int) :=
  if (decide (((IntKind.i64.wrap (a_left - (a_a.length : Int))) : Int) < 0)) then (
    some (-1))
  else (
    some (IntKind.i64.wrap (a_left - (a_a.length : Int))))
theorem l_szIntS_ok (a_a : List Int) (v0_0 : Sv) (a_left : Int) (R : Int) (hF : l_szIntS a_a a_left = some R) :
    Fw.Spec Try.prog 41 [v0_0.v, (.int .i64 a_left)] [crd (RdS 3 rdInt) v0_0.v a_a] (fun _ : Unit => (.int .i64 R)) (fun _ => []) := by
  refine Spec_enter (n := 12) Try.func41 rfl rfl (rs := [.tmp 4]) rfl rfl rfl ?_
  intro H0 F0
  unfold l_szIntS at hF
  refine K_region (C_val (V_assign (v := (.int .i64 0)) (.int _ _)) ?_)
  refine C_nil (K_region (Cm (.int .i64 a_left) rfl rfl ?_))
  refine Cm v0_0.v rfl rfl ?_
  refine C_at .h (fun hp => V_lenR (l := a_a.length) sl26 (.tmp rfl rfl) (crd_len hp)) ?_
  refine C_val (V_sub (i := a_left) (j := (a_a.length : Int)) (.tmp rfl rfl) (.tmp rfl rfl)) ?_
  refine Ca (.int .i64 (IntKind.i64.wrap (a_left - (a_a.length : Int)))) rfl rfl ?_
  refine C_nil (K_in (K_region (Cm (.int .i64 (IntKind.i64.wrap (a_left - (a_a.length : Int)))) rfl rfl ?_)))
  refine C_val (V_lss (i := (IntKind.i64.wrap (a_left - (a_a.length : Int)))) (j := 0) (.tmp rfl rfl) (.int _ _)) ?_
  refine C_nil (CW_cond (b := (decide (((IntKind.i64.wrap (a_left - (a_a.length : Int))) : Int) < 0))) (.tmp rfl rfl) (fun hb1 => ?_) (fun hb1 => ?_))
  · rw [if_pos hb1] at hF
    refine K_region (C_val (V_assign (v := (.int .i64 (-1))) (.int _ _)) ?_)
    refine C_nil (CW_ret ?_)
    obtain rfl := Option.some.inj hF
    exact End_ret () (.tmp rfl rfl .nil) rfl (.sel .nil)
  rw [if_neg (by rw [hb1]; exact Bool.false_ne_true)] at hF
  refine CW_skip (K_region (Cm (.int .i64 (IntKind.i64.wrap (a_left - (a_a.length : Int)))) rfl rfl ?_))
  refine Ca (.int .i64 (IntKind.i64.wrap (a_left - (a_a.length : Int)))) rfl rfl ?_
  refine C_nil (CW_ret ?_)
  obtain rfl := Option.some.inj hF
  exact End_ret () (.tmp rfl rfl .nil) rfl (.sel .nil)

/-! laws.szMethod -/
def l_szMethod (a_a : Method) (a_left : Int) : Option (Int) :=
  (l_szIntS a_a.Inputs a_left).bind fun r2 =>
  if (decide ((r2 : Int) < 0)) then (
    some (-1))
  else (
    some r2)
theorem l_szMethod_ok (a_a : Method) (v0_1 : Sv) (a_left : Int) (R : Int) (hF : l_szMethod a_a a_left = some R) :
    Fw.Spec Try.prog 23 [(.agg [(.int .i64 a_a.Rel), v0_1.v, (.int .i64 a_a.Limit), (.int .i64 a_a.Cost), (.int .i64 a_a.Quota)].toArray), (.int .i64 a_left)] [crd (RdS 3 rdInt) v0_1.v a_a.Inputs] (fun _ : Unit => (.int .i64 R)) (fun _ => []) := by
  refine Spec_enter (n := 12) Try.func23 rfl rfl (rs := [.tmp 4]) rfl rfl rfl ?_
  intro H0 F0
  unfold l_szMethod at hF
  refine K_region (C_newR rfl (N_box (g := false) (v := (.agg [(.int .i64 a_a.Rel), v0_1.v, (.int .i64 a_a.Limit), (.int .i64 a_a.Cost), (.int .i64 a_a.Quota)].toArray)) ty48.sz (.tmp rfl rfl) rfl) (fun k1 => ?_))
  refine C_val (V_assign (v := (.int .i64 0)) (.int _ _)) ?_
  refine C_nil (K_region (C_val (V_fieldAddr (off := 1) fd48_1 (.tmp rfl rfl)) ?_))
  refine C_at .h (fun hp => V_load (v := v0_1.v) ag26 (.tmp rfl rfl) hp.2 rfl rfl) ?_
  refine Cm (.int .i64 a_left) rfl rfl ?_
  obtain ⟨r2, hx3, hF⟩ := bind_some hF
  refine C_x0 (.rd (.t .h) rfl .nil) (X_callS cf41 (.cons (.tmp rfl rfl) (.cons (.tmp rfl rfl) .nil)) (l_szIntS_ok a_a.Inputs v0_1 a_left _ hx3)) (fun _ => ?_)
  refine Ca (.int .i64 r2) rfl rfl ?_
  refine C_nil (K_in (K_region (Cm (.int .i64 r2) rfl rfl ?_)))
  refine C_val (V_lss (i := r2) (j := 0) (.tmp rfl rfl) (.int _ _)) ?_
  refine C_nil (CW_cond (b := (decide ((r2 : Int) < 0))) (.tmp rfl rfl) (fun hb5 => ?_) (fun hb5 => ?_))
  · rw [if_pos hb5] at hF
    refine K_region (C_val (V_assign (v := (.int .i64 (-1))) (.int _ _)) ?_)
    refine C_nil (CW_ret ?_)
    obtain rfl := Option.some.inj hF
    exact End_ret () (.tmp rfl rfl .nil) rfl (.sel .nil)
  rw [if_neg (by rw [hb5]; exact Bool.false_ne_true)] at hF
  refine CW_skip (K_region (Cm (.int .i64 r2) rfl rfl ?_))
  refine Ca (.int .i64 r2) rfl rfl ?_
  refine C_nil (CW_ret ?_)
  obtain rfl := Option.some.inj hF
  exact End_ret () (.tmp rfl rfl .nil) rfl (.sel .nil)

/-! laws.szMethodS -/
def l_szMethodS_L1 : List Method → Nat → Int → Option (Int)
  | [], k5, c1 => some c1
  | x7 :: rest6, k5, c1 => (l_szMethod x7 c1).bind fun r17 =>
    if (decide ((r17 : Int) < 0)) then (
      some (-1))
    else (
      l_szMethodS_L1 rest6 (k5 + 1) r17)
def l_szMethodS (a_a : List Method) (a_left : Int) : Option (Int) :=
  if (decide (((IntKind.i64.wrap (a_left - (a_a.length : Int))) : Int) < 0)) then (
    some (-1))
  else (
    l_szMethodS_L1 a_a 0 (IntKind.i64.wrap (a_left - (a_a.length : Int))))
theorem l_szMethodS_ok (a_a : List Method) (v0_0 : Sv) (a_left : Int) (R : Int) (hF : l_szMethodS a_a a_left = some R) :
    Fw.Spec Try.prog 5 [v0_0.v, (.int .i64 a_left)] [crd (RdS 48 rd48) v0_0.v a_a] (fun _ : Unit => (.int .i64 R)) (fun _ => []) := by
  refine Spec_enter (n := 27) Try.func5 rfl rfl (rs := [.tmp 4]) rfl rfl rfl ?_
  intro H0 F0
  unfold l_szMethodS at hF
  refine K_region (C_val (V_assign (v := (.int .i64 0)) (.int _ _)) ?_)
  refine C_nil (K_region (Cm (.int .i64 a_left) rfl rfl ?_))
  refine Cm v0_0.v rfl rfl ?_
  refine C_at .h (fun hp => V_lenR (l := a_a.length) sl22 (.tmp rfl rfl) (crd_len hp)) ?_
  refine C_val (V_sub (i := a_left) (j := (a_a.length : Int)) (.tmp rfl rfl) (.tmp rfl rfl)) ?_
  refine Ca (.int .i64 (IntKind.i64.wrap (a_left - (a_a.length : Int)))) rfl rfl ?_
  refine C_nil (K_in (K_region (Cm (.int .i64 (IntKind.i64.wrap (a_left - (a_a.length : Int)))) rfl rfl ?_)))
  refine C_val (V_lss (i := (IntKind.i64.wrap (a_left - (a_a.length : Int)))) (j := 0) (.tmp rfl rfl) (.int _ _)) ?_
  refine C_nil (CW_cond (b := (decide (((IntKind.i64.wrap (a_left - (a_a.length : Int))) : Int) < 0))) (.tmp rfl rfl) (fun hb22 => ?_) (fun hb22 => ?_))
  · rw [if_pos hb22] at hF
    refine K_region (C_val (V_assign (v := (.int .i64 (-1))) (.int _ _)) ?_)
    refine C_nil (CW_ret ?_)
    obtain rfl := Option.some.inj hF
    exact End_ret () (.tmp rfl rfl .nil) rfl (.sel .nil)
  rw [if_neg (by rw [hb22]; exact Bool.false_ne_true)] at hF
  refine CW_skip (K_in (K_region (C_val (V_assign (v := (.int .i64 0)) (.int _ _)) ?_)))
  refine C_nil (CW_block (CW_loop (m := a_a.length) (fun m3 f' cs' => ∃ (g : Fr) (k5 : Nat) (rest6 : List Method) (c1 : Int), m3 = rest6.length ∧ f' = updL g [(0, v0_0.v), (1, (.int .i64 c1)), (5, (.int .i64 (k5 : Int)))] ∧ List.drop k5 a_a = rest6 ∧ Ent cs' [crd (RdS 48 rd48) v0_0.v a_a] ∧ l_szMethodS_L1 rest6 k5 c1 = some R) ⟨_, 0, _, _, rfl, (EqL.cons rfl (EqL.cons rfl (EqL.cons rfl (EqL.nil)))).eq, rfl, (.sel (.rd .h rfl .nil)), hF⟩ ?_))
  clear hF
  rintro m3 _ _ ⟨g4, k5, rest6, c1, rfl, rfl, hd8, hE, hF⟩
  refine K_ent hE ?_
  clear hE
  refine K_pure (c := crd (RdS 48 rd48) v0_0.v a_a) .h crd_bound (fun hbd13 => ?_)
  rcases rest6 with _ | ⟨x7, rest6⟩
  · have hk9 := List.drop_eq_nil_iff.1 hd8
    have hfe12 : (decide (((k5 : Int) : Int) < (a_a.length : Int))) = false := decide_eq_false (by omega)
    rw [l_szMethodS_L1] at hF
    refine K_in (K_region (Cm (.int .i64 (k5 : Int)) rfl rfl ?_))
    refine Cm v0_0.v rfl rfl ?_
    refine C_at .h (fun hp => V_lenR (l := a_a.length) sl22 (.tmp rfl rfl) (crd_len hp)) ?_
    refine C_val (V_lss (i := (k5 : Int)) (j := (a_a.length : Int)) (.tmp rfl rfl) (.tmp rfl rfl)) ?_
    refine C_nil (CW_cond (b := (decide (((k5 : Int) : Int) < (a_a.length : Int)))) (.tmp rfl rfl) (fun hb => absurd (hfe12.symm.trans hb) (by decide)) (fun _ => ?_))
    refine CW_exit ?_
    iterate 2 refine CThen_exit ?_
    refine CIn_self (K_region (Cm (.int .i64 c1) rfl rfl ?_))
    refine Ca (.int .i64 c1) rfl rfl ?_
    refine C_nil (CW_ret ?_)
    obtain rfl := Option.some.inj hF
    exact End_ret () (.tmp rfl rfl .nil) rfl (.sel .nil)
  obtain ⟨hk9, hx10, hd11⟩ := drop_cons hd8
  have hfe12 : (decide (((k5 : Int) : Int) < (a_a.length : Int))) = true := decide_eq_true (by omega)
  rw [l_szMethodS_L1] at hF
  refine K_in (K_region (Cm (.int .i64 (k5 : Int)) rfl rfl ?_))
  refine Cm v0_0.v rfl rfl ?_
  refine C_at .h (fun hp => V_lenR (l := a_a.length) sl22 (.tmp rfl rfl) (crd_len hp)) ?_
  refine C_val (V_lss (i := (k5 : Int)) (j := (a_a.length : Int)) (.tmp rfl rfl) (.tmp rfl rfl)) ?_
  refine C_nil (CW_cond (b := (decide (((k5 : Int) : Int) < (a_a.length : Int)))) (.tmp rfl rfl) (fun _ => ?_) (fun hb => absurd (hfe12.symm.trans hb) (by decide)))
  refine CW_skip (K_block (K_region (Cm v0_0.v rfl rfl ?_)))
  refine Cm (.int .i64 (k5 : Int)) rfl rfl ?_
  refine C_idx (a := x7) sl22 ty48.sz (.tmp rfl rfl) (.tmp rfl rfl) .h (Int.natCast_nonneg k5) hx10 (fun k14 j15 => ?_)
  refine C_ldA1 (ul48_0_48 x7) ag48 ty48.sz rfl (.tmp rfl rfl) .h la48_0_48 (fun p16 => ?_)
  refine Cm (.int .i64 c1) rfl rfl ?_
  obtain ⟨r17, hx18, hF⟩ := bind_some hF
  refine C_x0 (.rd .h rfl .nil) (X_callS cf23 (.cons (.tmp rfl rfl) (.cons (.tmp rfl rfl) .nil)) (l_szMethod_ok x7 p16 c1 _ hx18)) (fun _ => ?_)
  refine Ca (.int .i64 r17) rfl rfl ?_
  refine C_nil (K_region (Cm (.int .i64 r17) rfl rfl ?_))
  refine C_val (V_lss (i := r17) (j := 0) (.tmp rfl rfl) (.int _ _)) ?_
  refine C_nil (CW_cond (b := (decide ((r17 : Int) < 0))) (.tmp rfl rfl) (fun hb21 => ?_) (fun hb21 => ?_))
  · rw [if_pos hb21] at hF
    refine K_region (C_val (V_assign (v := (.int .i64 (-1))) (.int _ _)) ?_)
    refine C_nil (CW_ret ?_)
    obtain rfl := Option.some.inj hF
    exact End_ret () (.tmp rfl rfl .nil) rfl (.sel .nil)
  rw [if_neg (by rw [hb21]; exact Bool.false_ne_true)] at hF
  refine CW_skip (CW_region (Cm (.int .i64 (k5 : Int)) rfl rfl ?_))
  refine C_val (V_add (i := (k5 : Int)) (j := 1) (.tmp rfl rfl) (.int _ _)) ?_
  refine Ca (.int .i64 (IntKind.i64.wrap ((k5 : Int) + 1))) rfl rfl ?_
  refine C_nil ?_
  have hw20 : IntKind.i64.wrap ((k5 : Int) + 1) = ((k5 + 1 : Nat) : Int) := by rw [wrap_in (by omega) (by omega)]; rfl
  rw [hw20]
  exact ⟨_, Nat.lt_succ_self _, _, k5 + 1, rest6, _, rfl, (EqL.cons rfl (EqL.cons rfl (EqL.cons rfl (EqL.nil)))).eq, hd11, (.sel (.rd (.t (.t .h)) rfl .nil)), hF⟩

/-! laws.szAccess -/
def l_szAccess (a_a : Access) (a_left : Int) : Option (Int) :=
  (l_szIntS a_a.Values a_left).bind fun r2 =>
  if (decide ((r2 : Int) < 0)) then (
    some (-1))
  else (
    some r2)
theorem l_szAccess_ok (a_a : Access) (v0_1 : Sv) (a_left : Int) (R : Int) (hF : l_szAccess a_a a_left = some R) :
    Fw.Spec Try.prog 24 [(.agg [(.int .i64 a_a.Method), v0_1.v].toArray), (.int .i64 a_left)] [crd (RdS 3 rdInt) v0_1.v a_a.Values] (fun _ : Unit => (.int .i64 R)) (fun _ => []) := by
  refine Spec_enter (n := 12) Try.func24 rfl rfl (rs := [.tmp 4]) rfl rfl rfl ?_
  intro H0 F0
  unfold l_szAccess at hF
  refine K_region (C_newR rfl (N_box (g := false) (v := (.agg [(.int .i64 a_a.Method), v0_1.v].toArray)) ty51.sz (.tmp rfl rfl) rfl) (fun k1 => ?_))
  refine C_val (V_assign (v := (.int .i64 0)) (.int _ _)) ?_
  refine C_nil (K_region (C_val (V_fieldAddr (off := 1) fd51_1 (.tmp rfl rfl)) ?_))
  refine C_at .h (fun hp => V_load (v := v0_1.v) ag26 (.tmp rfl rfl) hp.2 rfl rfl) ?_
  refine Cm (.int .i64 a_left) rfl rfl ?_
  obtain ⟨r2, hx3, hF⟩ := bind_some hF
  refine C_x0 (.rd (.t .h) rfl .nil) (X_callS cf41 (.cons (.tmp rfl rfl) (.cons (.tmp rfl rfl) .nil)) (l_szIntS_ok a_a.Values v0_1 a_left _ hx3)) (fun _ => ?_)
  refine Ca (.int .i64 r2) rfl rfl ?_
  refine C_nil (K_in (K_region (Cm (.int .i64 r2) rfl rfl ?_)))
  refine C_val (V_lss (i := r2) (j := 0) (.tmp rfl rfl) (.int _ _)) ?_
  refine C_nil (CW_cond (b := (decide ((r2 : Int) < 0))) (.tmp rfl rfl) (fun hb5 => ?_) (fun hb5 => ?_))
  · rw [if_pos hb5] at hF
    refine K_region (C_val (V_assign (v := (.int .i64 (-1))) (.int _ _)) ?_)
    refine C_nil (CW_ret ?_)
    obtain rfl := Option.some.inj hF
    exact End_ret () (.tmp rfl rfl .nil) rfl (.sel .nil)
  rw [if_neg (by rw [hb5]; exact Bool.false_ne_true)] at hF
  refine CW_skip (K_region (Cm (.int .i64 r2) rfl rfl ?_))
  refine Ca (.int .i64 r2) rfl rfl ?_
  refine C_nil (CW_ret ?_)
  obtain rfl := Option.some.inj hF
  exact End_ret () (.tmp rfl rfl .nil) rfl (.sel .nil)

/-! laws.szAccessS -/
def l_szAccessS_L1 : List Access → Nat → Int → Option (Int)
  | [], k5, c1 => some c1
  | x7 :: rest6, k5, c1 => (l_szAccess x7 c1).bind fun r17 =>
    if (decide ((r17 : Int) < 0)) then (
      some (-1))
    else (
      l_szAccessS_L1 rest6 (k5 + 1) r17)
def l_szAccessS (a_a : List Access) (a_left : Int) : Option (Int) :=
  if (decide (((IntKind.i64.wrap (a_left - (a_a.length : Int))) : Int) < 0)) then (
    some (-1))
  else (
    l_szAccessS_L1 a_a 0 (IntKind.i64.wrap (a_left - (a_a.length : Int))))
theorem l_szAccessS_ok (a_a : List Access) (v0_0 : Sv) (a_left : Int) (R : Int) (hF : l_szAccessS a_a a_left = some R) :
    Fw.Spec Try.prog 6 [v0_0.v, (.int .i64 a_left)] [crd (RdS 51 rd51) v0_0.v a_a] (fun _ : Unit => (.int .i64 R)) (fun _ => []) := by
  refine Spec_enter (n := 27) Try.func6 rfl rfl (rs := [.tmp 4]) rfl rfl rfl ?_
  intro H0 F0
  unfold l_szAccessS at hF
  refine K_region (C_val (V_assign (v := (.int .i64 0)) (.int _ _)) ?_)
  refine C_nil (K_region (Cm (.int .i64 a_left) rfl rfl ?_))
  refine Cm v0_0.v rfl rfl ?_
  refine C_at .h (fun hp => V_lenR (l := a_a.length) sl23 (.tmp rfl rfl) (crd_len hp)) ?_
  refine C_val (V_sub (i := a_left) (j := (a_a.length : Int)) (.tmp rfl rfl) (.tmp rfl rfl)) ?_
  refine Ca (.int .i64 (IntKind.i64.wrap (a_left - (a_a.length : Int)))) rfl rfl ?_
  refine C_nil (K_in (K_region (Cm (.int .i64 (IntKind.i64.wrap (a_left - (a_a.length : Int)))) rfl rfl ?_)))
  refine C_val (V_lss (i := (IntKind.i64.wrap (a_left - (a_a.length : Int)))) (j := 0) (.tmp rfl rfl) (.int _ _)) ?_
  refine C_nil (CW_cond (b := (decide (((IntKind.i64.wrap (a_left - (a_a.length : Int))) : Int) < 0))) (.tmp rfl rfl) (fun hb22 => ?_) (fun hb22 => ?_))
  · rw [if_pos hb22] at hF
    refine K_region (C_val (V_assign (v := (.int .i64 (-1))) (.int _ _)) ?_)
    refine C_nil (CW_ret ?_)
    obtain rfl := Option.some.inj hF
    exact End_ret () (.tmp rfl rfl .nil) rfl (.sel .nil)
  rw [if_neg (by rw [hb22]; exact Bool.false_ne_true)] at hF
  refine CW_skip (K_in (K_region (C_val (V_assign (v := (.int .i64 0)) (.int _ _)) ?_)))
  refine C_nil (CW_block (CW_loop (m := a_a.length) (fun m3 f' cs' => ∃ (g : Fr) (k5 : Nat) (rest6 : List Access) (c1 : Int), m3 = rest6.length ∧ f' = updL g [(0, v0_0.v), (1, (.int .i64 c1)), (5, (.int .i64 (k5 : Int)))] ∧ List.drop k5 a_a = rest6 ∧ Ent cs' [crd (RdS 51 rd51) v0_0.v a_a] ∧ l_szAccessS_L1 rest6 k5 c1 = some R) ⟨_, 0, _, _, rfl, (EqL.cons rfl (EqL.cons rfl (EqL.cons rfl (EqL.nil)))).eq, rfl, (.sel (.rd .h rfl .nil)), hF⟩ ?_))
  clear hF
  rintro m3 _ _ ⟨g4, k5, rest6, c1, rfl, rfl, hd8, hE, hF⟩
  refine K_ent hE ?_
  clear hE
  refine K_pure (c := crd (RdS 51 rd51) v0_0.v a_a) .h crd_bound (fun hbd13 => ?_)
  rcases rest6 with _ | ⟨x7, rest6⟩
  · have hk9 := List.drop_eq_nil_iff.1 hd8
    have hfe12 : (decide (((k5 : Int) : Int) < (a_a.length : Int))) = false := decide_eq_false (by omega)
    rw [l_szAccessS_L1] at hF
    refine K_in (K_region (Cm (.int .i64 (k5 : Int)) rfl rfl ?_))
    refine Cm v0_0.v rfl rfl ?_
    refine C_at .h (fun hp => V_lenR (l := a_a.length) sl23 (.tmp rfl rfl) (crd_len hp)) ?_
    refine C_val (V_lss (i := (k5 : Int)) (j := (a_a.length : Int)) (.tmp rfl rfl) (.tmp rfl rfl)) ?_
    refine C_nil (CW_cond (b := (decide (((k5 : Int) : Int) < (a_a.length : Int)))) (.tmp rfl rfl) (fun hb => absurd (hfe12.symm.trans hb) (by decide)) (fun _ => ?_))
    refine CW_exit ?_
    iterate 2 refine CThen_exit ?_
    refine CIn_self (K_region (Cm (.int .i64 c1) rfl rfl ?_))
    refine Ca (.int .i64 c1) rfl rfl ?_
    refine C_nil (CW_ret ?_)
    obtain rfl := Option.some.inj hF
    exact End_ret () (.tmp rfl rfl .nil) rfl (.sel .nil)
  obtain ⟨hk9, hx10, hd11⟩ := drop_cons hd8
  have hfe12 : (decide (((k5 : Int) : Int) < (a_a.length : Int))) = true := decide_eq_true (by omega)
  rw [l_szAccessS_L1] at hF
  refine K_in (K_region (Cm (.int .i64 (k5 : Int)) rfl rfl ?_))
  refine Cm v0_0.v rfl rfl ?_
  refine C_at .h (fun hp => V_lenR (l := a_a.length) sl23 (.tmp rfl rfl) (crd_len hp)) ?_
  refine C_val (V_lss (i := (k5 : Int)) (j := (a_a.length : Int)) (.tmp rfl rfl) (.tmp rfl rfl)) ?_
  refine C_nil (CW_cond (b := (decide (((k5 : Int) : Int) < (a_a.length : Int)))) (.tmp rfl rfl) (fun _ => ?_) (fun hb => absurd (hfe12.symm.trans hb) (by decide)))
  refine CW_skip (K_block (K_region (Cm v0_0.v rfl rfl ?_)))
  refine Cm (.int .i64 (k5 : Int)) rfl rfl ?_
  refine C_idx (a := x7) sl23 ty51.sz (.tmp rfl rfl) (.tmp rfl rfl) .h (Int.natCast_nonneg k5) hx10 (fun k14 j15 => ?_)
  refine C_ldA1 (ul51_0_51 x7) ag51 ty51.sz rfl (.tmp rfl rfl) .h la51_0_51 (fun p16 => ?_)
  refine Cm (.int .i64 c1) rfl rfl ?_
  obtain ⟨r17, hx18, hF⟩ := bind_some hF
  refine C_x0 (.rd .h rfl .nil) (X_callS cf24 (.cons (.tmp rfl rfl) (.cons (.tmp rfl rfl) .nil)) (l_szAccess_ok x7 p16 c1 _ hx18)) (fun _ => ?_)
  refine Ca (.int .i64 r17) rfl rfl ?_
  refine C_nil (K_region (Cm (.int .i64 r17) rfl rfl ?_))
  refine C_val (V_lss (i := r17) (j := 0) (.tmp rfl rfl) (.int _ _)) ?_
  refine C_nil (CW_cond (b := (decide ((r17 : Int) < 0))) (.tmp rfl rfl) (fun hb21 => ?_) (fun hb21 => ?_))
  · rw [if_pos hb21] at hF
    refine K_region (C_val (V_assign (v := (.int .i64 (-1))) (.int _ _)) ?_)
    refine C_nil (CW_ret ?_)
    obtain rfl := Option.some.inj hF
    exact End_ret () (.tmp rfl rfl .nil) rfl (.sel .nil)
  rw [if_neg (by rw [hb21]; exact Bool.false_ne_true)] at hF
  refine CW_skip (CW_region (Cm (.int .i64 (k5 : Int)) rfl rfl ?_))
  refine C_val (V_add (i := (k5 : Int)) (j := 1) (.tmp rfl rfl) (.int _ _)) ?_
  refine Ca (.int .i64 (IntKind.i64.wrap ((k5 : Int) + 1))) rfl rfl ?_
  refine C_nil ?_
  have hw20 : IntKind.i64.wrap ((k5 : Int) + 1) = ((k5 + 1 : Nat) : Int) := by rw [wrap_in (by omega) (by omega)]; rfl
  rw [hw20]
  exact ⟨_, Nat.lt_succ_self _, _, k5 + 1, rest6, _, rfl, (EqL.cons rfl (EqL.cons rfl (EqL.cons rfl (EqL.nil)))).eq, hd11, (.sel (.rd (.t (.t .h)) rfl .nil)), hF⟩

/-! laws.toIntS -/
def l_toIntS_L1 : List Int → Nat → (List Int) → Option ((List Int))
  | [], k32, c27 => some c27
  | x34 :: rest33, k32, c27 => (chk (decide (0 ≤ (k32 : Int)) && decide ((k32 : Int) < (c27.length : Int)))).bind fun u46 =>
    (some (c27.set ((k32 : Int)).toNat x34)).bind fun z48 =>
    l_toIntS_L1 rest33 (k32 + 1) z48
def l_toIntS (a_a : List Int) : Option ((List Int)) :=
  (mkz (a_a.length : Int) (0 : Int)).bind fun z1 =>
  l_toIntS_L1 a_a 0 z1
theorem l_toIntS_ok (a_a : List Int) (v0_0 : Sv) (R : (List Int)) (hF : l_toIntS a_a = some R) :
    Fw.Spec Try.prog 45 [v0_0.v] [crd (RdS 3 rdInt) v0_0.v a_a] (fun p : Sv × List Nat => p.1.v) (fun p => [cown (OwnS 3 (roE rdInt)) p.2 p.1.v R]) := by
  refine Spec_enter (n := 22) Try.func45 rfl rfl (rs := [.tmp 2]) rfl rfl rfl ?_
  intro H0 F0
  unfold l_toIntS at hF
  refine K_region (C_val (V_assign (v := (.slice none 0 0)) EV.nilSlice) ?_)
  refine C_nil (K_region (Cm v0_0.v rfl rfl ?_))
  refine C_at .h (fun hp => V_lenR (l := a_a.length) sl26 (.tmp rfl rfl) (crd_len hp)) ?_
  obtain ⟨z1, hx2, hF⟩ := bind_some hF
  have hm3 := mkz_some hx2
  refine C_new rfl (N_makeSlice (g := true) (c := (a_a.length : Int)) sl26 ty3 rfl rfl (by decide) (.tmp rfl rfl) hm3.2.1 hm3.2.2) (fun k4 => ?_)
  refine C_conv (.cons .h .nil) (own_make (Ro := (roE rdInt)) (E := 3) (a := (0 : Int)) hx2 (fun _ => ⟨rfl, rfl⟩)) apps ?_
  refine Ca (.slice (some ⟨k4, 0, none⟩) (a_a.length : Int).toNat 1) rfl rfl ?_
  refine C_nil (K_in (K_region (C_val (V_assign (v := (.int .i64 0)) (.int _ _)) ?_)))
  refine C_nil (CW_block (CW_loop (m := a_a.length) (fun m30 f' cs' => ∃ (g : Fr) (k32 : Nat) (rest33 : List Int) (c27 : List Int) (F28 : List Nat), m30 = rest33.length ∧ f' = updL g [(0, v0_0.v), (3, (.slice (some ⟨k4, 0, none⟩) (a_a.length : Int).toNat 1)), (4, (.int .i64 (k32 : Int)))] ∧ List.drop k32 a_a = rest33 ∧ Ent cs' [crd (RdS 3 rdInt) v0_0.v a_a, cown (OwnS 3 (roE rdInt)) F28 (.slice (some ⟨k4, 0, none⟩) (a_a.length : Int).toNat 1) c27] ∧ l_toIntS_L1 rest33 k32 c27 = some R) ⟨_, 0, _, _, [k4], rfl, (EqL.cons rfl (EqL.cons rfl (EqL.cons rfl (EqL.nil)))).eq, rfl, (.sel (.rd (.t .h) rfl (.cons .h .nil))), hF⟩ ?_))
  clear hF
  rintro m30 _ _ ⟨g31, k32, rest33, c27, F28, rfl, rfl, hd35, hE, hF⟩
  refine K_ent hE ?_
  clear hE
  refine K_pure (c := crd (RdS 3 rdInt) v0_0.v a_a) .h crd_bound (fun hbd40 => ?_)
  rcases rest33 with _ | ⟨x34, rest33⟩
  · have hk36 := List.drop_eq_nil_iff.1 hd35
    have hfe39 : (decide (((k32 : Int) : Int) < (a_a.length : Int))) = false := decide_eq_false (by omega)
    rw [l_toIntS_L1] at hF
    refine K_in (K_region (Cm (.int .i64 (k32 : Int)) rfl rfl ?_))
    refine Cm v0_0.v rfl rfl ?_
    refine C_at .h (fun hp => V_lenR (l := a_a.length) sl26 (.tmp rfl rfl) (crd_len hp)) ?_
    refine C_val (V_lss (i := (k32 : Int)) (j := (a_a.length : Int)) (.tmp rfl rfl) (.tmp rfl rfl)) ?_
    refine C_nil (CW_cond (b := (decide (((k32 : Int) : Int) < (a_a.length : Int)))) (.tmp rfl rfl) (fun hb => absurd (hfe39.symm.trans hb) (by decide)) (fun _ => ?_))
    refine CW_exit ?_
    iterate 2 refine CThen_exit ?_
    refine CIn_self (K_region (Cm (.slice (some ⟨k4, 0, none⟩) (a_a.length : Int).toNat 1) rfl rfl ?_))
    refine Ca (.slice (some ⟨k4, 0, none⟩) (a_a.length : Int).toNat 1) rfl rfl ?_
    refine C_nil (CW_ret ?_)
    obtain rfl := Option.some.inj hF
    exact End_ret (⟨(some ⟨k4, 0, none⟩), (a_a.length : Int).toNat, 1⟩, F28) (.tmp rfl rfl .nil) rfl (.sel (.cons (.t .h) .nil))
  obtain ⟨hk36, hx37, hd38⟩ := drop_cons hd35
  have hfe39 : (decide (((k32 : Int) : Int) < (a_a.length : Int))) = true := decide_eq_true (by omega)
  rw [l_toIntS_L1] at hF
  refine K_in (K_region (Cm (.int .i64 (k32 : Int)) rfl rfl ?_))
  refine Cm v0_0.v rfl rfl ?_
  refine C_at .h (fun hp => V_lenR (l := a_a.length) sl26 (.tmp rfl rfl) (crd_len hp)) ?_
  refine C_val (V_lss (i := (k32 : Int)) (j := (a_a.length : Int)) (.tmp rfl rfl) (.tmp rfl rfl)) ?_
  refine C_nil (CW_cond (b := (decide (((k32 : Int) : Int) < (a_a.length : Int)))) (.tmp rfl rfl) (fun _ => ?_) (fun hb => absurd (hfe39.symm.trans hb) (by decide)))
  refine CW_skip (K_block (CW_region (Cm (.slice (some ⟨k4, 0, none⟩) (a_a.length : Int).toNat 1) rfl rfl ?_)))
  refine Cm (.int .i64 (k32 : Int)) rfl rfl ?_
  refine Cm v0_0.v rfl rfl ?_
  refine Cm (.int .i64 (k32 : Int)) rfl rfl ?_
  refine C_idx (a := x34) sl26 ty3.sz (.tmp rfl rfl) (.tmp rfl rfl) .h (Int.natCast_nonneg k32) hx37 (fun k41 j42 => ?_)
  refine C_ldS (w := (.int .i64 x34)) ag3 (.tmp rfl rfl) .h ls3_0 ?_
  obtain ⟨u46, hx47, hF⟩ := bind_some hF
  have hi45 := chk_some hx47
  refine C_idxO sl26 ty3.sz (.tmp rfl rfl) (.tmp rfl rfl) (.t (.t .h)) hi45 (fun k43 hk44 => ?_)
  obtain ⟨z48, hx49, hF⟩ := bind_some hF
  replace hx49 := Option.some.inj hx49
  refine C_x1 (.cons (.t (.t .h)) .nil) (X_storeO (Ro := (roE rdInt)) (a := x34) (i := (k32 : Int)) ty3.sz rfl (.tmp rfl rfl) (.tmp rfl rfl) hk44 hi45 (Mk_pure (fun _ => rfl)) (fun _ _ _ _ h => by obtain ⟨-, h⟩ := h; cases h; rfl)) (fun F50 => ?_)
  rw [hx49]
  refine C_nil (CW_region (Cm (.int .i64 (k32 : Int)) rfl rfl ?_))
  refine C_val (V_add (i := (k32 : Int)) (j := 1) (.tmp rfl rfl) (.int _ _)) ?_
  refine Ca (.int .i64 (IntKind.i64.wrap ((k32 : Int) + 1))) rfl rfl ?_
  refine C_nil ?_
  have hw51 : IntKind.i64.wrap ((k32 : Int) + 1) = ((k32 + 1 : Nat) : Int) := by rw [wrap_in (by omega) (by omega)]; rfl
  rw [hw51]
  exact ⟨_, Nat.lt_succ_self _, _, k32 + 1, rest33, _, F50, rfl, (EqL.cons rfl (EqL.cons rfl (EqL.cons rfl (EqL.nil)))).eq, hd38, (.sel (.rd (.t (.t .h)) rfl (.cons .h .nil))), hF⟩

/-! laws.toMethod -/
def l_toMethod (a_a : Method) : Option (Method) :=
  (l_toIntS a_a.Inputs).bind fun r4 =>
  some ({ Rel := a_a.Rel, Inputs := r4, Limit := a_a.Limit, Cost := a_a.Cost, Quota := a_a.Quota } : Method)
theorem l_toMethod_ok (a_a : Method) (v0_1 : Sv) (R : Method) (hF : l_toMethod a_a = some R) :
    Fw.Spec Try.prog 27 [(.agg [(.int .i64 a_a.Rel), v0_1.v, (.int .i64 a_a.Limit), (.int .i64 a_a.Cost), (.int .i64 a_a.Quota)].toArray)] [crd (RdS 3 rdInt) v0_1.v a_a.Inputs] (fun p : Sv × List Nat => (.agg [(.int .i64 R.Rel), p.1.v, (.int .i64 R.Limit), (.int .i64 R.Cost), (.int .i64 R.Quota)].toArray)) (fun p => [cown (OwnS 3 (roE rdInt)) p.2 p.1.v R.Inputs]) := by
  refine Spec_enter (n := 21) Try.func27 rfl rfl (rs := [.cell 2 55]) rfl rfl rfl ?_
  intro H0 F0
  unfold l_toMethod at hF
  refine K_region (C_newR rfl (N_box (g := false) (v := (.agg [(.int .i64 a_a.Rel), v0_1.v, (.int .i64 a_a.Limit), (.int .i64 a_a.Cost), (.int .i64 a_a.Quota)].toArray)) ty48.sz (.tmp rfl rfl) rfl) (fun k1 => ?_))
  refine C_new rfl (N_allocT (g := true) ty55 rfl rfl) (fun k2 => ?_)
  refine C_nil (K_region (C_new rfl (N_allocT (g := true) ty55 rfl rfl) (fun k3 => ?_)))
  refine C_nil (K_region (C_val (V_fieldAddr (off := 0) fd48_0 (.tmp rfl rfl)) ?_))
  refine C_at (.t (.t .h)) (fun hp => V_load (v := (.int .i64 a_a.Rel)) ag3 (.tmp rfl rfl) hp.2 rfl rfl) ?_
  refine C_val (V_fieldAddr (off := 0) fd55_0 (.tmp rfl rfl)) ?_
  refine C_x1 (.cons .h .nil) (X_storeB (e' := (.agg [(.int .i64 a_a.Rel), (.slice none 0 0), (.int .i64 0), (.int .i64 0), (.int .i64 0)].toArray)) (v := (.int .i64 a_a.Rel)) ty3.sz (.tmp rfl rfl) (.tmp rfl rfl) rfl rfl rfl rfl rfl) (fun _ => ?_)
  refine C_nil (K_region (C_val (V_fieldAddr (off := 1) fd48_1 (.tmp rfl rfl)) ?_))
  refine C_at (.t (.t .h)) (fun hp => V_load (v := v0_1.v) ag26 (.tmp rfl rfl) hp.2 rfl rfl) ?_
  obtain ⟨r4, hx5, hF⟩ := bind_some hF
  refine C_x1 (.rd (.t (.t (.t .h))) rfl .nil) (X_callS cf45 (.cons (.tmp rfl rfl) .nil) (l_toIntS_ok a_a.Inputs v0_1 _ hx5)) (fun p6 => ?_)
  refine C_val (V_fieldAddr (off := 1) fd55_1 (.tmp rfl rfl)) ?_
  refine C_x1 (.cons (.t .h) .nil) (X_storeB (e' := (.agg [(.int .i64 a_a.Rel), p6.1.v, (.int .i64 0), (.int .i64 0), (.int .i64 0)].toArray)) ty26.sz (.tmp rfl rfl) (.tmp rfl rfl) rfl rfl rfl rfl rfl) (fun _ => ?_)
  refine C_nil (K_region (C_val (V_fieldAddr (off := 2) fd48_2 (.tmp rfl rfl)) ?_))
  refine C_at (.t (.t (.t .h))) (fun hp => V_load (v := (.int .i64 a_a.Limit)) ag3 (.tmp rfl rfl) hp.2 rfl rfl) ?_
  refine C_val (V_fieldAddr (off := 2) fd55_2 (.tmp rfl rfl)) ?_
  refine C_x1 (.cons .h .nil) (X_storeB (e' := (.agg [(.int .i64 a_a.Rel), p6.1.v, (.int .i64 a_a.Limit), (.int .i64 0), (.int .i64 0)].toArray)) (v := (.int .i64 a_a.Limit)) ty3.sz (.tmp rfl rfl) (.tmp rfl rfl) rfl rfl rfl rfl rfl) (fun _ => ?_)
  refine C_nil (K_region (C_val (V_fieldAddr (off := 3) fd48_3 (.tmp rfl rfl)) ?_))
  refine C_at (.t (.t (.t .h))) (fun hp => V_load (v := (.int .i64 a_a.Cost)) ag3 (.tmp rfl rfl) hp.2 rfl rfl) ?_
  refine C_val (V_fieldAddr (off := 3) fd55_3 (.tmp rfl rfl)) ?_
  refine C_x1 (.cons .h .nil) (X_storeB (e' := (.agg [(.int .i64 a_a.Rel), p6.1.v, (.int .i64 a_a.Limit), (.int .i64 a_a.Cost), (.int .i64 0)].toArray)) (v := (.int .i64 a_a.Cost)) ty3.sz (.tmp rfl rfl) (.tmp rfl rfl) rfl rfl rfl rfl rfl) (fun _ => ?_)
  refine C_nil (K_region (C_val (V_fieldAddr (off := 4) fd48_4 (.tmp rfl rfl)) ?_))
  refine C_at (.t (.t (.t .h))) (fun hp => V_load (v := (.int .i64 a_a.Quota)) ag3 (.tmp rfl rfl) hp.2 rfl rfl) ?_
  refine C_val (V_fieldAddr (off := 4) fd55_4 (.tmp rfl rfl)) ?_
  refine C_x1 (.cons .h .nil) (X_storeB (e' := (.agg [(.int .i64 a_a.Rel), p6.1.v, (.int .i64 a_a.Limit), (.int .i64 a_a.Cost), (.int .i64 a_a.Quota)].toArray)) (v := (.int .i64 a_a.Quota)) ty3.sz (.tmp rfl rfl) (.tmp rfl rfl) rfl rfl rfl rfl rfl) (fun _ => ?_)
  refine C_nil (K_region (C_at .h (fun hp => V_loadBox ag55 ty55.sz rfl (.tmp rfl rfl) hp.2 rfl) ?_))
  refine C_x1 (.cons (.t (.t .h)) .nil) (X_storeB (e' := (.agg [(.int .i64 a_a.Rel), p6.1.v, (.int .i64 a_a.Limit), (.int .i64 a_a.Cost), (.int .i64 a_a.Quota)].toArray)) (v := (.agg [(.int .i64 a_a.Rel), p6.1.v, (.int .i64 a_a.Limit), (.int .i64 a_a.Cost), (.int .i64 a_a.Quota)].toArray)) ty55.sz (.tmp rfl rfl) (.tmp rfl rfl) rfl rfl rfl rfl rfl) (fun _ => ?_)
  refine C_nil (CW_ret ?_)
  obtain rfl := Option.some.inj hF
  exact End_ret (p6.1, p6.2) (.cellA rfl rfl .h rfl ag55 ty55.sz rfl rfl .nil) rfl (.sel (.cons (.t (.t .h)) .nil))

/-! laws.toMethodS -/
def l_toMethodS_L1 : List Method → Nat → (List Method) → Option ((List Method))
  | [], k36, c31 => some c31
  | x38 :: rest37, k36, c31 => (l_toMethod x38).bind fun r48 =>
    (chk (decide (0 ≤ (k36 : Int)) && decide ((k36 : Int) < (c31.length : Int)))).bind fun u54 =>
    (some (c31.set ((k36 : Int)).toNat r48)).bind fun z56 =>
    l_toMethodS_L1 rest37 (k36 + 1) z56
def l_toMethodS (a_a : List Method) : Option ((List Method)) :=
  (mkz (a_a.length : Int) (({ Rel := 0, Inputs := [], Limit := 0, Cost := 0, Quota := 0 } : Method) : Method)).bind fun z1 =>
  l_toMethodS_L1 a_a 0 z1
theorem l_toMethodS_ok (a_a : List Method) (v0_0 : Sv) (R : (List Method)) (hF : l_toMethodS a_a = some R) :
    Fw.Spec Try.prog 8 [v0_0.v] [crd (RdS 48 rd48) v0_0.v a_a] (fun p : Sv × List Nat => p.1.v) (fun p => [cown (OwnS 55 ow55) p.2 p.1.v R]) := by
  refine Spec_enter (n := 23) Try.func8 rfl rfl (rs := [.tmp 2]) rfl rfl rfl ?_
  intro H0 F0
  unfold l_toMethodS at hF
  refine K_region (C_val (V_assign (v := (.slice none 0 0)) EV.nilSlice) ?_)
  refine C_nil (K_region (Cm v0_0.v rfl rfl ?_))
  refine C_at .h (fun hp => V_lenR (l := a_a.length) sl22 (.tmp rfl rfl) (crd_len hp)) ?_
  obtain ⟨z1, hx2, hF⟩ := bind_some hF
  have hm3 := mkz_some hx2
  refine C_new rfl (N_makeSlice (g := true) (c := (a_a.length : Int)) sl28 ty55 rfl rfl (by decide) (.tmp rfl rfl) hm3.2.1 hm3.2.2) (fun k4 => ?_)
  refine C_conv (.cons .h .nil) (own_make (Ro := ow55) (E := 55) (a := (({ Rel := 0, Inputs := [], Limit := 0, Cost := 0, Quota := 0 } : Method) : Method)) hx2 (fun _ => ⟨⟨none, 0, 0⟩, [], rfl, rfl, .inl ⟨rfl, rfl, rfl⟩⟩)) apps ?_
  refine Ca (.slice (some ⟨k4, 0, none⟩) (a_a.length : Int).toNat 1) rfl rfl ?_
  refine C_nil (K_in (K_region (C_val (V_assign (v := (.int .i64 0)) (.int _ _)) ?_)))
  refine C_nil (CW_block (CW_loop (m := a_a.length) (fun m34 f' cs' => ∃ (g : Fr) (k36 : Nat) (rest37 : List Method) (c31 : List Method) (F32 : List Nat), m34 = rest37.length ∧ f' = updL g [(0, v0_0.v), (3, (.slice (some ⟨k4, 0, none⟩) (a_a.length : Int).toNat 1)), (4, (.int .i64 (k36 : Int)))] ∧ List.drop k36 a_a = rest37 ∧ Ent cs' [crd (RdS 48 rd48) v0_0.v a_a, cown (OwnS 55 ow55) F32 (.slice (some ⟨k4, 0, none⟩) (a_a.length : Int).toNat 1) c31] ∧ l_toMethodS_L1 rest37 k36 c31 = some R) ⟨_, 0, _, _, [k4], rfl, (EqL.cons rfl (EqL.cons rfl (EqL.cons rfl (EqL.nil)))).eq, rfl, (.sel (.rd (.t .h) rfl (.cons .h .nil))), hF⟩ ?_))
  clear hF
  rintro m34 _ _ ⟨g35, k36, rest37, c31, F32, rfl, rfl, hd39, hE, hF⟩
  refine K_ent hE ?_
  clear hE
  refine K_pure (c := crd (RdS 48 rd48) v0_0.v a_a) .h crd_bound (fun hbd44 => ?_)
  rcases rest37 with _ | ⟨x38, rest37⟩
  · have hk40 := List.drop_eq_nil_iff.1 hd39
    have hfe43 : (decide (((k36 : Int) : Int) < (a_a.length : Int))) = false := decide_eq_false (by omega)
    rw [l_toMethodS_L1] at hF
    refine K_in (K_region (Cm (.int .i64 (k36 : Int)) rfl rfl ?_))
    refine Cm v0_0.v rfl rfl ?_
    refine C_at .h (fun hp => V_lenR (l := a_a.length) sl22 (.tmp rfl rfl) (crd_len hp)) ?_
    refine C_val (V_lss (i := (k36 : Int)) (j := (a_a.length : Int)) (.tmp rfl rfl) (.tmp rfl rfl)) ?_
    refine C_nil (CW_cond (b := (decide (((k36 : Int) : Int) < (a_a.length : Int)))) (.tmp rfl rfl) (fun hb => absurd (hfe43.symm.trans hb) (by decide)) (fun _ => ?_))
    refine CW_exit ?_
    iterate 2 refine CThen_exit ?_
    refine CIn_self (K_region (Cm (.slice (some ⟨k4, 0, none⟩) (a_a.length : Int).toNat 1) rfl rfl ?_))
    refine Ca (.slice (some ⟨k4, 0, none⟩) (a_a.length : Int).toNat 1) rfl rfl ?_
    refine C_nil (CW_ret ?_)
    obtain rfl := Option.some.inj hF
    exact End_ret (⟨(some ⟨k4, 0, none⟩), (a_a.length : Int).toNat, 1⟩, F32) (.tmp rfl rfl .nil) rfl (.sel (.cons (.t .h) .nil))
  obtain ⟨hk40, hx41, hd42⟩ := drop_cons hd39
  have hfe43 : (decide (((k36 : Int) : Int) < (a_a.length : Int))) = true := decide_eq_true (by omega)
  rw [l_toMethodS_L1] at hF
  refine K_in (K_region (Cm (.int .i64 (k36 : Int)) rfl rfl ?_))
  refine Cm v0_0.v rfl rfl ?_
  refine C_at .h (fun hp => V_lenR (l := a_a.length) sl22 (.tmp rfl rfl) (crd_len hp)) ?_
  refine C_val (V_lss (i := (k36 : Int)) (j := (a_a.length : Int)) (.tmp rfl rfl) (.tmp rfl rfl)) ?_
  refine C_nil (CW_cond (b := (decide (((k36 : Int) : Int) < (a_a.length : Int)))) (.tmp rfl rfl) (fun _ => ?_) (fun hb => absurd (hfe43.symm.trans hb) (by decide)))
  refine CW_skip (K_block (CW_region (Cm (.slice (some ⟨k4, 0, none⟩) (a_a.length : Int).toNat 1) rfl rfl ?_)))
  refine Cm (.int .i64 (k36 : Int)) rfl rfl ?_
  refine Cm v0_0.v rfl rfl ?_
  refine Cm (.int .i64 (k36 : Int)) rfl rfl ?_
  refine C_idx (a := x38) sl22 ty48.sz (.tmp rfl rfl) (.tmp rfl rfl) .h (Int.natCast_nonneg k36) hx41 (fun k45 j46 => ?_)
  refine C_ldA1 (ul48_0_48 x38) ag48 ty48.sz rfl (.tmp rfl rfl) .h la48_0_48 (fun p47 => ?_)
  obtain ⟨r48, hx49, hF⟩ := bind_some hF
  refine C_x1 (.rd .h rfl .nil) (X_callS cf27 (.cons (.tmp rfl rfl) .nil) (l_toMethod_ok x38 p47 _ hx49)) (fun p50 => ?_)
  obtain ⟨u54, hx55, hF⟩ := bind_some hF
  have hi53 := chk_some hx55
  refine C_idxO sl28 ty55.sz (.tmp rfl rfl) (.tmp rfl rfl) (.t (.t (.t (.t .h)))) hi53 (fun k51 hk52 => ?_)
  obtain ⟨z56, hx57, hF⟩ := bind_some hF
  replace hx57 := Option.some.inj hx57
  refine C_x1 (.cons (.t (.t (.t (.t .h)))) (.cons .h .nil)) (X_storeO (Ro := ow55) (a := r48) (i := (k36 : Int)) ty55.sz rfl (.tmp rfl rfl) (.tmp rfl rfl) hk52 hi53 mk55 (fun _ _ _ _ h => by obtain ⟨_, _, rfl, rfl, _⟩ := h; rfl)) (fun F58 => ?_)
  rw [hx57]
  refine C_nil (CW_region (Cm (.int .i64 (k36 : Int)) rfl rfl ?_))
  refine C_val (V_add (i := (k36 : Int)) (j := 1) (.tmp rfl rfl) (.int _ _)) ?_
  refine Ca (.int .i64 (IntKind.i64.wrap ((k36 : Int) + 1))) rfl rfl ?_
  refine C_nil ?_
  have hw59 : IntKind.i64.wrap ((k36 : Int) + 1) = ((k36 + 1 : Nat) : Int) := by rw [wrap_in (by omega) (by omega)]; rfl
  rw [hw59]
  exact ⟨_, Nat.lt_succ_self _, _, k36 + 1, rest37, _, F58, rfl, (EqL.cons rfl (EqL.cons rfl (EqL.cons rfl (EqL.nil)))).eq, hd42, (.sel (.rd (.t (.t (.t .h))) rfl (.cons .h .nil))), hF⟩

/-! laws.toAccess -/
def l_toAccess (a_a : Access) : Option (Access) :=
  (l_toIntS a_a.Values).bind fun r4 =>
  some ({ Method := a_a.Method, Values := r4 } : Access)
theorem l_toAccess_ok (a_a : Access) (v0_1 : Sv) (R : Access) (hF : l_toAccess a_a = some R) :
    Fw.Spec Try.prog 28 [(.agg [(.int .i64 a_a.Method), v0_1.v].toArray)] [crd (RdS 3 rdInt) v0_1.v a_a.Values] (fun p : Sv × List Nat => (.agg [(.int .i64 R.Method), p.1.v].toArray)) (fun p => [cown (OwnS 3 (roE rdInt)) p.2 p.1.v R.Values]) := by
  refine Spec_enter (n := 12) Try.func28 rfl rfl (rs := [.cell 2 53]) rfl rfl rfl ?_
  intro H0 F0
  unfold l_toAccess at hF
  refine K_region (C_newR rfl (N_box (g := false) (v := (.agg [(.int .i64 a_a.Method), v0_1.v].toArray)) ty51.sz (.tmp rfl rfl) rfl) (fun k1 => ?_))
  refine C_new rfl (N_allocT (g := true) ty53 rfl rfl) (fun k2 => ?_)
  refine C_nil (K_region (C_new rfl (N_allocT (g := true) ty53 rfl rfl) (fun k3 => ?_)))
  refine C_nil (K_region (C_val (V_fieldAddr (off := 0) fd51_0 (.tmp rfl rfl)) ?_))
  refine C_at (.t (.t .h)) (fun hp => V_load (v := (.int .i64 a_a.Method)) ag3 (.tmp rfl rfl) hp.2 rfl rfl) ?_
  refine C_val (V_fieldAddr (off := 0) fd53_0 (.tmp rfl rfl)) ?_
  refine C_x1 (.cons .h .nil) (X_storeB (e' := (.agg [(.int .i64 a_a.Method), (.slice none 0 0)].toArray)) (v := (.int .i64 a_a.Method)) ty3.sz (.tmp rfl rfl) (.tmp rfl rfl) rfl rfl rfl rfl rfl) (fun _ => ?_)
  refine C_nil (K_region (C_val (V_fieldAddr (off := 1) fd51_1 (.tmp rfl rfl)) ?_))
  refine C_at (.t (.t .h)) (fun hp => V_load (v := v0_1.v) ag26 (.tmp rfl rfl) hp.2 rfl rfl) ?_
  obtain ⟨r4, hx5, hF⟩ := bind_some hF
  refine C_x1 (.rd (.t (.t (.t .h))) rfl .nil) (X_callS cf45 (.cons (.tmp rfl rfl) .nil) (l_toIntS_ok a_a.Values v0_1 _ hx5)) (fun p6 => ?_)
  refine C_val (V_fieldAddr (off := 1) fd53_1 (.tmp rfl rfl)) ?_
  refine C_x1 (.cons (.t .h) .nil) (X_storeB (e' := (.agg [(.int .i64 a_a.Method), p6.1.v].toArray)) ty26.sz (.tmp rfl rfl) (.tmp rfl rfl) rfl rfl rfl rfl rfl) (fun _ => ?_)
  refine C_nil (K_region (C_at .h (fun hp => V_loadBox ag53 ty53.sz rfl (.tmp rfl rfl) hp.2 rfl) ?_))
  refine C_x1 (.cons (.t (.t .h)) .nil) (X_storeB (e' := (.agg [(.int .i64 a_a.Method), p6.1.v].toArray)) (v := (.agg [(.int .i64 a_a.Method), p6.1.v].toArray)) ty53.sz (.tmp rfl rfl) (.tmp rfl rfl) rfl rfl rfl rfl rfl) (fun _ => ?_)
  refine C_nil (CW_ret ?_)
  obtain rfl := Option.some.inj hF
  exact End_ret (p6.1, p6.2) (.cellA rfl rfl .h rfl ag53 ty53.sz rfl rfl .nil) rfl (.sel (.cons (.t (.t .h)) .nil))

/-! laws.toAccessS -/
def l_toAccessS_L1 : List Access → Nat → (List Access) → Option ((List Access))
  | [], k36, c31 => some c31
  | x38 :: rest37, k36, c31 => (l_toAccess x38).bind fun r48 =>
    (chk (decide (0 ≤ (k36 : Int)) && decide ((k36 : Int) < (c31.length : Int)))).bind fun u54 =>
    (some (c31.set ((k36 : Int)).toNat r48)).bind fun z56 =>
    l_toAccessS_L1 rest37 (k36 + 1) z56
def l_toAccessS (a_a : List Access) : Option ((List Access)) :=
  (mkz (a_a.length : Int) (({ Method := 0, Values := [] } : Access) : Access)).bind fun z1 =>
  l_toAccessS_L1 a_a 0 z1
theorem l_toAccessS_ok (a_a : List Access) (v0_0 : Sv) (R : (List Access)) (hF : l_toAccessS a_a = some R) :
    Fw.Spec Try.prog 9 [v0_0.v] [crd (RdS 51 rd51) v0_0.v a_a] (fun p : Sv × List Nat => p.1.v) (fun p => [cown (OwnS 53 ow53) p.2 p.1.v R]) := by
  refine Spec_enter (n := 23) Try.func9 rfl rfl (rs := [.tmp 2]) rfl rfl rfl ?_
  intro H0 F0
  unfold l_toAccessS at hF
  refine K_region (C_val (V_assign (v := (.slice none 0 0)) EV.nilSlice) ?_)
  refine C_nil (K_region (Cm v0_0.v rfl rfl ?_))
  refine C_at .h (fun hp => V_lenR (l := a_a.length) sl23 (.tmp rfl rfl) (crd_len hp)) ?_
  obtain ⟨z1, hx2, hF⟩ := bind_some hF
  have hm3 := mkz_some hx2
  refine C_new rfl (N_makeSlice (g := true) (c := (a_a.length : Int)) sl30 ty53 rfl rfl (by decide) (.tmp rfl rfl) hm3.2.1 hm3.2.2) (fun k4 => ?_)
  refine C_conv (.cons .h .nil) (own_make (Ro := ow53) (E := 53) (a := (({ Method := 0, Values := [] } : Access) : Access)) hx2 (fun _ => ⟨⟨none, 0, 0⟩, [], rfl, rfl, .inl ⟨rfl, rfl, rfl⟩⟩)) apps ?_
  refine Ca (.slice (some ⟨k4, 0, none⟩) (a_a.length : Int).toNat 1) rfl rfl ?_
  refine C_nil (K_in (K_region (C_val (V_assign (v := (.int .i64 0)) (.int _ _)) ?_)))
  refine C_nil (CW_block (CW_loop (m := a_a.length) (fun m34 f' cs' => ∃ (g : Fr) (k36 : Nat) (rest37 : List Access) (c31 : List Access) (F32 : List Nat), m34 = rest37.length ∧ f' = updL g [(0, v0_0.v), (3, (.slice (some ⟨k4, 0, none⟩) (a_a.length : Int).toNat 1)), (4, (.int .i64 (k36 : Int)))] ∧ List.drop k36 a_a = rest37 ∧ Ent cs' [crd (RdS 51 rd51) v0_0.v a_a, cown (OwnS 53 ow53) F32 (.slice (some ⟨k4, 0, none⟩) (a_a.length : Int).toNat 1) c31] ∧ l_toAccessS_L1 rest37 k36 c31 = some R) ⟨_, 0, _, _, [k4], rfl, (EqL.cons rfl (EqL.cons rfl (EqL.cons rfl (EqL.nil)))).eq, rfl, (.sel (.rd (.t .h) rfl (.cons .h .nil))), hF⟩ ?_))
  clear hF
  rintro m34 _ _ ⟨g35, k36, rest37, c31, F32, rfl, rfl, hd39, hE, hF⟩
  refine K_ent hE ?_
  clear hE
  refine K_pure (c := crd (RdS 51 rd51) v0_0.v a_a) .h crd_bound (fun hbd44 => ?_)
  rcases rest37 with _ | ⟨x38, rest37⟩
  · have hk40 := List.drop_eq_nil_iff.1 hd39
    have hfe43 : (decide (((k36 : Int) : Int) < (a_a.length : Int))) = false := decide_eq_false (by omega)
    rw [l_toAccessS_L1] at hF
    refine K_in (K_region (Cm (.int .i64 (k36 : Int)) rfl rfl ?_))
    refine Cm v0_0.v rfl rfl ?_
    refine C_at .h (fun hp => V_lenR (l := a_a.length) sl23 (.tmp rfl rfl) (crd_len hp)) ?_
    refine C_val (V_lss (i := (k36 : Int)) (j := (a_a.length : Int)) (.tmp rfl rfl) (.tmp rfl rfl)) ?_
    refine C_nil (CW_cond (b := (decide (((k36 : Int) : Int) < (a_a.length : Int)))) (.tmp rfl rfl) (fun hb => absurd (hfe43.symm.trans hb) (by decide)) (fun _ => ?_))
    refine CW_exit ?_
    iterate 2 refine CThen_exit ?_
    refine CIn_self (K_region (Cm (.slice (some ⟨k4, 0, none⟩) (a_a.length : Int).toNat 1) rfl rfl ?_))
    refine Ca (.slice (some ⟨k4, 0, none⟩) (a_a.length : Int).toNat 1) rfl rfl ?_
    refine C_nil (CW_ret ?_)
    obtain rfl := Option.some.inj hF
    exact End_ret (⟨(some ⟨k4, 0, none⟩), (a_a.length : Int).toNat, 1⟩, F32) (.tmp rfl rfl .nil) rfl (.sel (.cons (.t .h) .nil))
  obtain ⟨hk40, hx41, hd42⟩ := drop_cons hd39
  have hfe43 : (decide (((k36 : Int) : Int) < (a_a.length : Int))) = true := decide_eq_true (by omega)
  rw [l_toAccessS_L1] at hF
  refine K_in (K_region (Cm (.int .i64 (k36 : Int)) rfl rfl ?_))
  refine Cm v0_0.v rfl rfl ?_
  refine C_at .h (fun hp => V_lenR (l := a_a.length) sl23 (.tmp rfl rfl) (crd_len hp)) ?_
  refine C_val (V_lss (i := (k36 : Int)) (j := (a_a.length : Int)) (.tmp rfl rfl) (.tmp rfl rfl)) ?_
  refine C_nil (CW_cond (b := (decide (((k36 : Int) : Int) < (a_a.length : Int)))) (.tmp rfl rfl) (fun _ => ?_) (fun hb => absurd (hfe43.symm.trans hb) (by decide)))
  refine CW_skip (K_block (CW_region (Cm (.slice (some ⟨k4, 0, none⟩) (a_a.length : Int).toNat 1) rfl rfl ?_)))
  refine Cm (.int .i64 (k36 : Int)) rfl rfl ?_
  refine Cm v0_0.v rfl rfl ?_
  refine Cm (.int .i64 (k36 : Int)) rfl rfl ?_
  refine C_idx (a := x38) sl23 ty51.sz (.tmp rfl rfl) (.tmp rfl rfl) .h (Int.natCast_nonneg k36) hx41 (fun k45 j46 => ?_)
  refine C_ldA1 (ul51_0_51 x38) ag51 ty51.sz rfl (.tmp rfl rfl) .h la51_0_51 (fun p47 => ?_)
  obtain ⟨r48, hx49, hF⟩ := bind_some hF
  refine C_x1 (.rd .h rfl .nil) (X_callS cf28 (.cons (.tmp rfl rfl) .nil) (l_toAccess_ok x38 p47 _ hx49)) (fun p50 => ?_)
  obtain ⟨u54, hx55, hF⟩ := bind_some hF
  have hi53 := chk_some hx55
  refine C_idxO sl30 ty53.sz (.tmp rfl rfl) (.tmp rfl rfl) (.t (.t (.t (.t .h)))) hi53 (fun k51 hk52 => ?_)
  obtain ⟨z56, hx57, hF⟩ := bind_some hF
  replace hx57 := Option.some.inj hx57
  refine C_x1 (.cons (.t (.t (.t (.t .h)))) (.cons .h .nil)) (X_storeO (Ro := ow53) (a := r48) (i := (k36 : Int)) ty53.sz rfl (.tmp rfl rfl) (.tmp rfl rfl) hk52 hi53 mk53 (fun _ _ _ _ h => by obtain ⟨_, _, rfl, rfl, _⟩ := h; rfl)) (fun F58 => ?_)
  rw [hx57]
  refine C_nil (CW_region (Cm (.int .i64 (k36 : Int)) rfl rfl ?_))
  refine C_val (V_add (i := (k36 : Int)) (j := 1) (.tmp rfl rfl) (.int _ _)) ?_
  refine Ca (.int .i64 (IntKind.i64.wrap ((k36 : Int) + 1))) rfl rfl ?_
  refine C_nil ?_
  have hw59 : IntKind.i64.wrap ((k36 : Int) + 1) = ((k36 + 1 : Nat) : Int) := by rw [wrap_in (by omega) (by omega)]; rfl
  rw [hw59]
  exact ⟨_, Nat.lt_succ_self _, _, k36 + 1, rest37, _, F58, rfl, (EqL.cons rfl (EqL.cons rfl (EqL.cons rfl (EqL.nil)))).eq, hd42, (.sel (.rd (.t (.t (.t .h))) rfl (.cons .h .nil))), hF⟩

/-! spec.l1In -/
def s_l1In (a_x : Int) (a_low : Int) (a_high : Int) : Option (Bool) :=
  some ((decide ((a_low : Int) ≤ a_x)) && (decide ((a_x : Int) ≤ a_high)))
theorem s_l1In_ok (a_x : Int) (a_low : Int) (a_high : Int) (R : Bool) (hF : s_l1In a_x a_low a_high = some R) :
    Fw.Spec Try.prog 42 [(.int .i64 a_x), (.int .i64 a_low), (.int .i64 a_high)] [] (fun _ : Unit => (.bool R)) (fun _ => []) := by
  refine Spec_enter (n := 15) Try.func42 rfl rfl (rs := [.tmp 6]) rfl rfl rfl ?_
  intro H0 F0
  unfold s_l1In at hF
  refine K_region (C_val (V_assign (v := (.bool false)) (.bool _)) ?_)
  refine C_nil (K_region (C_cut (fun f' cs' => ∃ (g : Fr), f' = updL g [(6, (.bool ((decide ((a_low : Int) ≤ a_x)) && (decide ((a_x : Int) ≤ a_high)))))] ∧ Ent cs' []) ?_ ?_))
  · refine Cm (.int .i64 a_x) rfl rfl ?_
    refine Cm (.int .i64 a_low) rfl rfl ?_
    refine C_val (V_geq (i := a_x) (j := a_low) (.tmp rfl rfl) (.tmp rfl rfl)) ?_
    refine Cm (.bool (decide ((a_low : Int) ≤ a_x))) rfl rfl ?_
    rcases Bool.eq_false_or_eq_true (decide ((a_low : Int) ≤ a_x)) with hg1 | hg1
    · rw [hg1]
      try rw [hg1] at hF; dsimp only [cond_true, cond_false] at hF
      refine C_on (t := 10) rfl rfl rfl ?_
      refine Cm (.int .i64 a_x) rfl rfl ?_
      refine C_on (t := 10) rfl rfl rfl ?_
      refine Cm (.int .i64 a_high) rfl rfl ?_
      refine C_on (t := 10) rfl rfl rfl ?_
      refine C_val (V_leq (i := a_x) (j := a_high) (.tmp rfl rfl) (.tmp rfl rfl)) ?_
      refine C_val (V_pick (b := true) (u := (.bool (decide ((a_x : Int) ≤ a_high)))) (v := (.bool false)) (.tmp rfl rfl) (.tmp rfl rfl) (.bool _)) ?_
      refine Ca (.bool (decide ((a_x : Int) ≤ a_high))) rfl rfl ?_
      refine C_nil ?_
      exact ⟨_, (EqL.cons rfl (EqL.nil)).eq, (.sel .nil)⟩
    rw [hg1]
    try rw [hg1] at hF; dsimp only [cond_true, cond_false] at hF
    iterate 3 refine C_off (t := 10) rfl rfl rfl ?_
    refine C_val (V_pick (b := false) (u := undef) (v := (.bool false)) (.tmp rfl rfl) (.tmp rfl rfl) (.bool _)) ?_
    refine Ca (.bool false) rfl rfl ?_
    refine C_nil ?_
    exact ⟨_, (EqL.cons rfl (EqL.nil)).eq, (.sel .nil)⟩
  rintro _ _ ⟨g2, rfl, hE⟩
  refine K_ent hE ?_
  refine CW_ret ?_
  obtain rfl := Option.some.inj hF
  exact End_ret () (.tmp rfl rfl .nil) rfl (.sel .nil)

/-! spec.l8Access -/
def s_l8Access (a_m : Int) (a_values : List Int) : Option (Access) :=
  (app ([] : List Int) a_values).bind fun z3 =>
  some ({ Method := a_m, Values := z3 } : Access)
theorem s_l8Access_ok (a_m : Int) (a_values : List Int) (v1_0 : Sv) (R : Access) (hF : s_l8Access a_m a_values = some R) :
    Fw.Spec Try.prog 43 [(.int .i64 a_m), v1_0.v] [crd (RdS 3 rdInt) v1_0.v a_values] (fun p : Sv × List Nat => (.agg [(.int .i64 R.Method), p.1.v].toArray)) (fun p => [cown (OwnS 3 (roE rdInt)) p.2 p.1.v R.Values]) := by
  refine Spec_enter (n := 10) Try.func43 rfl rfl (rs := [.cell 4 53]) rfl rfl rfl ?_
  intro H0 F0
  unfold s_l8Access at hF
  refine K_region (C_new rfl (N_allocT (g := true) ty53 rfl rfl) (fun k1 => ?_))
  refine C_nil (K_region (Cm (.int .i64 a_m) rfl rfl ?_))
  refine C_new rfl (N_buildSliceT (g := true) sl26 ty3 .nil (vs := []) rfl rfl rfl (by simp)) (fun k2 => ?_)
  refine C_conv (.cons .h .nil) (own_lit (Ro := (roE rdInt)) (E := 3) (F := []) (xs := ([] : List Int)) MkL_nil rfl rfl) apps ?_
  refine Cm v1_0.v rfl rfl ?_
  obtain ⟨z3, hx4, hF⟩ := bind_some hF
  refine C_x1 (.cons .h (.rd (.t .h) rfl .nil)) (X_appendO (Ro := (roE rdInt)) sl26 ni26 ty3 rfl rfl rfl (.tmp rfl rfl) (.tmp rfl rfl) hx4 src_rd) (fun p5 => ?_)
  refine C_val (V_build ty53 rfl (vs := [(.int .i64 a_m), p5.1.v]) (.cons (.tmp rfl rfl) (.cons (.tmp rfl rfl) .nil)) (cells := [(.int .i64 a_m), p5.1.v]) rfl) ?_
  refine C_x1 (.cons (.t .h) .nil) (X_storeB (e' := (.agg [(.int .i64 a_m), p5.1.v].toArray)) (v := (.agg [(.int .i64 a_m), p5.1.v].toArray)) ty53.sz (.tmp rfl rfl) (.tmp rfl rfl) rfl rfl rfl rfl rfl) (fun _ => ?_)
  refine C_nil (CW_ret ?_)
  obtain rfl := Option.some.inj hF
  exact End_ret (p5.1, p5.2) (.cellA rfl rfl .h rfl ag53 ty53.sz rfl rfl .nil) rfl (.sel (.cons (.t .h) .nil))

/-! spec.ViewOf -/
def s_ViewOf_L1 (a_l : List Method) (a_rel : Int) : List Access → Nat → (List Access) → Option ((List Access))
  | [], k8, c2 => some c2
  | x10 :: rest9, k8, c2 => (((s_l1In x10.Method 0 (IntKind.i64.wrap ((a_l.length : Int) - 1))).bind fun r23 =>
        bif r23 then ((ix a_l x10.Method).bind fun x29 =>
          some ((x29.Rel : Int) == a_rel))
        else (some false)).bind fun o19 =>
      match o19 with
      | c35 => if c35 then (
          (s_l8Access x10.Method x10.Values).bind fun r41 =>
          (app c2 ([r41] : List Access)).bind fun z45 =>
          some z45)
        else (
          some c2)).bind fun o17 =>
    match o17 with
    | c50 => s_ViewOf_L1 a_l a_rel rest9 (k8 + 1) c50
def s_ViewOf (a_l : List Method) (a_log : List Access) (a_rel : Int) : Option ((List Access)) :=
  s_ViewOf_L1 a_l a_rel a_log 0 ([] : List Access)
theorem s_ViewOf_ok (a_l : List Method) (v0_0 : Sv) (a_log : List Access) (v1_0 : Sv) (a_rel : Int) (R : (List Access)) (hF : s_ViewOf a_l a_log a_rel = some R) :
    Fw.Spec Try.prog 25 [v0_0.v, v1_0.v, (.int .i64 a_rel)] [crd (RdS 55 rd55) v0_0.v a_l, crd (RdS 53 rd53) v1_0.v a_log] (fun p : Sv × List Nat => p.1.v) (fun p => [cown (OwnS 53 ow53) p.2 p.1.v R]) := by
  refine Spec_enter (n := 53) Try.func25 rfl rfl (rs := [.tmp 6]) rfl rfl rfl ?_
  intro H0 F0
  unfold s_ViewOf at hF
  refine K_region (C_val (V_assign (v := (.slice none 0 0)) EV.nilSlice) ?_)
  refine C_nil (K_region (C_new rfl (N_buildSliceT (g := true) sl30 ty53 .nil (vs := []) rfl rfl rfl (by simp)) (fun k1 => ?_)))
  refine C_conv (.cons .h .nil) (own_lit (Ro := ow53) (E := 53) (F := []) (xs := ([] : List Access)) MkL_nil rfl rfl) apps ?_
  refine Ca (.slice (some ⟨k1, 0, none⟩) 0 1) rfl rfl ?_
  refine C_nil (K_in (K_region (C_val (V_assign (v := (.int .i64 0)) (.int _ _)) ?_)))
  refine C_nil (CW_block (CW_loop (m := a_log.length) (fun m6 f' cs' => ∃ (g : Fr) (k8 : Nat) (rest9 : List Access) (c2 : List Access) (v3 : Sv) (F4 : List Nat), m6 = rest9.length ∧ f' = updL g [(0, v0_0.v), (1, v1_0.v), (2, (.int .i64 a_rel)), (7, v3.v), (8, (.int .i64 (k8 : Int)))] ∧ List.drop k8 a_log = rest9 ∧ Ent cs' [crd (RdS 55 rd55) v0_0.v a_l, crd (RdS 53 rd53) v1_0.v a_log, cown (OwnS 53 ow53) F4 v3.v c2] ∧ s_ViewOf_L1 a_l a_rel rest9 k8 c2 = some R) ⟨_, 0, _, _, ⟨(some ⟨k1, 0, none⟩), 0, 1⟩, (k1 :: []), rfl, (EqL.cons rfl (EqL.cons rfl (EqL.cons rfl (EqL.cons rfl (EqL.cons rfl (EqL.nil)))))).eq, rfl, (.sel (.rd (.t .h) rfl (.rd (.t (.t .h)) rfl (.cons .h .nil)))), hF⟩ ?_))
  clear hF
  rintro m6 _ _ ⟨g7, k8, rest9, c2, v3, F4, rfl, rfl, hd11, hE, hF⟩
  refine K_ent hE ?_
  clear hE
  refine K_pure (c := crd (RdS 53 rd53) v1_0.v a_log) (.t .h) crd_bound (fun hbd16 => ?_)
  rcases rest9 with _ | ⟨x10, rest9⟩
  · have hk12 := List.drop_eq_nil_iff.1 hd11
    have hfe15 : (decide (((k8 : Int) : Int) < (a_log.length : Int))) = false := decide_eq_false (by omega)
    rw [s_ViewOf_L1] at hF
    refine K_in (K_region (Cm (.int .i64 (k8 : Int)) rfl rfl ?_))
    refine Cm v1_0.v rfl rfl ?_
    refine C_at (.t .h) (fun hp => V_lenR (l := a_log.length) sl30 (.tmp rfl rfl) (crd_len hp)) ?_
    refine C_val (V_lss (i := (k8 : Int)) (j := (a_log.length : Int)) (.tmp rfl rfl) (.tmp rfl rfl)) ?_
    refine C_nil (CW_cond (b := (decide (((k8 : Int) : Int) < (a_log.length : Int)))) (.tmp rfl rfl) (fun hb => absurd (hfe15.symm.trans hb) (by decide)) (fun _ => ?_))
    refine CW_exit ?_
    iterate 2 refine CThen_exit ?_
    refine CIn_self (K_region (Cm v3.v rfl rfl ?_))
    refine Ca v3.v rfl rfl ?_
    refine C_nil (CW_ret ?_)
    obtain rfl := Option.some.inj hF
    exact End_ret (v3, F4) (.tmp rfl rfl .nil) rfl (.sel (.cons (.t (.t .h)) .nil))
  obtain ⟨hk12, hx13, hd14⟩ := drop_cons hd11
  have hfe15 : (decide (((k8 : Int) : Int) < (a_log.length : Int))) = true := decide_eq_true (by omega)
  rw [s_ViewOf_L1] at hF
  refine K_in (K_region (Cm (.int .i64 (k8 : Int)) rfl rfl ?_))
  refine Cm v1_0.v rfl rfl ?_
  refine C_at (.t .h) (fun hp => V_lenR (l := a_log.length) sl30 (.tmp rfl rfl) (crd_len hp)) ?_
  refine C_val (V_lss (i := (k8 : Int)) (j := (a_log.length : Int)) (.tmp rfl rfl) (.tmp rfl rfl)) ?_
  refine C_nil (CW_cond (b := (decide (((k8 : Int) : Int) < (a_log.length : Int)))) (.tmp rfl rfl) (fun _ => ?_) (fun hb => absurd (hfe15.symm.trans hb) (by decide)))
  refine CW_skip ?_
  obtain ⟨o17, hio17, hO18⟩ := bind_some hF
  refine K_cut (fun f' cs' => ∃ (c50 : List Access) (v51 : Sv) (F52 : List Nat) (g : Fr), c50 = o17 ∧ f' = updL g [(0, v0_0.v), (1, v1_0.v), (2, (.int .i64 a_rel)), (7, v51.v), (8, (.int .i64 (k8 : Int)))] ∧ Ent cs' [crd (RdS 55 rd55) v0_0.v a_l, crd (RdS 53 rd53) v1_0.v a_log, cown (OwnS 53 ow53) F52 v51.v c50]) ?_ ?_
  · replace hF := hio17
    refine CW_block ?_
    obtain ⟨o19, hio19, hO20⟩ := bind_some hF
    refine K_region (C_cut (fun f' cs' => ∃ (c35 : Bool) (g : Fr), c35 = o19 ∧ f' = updL g [(0, v0_0.v), (1, v1_0.v), (2, (.int .i64 a_rel)), (7, v3.v), (8, (.int .i64 (k8 : Int))), (37, (.bool c35))] ∧ Ent cs' [crd (RdS 55 rd55) v0_0.v a_l, crd (RdS 53 rd53) v1_0.v a_log, cown (OwnS 53 ow53) F4 v3.v c2]) ?_ ?_)
    · replace hF := hio19
      refine Cm v1_0.v rfl rfl ?_
      refine Cm (.int .i64 (k8 : Int)) rfl rfl ?_
      refine C_idx (a := x10) sl30 ty53.sz (.tmp rfl rfl) (.tmp rfl rfl) (.t .h) (Int.natCast_nonneg k8) hx13 (fun k21 j22 => ?_)
      refine C_val (V_fieldAddr (off := 0) fd53_0 (.tmp rfl rfl)) ?_
      refine C_ldS (w := (.int .i64 x10.Method)) ag3 (.tmp rfl rfl) .h ls53_0 ?_
      refine Cm v0_0.v rfl rfl ?_
      refine C_at (.t .h) (fun hp => V_lenR (l := a_l.length) sl28 (.tmp rfl rfl) (crd_len hp)) ?_
      refine C_val (V_sub (i := (a_l.length : Int)) (j := 1) (.tmp rfl rfl) (.int _ _)) ?_
      obtain ⟨r23, hx24, hF⟩ := bind_some hF
      refine C_x0 .nil (X_callS cf42 (.cons (.tmp rfl rfl) (.cons (.int _ _) (.cons (.tmp rfl rfl) .nil))) (s_l1In_ok x10.Method 0 (IntKind.i64.wrap ((a_l.length : Int) - 1)) _ hx24)) (fun _ => ?_)
      refine Cm (.bool r23) rfl rfl ?_
      rcases Bool.eq_false_or_eq_true r23 with hg26 | hg26
      · rw [hg26]
        try rw [hg26] at hF; dsimp only [cond_true, cond_false] at hF
        refine C_on (t := 25) rfl rfl rfl ?_
        refine Cm v0_0.v rfl rfl ?_
        refine C_on (t := 25) rfl rfl rfl ?_
        refine Cm v1_0.v rfl rfl ?_
        refine C_on (t := 25) rfl rfl rfl ?_
        refine Cm (.int .i64 (k8 : Int)) rfl rfl ?_
        refine C_on (t := 25) rfl rfl rfl ?_
        refine C_idx (a := x10) sl30 ty53.sz (.tmp rfl rfl) (.tmp rfl rfl) (.t (.t .h)) (Int.natCast_nonneg k8) hx13 (fun k27 j28 => ?_)
        refine C_on (t := 25) rfl rfl rfl ?_
        refine C_val (V_fieldAddr (off := 0) fd53_0 (.tmp rfl rfl)) ?_
        refine C_on (t := 25) rfl rfl rfl ?_
        refine C_ldS (w := (.int .i64 x10.Method)) ag3 (.tmp rfl rfl) .h ls53_0 ?_
        refine C_on (t := 25) rfl rfl rfl ?_
        obtain ⟨x29, hx30, hF⟩ := bind_some hF
        obtain ⟨hp31, hx32⟩ := ix_some hx30
        refine C_idx (a := x29) sl28 ty55.sz (.tmp rfl rfl) (.tmp rfl rfl) (.t (.t .h)) hp31 hx32 (fun k33 j34 => ?_)
        refine C_on (t := 25) rfl rfl rfl ?_
        refine C_val (V_fieldAddr (off := 0) fd55_0 (.tmp rfl rfl)) ?_
        refine C_on (t := 25) rfl rfl rfl ?_
        refine C_ldS (w := (.int .i64 x29.Rel)) ag3 (.tmp rfl rfl) .h ls55_0 ?_
        refine C_on (t := 25) rfl rfl rfl ?_
        refine Cm (.int .i64 a_rel) rfl rfl ?_
        refine C_on (t := 25) rfl rfl rfl ?_
        refine C_val (V_eql (i := x29.Rel) (j := a_rel) (.tmp rfl rfl) (.tmp rfl rfl)) ?_
        refine C_val (V_pick (b := true) (u := (.bool ((x29.Rel : Int) == a_rel))) (v := (.bool false)) (.tmp rfl rfl) (.tmp rfl rfl) (.bool _)) ?_
        refine C_nil ?_
        obtain rfl := Option.some.inj hF
        exact ⟨_, _, rfl, (EqL.cons rfl (EqL.cons rfl (EqL.cons rfl (EqL.cons rfl (EqL.cons rfl (EqL.cons rfl (EqL.nil))))))).eq, (.sel (.rd (.t (.t (.t .h))) rfl (.rd (.t (.t (.t (.t .h)))) rfl (.cons (.t (.t (.t (.t (.t .h))))) .nil))))⟩
      rw [hg26]
      try rw [hg26] at hF; dsimp only [cond_true, cond_false] at hF
      iterate 11 refine C_off (t := 25) rfl rfl rfl ?_
      refine C_val (V_pick (b := false) (u := undef) (v := (.bool false)) (.tmp rfl rfl) (.tmp rfl rfl) (.bool _)) ?_
      refine C_nil ?_
      obtain rfl := Option.some.inj hF
      exact ⟨_, _, rfl, (EqL.cons rfl (EqL.cons rfl (EqL.cons rfl (EqL.cons rfl (EqL.cons rfl (EqL.cons rfl (EqL.nil))))))).eq, (.sel (.rd (.t .h) rfl (.rd (.t (.t .h)) rfl (.cons (.t (.t (.t .h))) .nil))))⟩
    rintro _ _ ⟨c35, g49, rfl, rfl, hE⟩
    replace hF := hO20
    clear hO20
    try dsimp only at hF
    refine K_ent hE ?_
    refine CW_cond (b := c35) (.tmp rfl rfl) (fun hb48 => ?_) (fun hb48 => ?_)
    · rw [if_pos hb48] at hF
      refine CW_draw [0, 1, 2, 3, 4, 5, 6, 7, 8, 9, 10, 11, 12, 13, 14] [0, 0, 0, 6, 14, 30, 0, 0, 192, 448, 960, 2046, 4094, 8191, 16383] [11, 13] mixed (by decide +kernel) ?_
      refine Dm v3.v rfl rfl rfl rfl ?_
      refine Dm v1_0.v rfl rfl rfl rfl ?_
      refine Dm (.int .i64 (k8 : Int)) rfl rfl rfl rfl ?_
      refine D_idx (a := x10) sl30 ty53.sz rfl .no (.tmp rfl rfl) (.tmp rfl rfl) rfl rfl (.t .h) (Int.natCast_nonneg k8) hx13 (fun k36 j37 => ?_)
      refine D_val rfl .no (fun ha => V_fieldAddr (off := 0) fd53_0 (EN ha (.tmp rfl rfl) rfl)) ?_
      refine D_ldS (w := (.int .i64 x10.Method)) ag3 rfl .no (.tmp rfl rfl) rfl .h ls53_0 ?_
      refine Dm v1_0.v rfl rfl rfl rfl ?_
      refine Dm (.int .i64 (k8 : Int)) rfl rfl rfl rfl ?_
      refine D_idx (a := x10) sl30 ty53.sz rfl .no (.tmp rfl rfl) (.tmp rfl rfl) rfl rfl (.t (.t .h)) (Int.natCast_nonneg k8) hx13 (fun k38 j39 => ?_)
      refine D_val rfl .no (fun ha => V_fieldAddr (off := 1) fd53_1 (EN ha (.tmp rfl rfl) rfl)) ?_
      refine D_ldV (R' := (RdS 3 rdInt)) ag26 rfl .no (.tmp rfl rfl) rfl .h lv53_1 (fun w40 => ?_)
      obtain ⟨r41, hx42, hF⟩ := bind_some hF
      refine D_act1 rfl rfl .no (.rd .h rfl .nil) .nil (fun ha => X_callS cf43 (.cons (EN ha (.tmp rfl rfl) rfl) (.cons (EN ha (.tmp rfl rfl) rfl) .nil)) (s_l8Access_ok x10.Method x10.Values w40 _ hx42)) (fun p43 => ?_)
      refine D_new rfl .no rfl (fun ha => N_buildSliceT (g := true) (len := 1) (parts := [(0, .tmp 49)]) sl30 ty53 (.cons (EN ha (.tmp rfl rfl) rfl) .nil) (vs := [(.agg [(.int .i64 r41.Method), p43.1.v].toArray)]) rfl rfl rfl (by intro v hv; simp at hv; rcases hv with rfl <;> rfl)) (fun k44 => ?_)
      refine D_conv (.cons .h (.cons .h .nil)) (own_lit (Ro := ow53) (E := 53) (F := (p43.2 ++ [])) (xs := ([r41] : List Access)) (MkL_cons mk53 MkL_nil apps) rfl rfl) apps ?_
      obtain ⟨z45, hx46, hF⟩ := bind_some hF
      refine D_act1 rfl rfl .no (.cons (.t (.t (.t (.t (.t (.t .h)))))) (.cons .h .nil)) (.dep rfl .nil) (fun ha => X_appendO (Ro := ow53) sl30 ni30 ty53 rfl rfl rfl (EN ha (.tmp rfl rfl) rfl) (EN ha (.tmp rfl rfl) rfl) hx46 src_own) (fun p47 => ?_)
      refine Da p47.1.v rfl rfl rfl rfl ?_
      refine D_nil ?_
      obtain rfl := Option.some.inj hF
      exact ⟨_, p47.1, p47.2, _, rfl, (EqL.cons rfl (EqL.cons rfl (EqL.cons rfl (EqL.cons rfl (EqL.cons rfl (EqL.nil)))))).eq, (.sel (.rd (.t (.t (.t (.t .h)))) rfl (.rd (.t (.t (.t (.t (.t .h))))) rfl (.cons .h .nil))))⟩
    rw [if_neg (by rw [hb48]; exact Bool.false_ne_true)] at hF
    refine CW_skip ?_
    obtain rfl := Option.some.inj hF
    exact ⟨_, v3, F4, _, rfl, (EqL.cons rfl (EqL.cons rfl (EqL.cons rfl (EqL.cons rfl (EqL.cons rfl (EqL.nil)))))).eq, (.sel (.rd .h rfl (.rd (.t .h) rfl (.cons (.t (.t .h)) .nil))))⟩
  rintro _ _ ⟨c50, v51, F52, g54, rfl, rfl, hE⟩
  replace hF := hO18
  clear hO18
  try dsimp only at hF
  refine K_ent hE ?_
  refine CW_region (Cm (.int .i64 (k8 : Int)) rfl rfl ?_)
  refine C_val (V_add (i := (k8 : Int)) (j := 1) (.tmp rfl rfl) (.int _ _)) ?_
  refine Ca (.int .i64 (IntKind.i64.wrap ((k8 : Int) + 1))) rfl rfl ?_
  refine C_nil ?_
  have hw53 : IntKind.i64.wrap ((k8 : Int) + 1) = ((k8 + 1 : Nat) : Int) := by rw [wrap_in (by omega) (by omega)]; rfl
  rw [hw53]
  exact ⟨_, Nat.lt_succ_self _, _, k8 + 1, rest9, _, v51, F52, rfl, (EqL.cons rfl (EqL.cons rfl (EqL.cons rfl (EqL.cons rfl (EqL.cons rfl (EqL.nil)))))).eq, hd14, (.sel (.rd .h rfl (.rd (.t .h) rfl (.cons (.t (.t .h)) .nil)))), hF⟩

/-! spec.l2Has -/
def s_l2Has_L1 (a_x : Int) : List Int → Nat → Option (Bool)
  | [], k4 => some false
  | x6 :: rest5, k4 => if ((x6 : Int) == a_x) then (
      some true)
    else (
      s_l2Has_L1 a_x rest5 (k4 + 1))
def s_l2Has (a_l : List Int) (a_x : Int) : Option (Bool) :=
  s_l2Has_L1 a_x a_l 0
theorem s_l2Has_ok (a_l : List Int) (v0_0 : Sv) (a_x : Int) (R : Bool) (hF : s_l2Has a_l a_x = some R) :
    Fw.Spec Try.prog 44 [v0_0.v, (.int .i64 a_x)] [crd (RdS 3 rdInt) v0_0.v a_l] (fun _ : Unit => (.bool R)) (fun _ => []) := by
  refine Spec_enter (n := 18) Try.func44 rfl rfl (rs := [.tmp 4]) rfl rfl rfl ?_
  intro H0 F0
  unfold s_l2Has at hF
  refine K_region (C_val (V_assign (v := (.bool false)) (.bool _)) ?_)
  refine C_nil (K_in (K_region (C_val (V_assign (v := (.int .i64 0)) (.int _ _)) ?_)))
  refine C_nil (CW_block (CW_loop (m := a_l.length) (fun m2 f' cs' => ∃ (g : Fr) (k4 : Nat) (rest5 : List Int), m2 = rest5.length ∧ f' = updL g [(0, v0_0.v), (1, (.int .i64 a_x)), (5, (.int .i64 (k4 : Int)))] ∧ List.drop k4 a_l = rest5 ∧ Ent cs' [crd (RdS 3 rdInt) v0_0.v a_l] ∧ s_l2Has_L1 a_x rest5 k4 = some R) ⟨_, 0, _, rfl, (EqL.cons rfl (EqL.cons rfl (EqL.cons rfl (EqL.nil)))).eq, rfl, (.sel (.rd .h rfl .nil)), hF⟩ ?_))
  clear hF
  rintro m2 _ _ ⟨g3, k4, rest5, rfl, rfl, hd7, hE, hF⟩
  refine K_ent hE ?_
  clear hE
  refine K_pure (c := crd (RdS 3 rdInt) v0_0.v a_l) .h crd_bound (fun hbd12 => ?_)
  rcases rest5 with _ | ⟨x6, rest5⟩
  · have hk8 := List.drop_eq_nil_iff.1 hd7
    have hfe11 : (decide (((k4 : Int) : Int) < (a_l.length : Int))) = false := decide_eq_false (by omega)
    rw [s_l2Has_L1] at hF
    refine K_in (K_region (Cm (.int .i64 (k4 : Int)) rfl rfl ?_))
    refine Cm v0_0.v rfl rfl ?_
    refine C_at .h (fun hp => V_lenR (l := a_l.length) sl26 (.tmp rfl rfl) (crd_len hp)) ?_
    refine C_val (V_lss (i := (k4 : Int)) (j := (a_l.length : Int)) (.tmp rfl rfl) (.tmp rfl rfl)) ?_
    refine C_nil (CW_cond (b := (decide (((k4 : Int) : Int) < (a_l.length : Int)))) (.tmp rfl rfl) (fun hb => absurd (hfe11.symm.trans hb) (by decide)) (fun _ => ?_))
    refine CW_exit ?_
    iterate 2 refine CThen_exit ?_
    refine CIn_self (K_region (C_val (V_assign (v := (.bool false)) (.bool _)) ?_))
    refine C_nil (CW_ret ?_)
    obtain rfl := Option.some.inj hF
    exact End_ret () (.tmp rfl rfl .nil) rfl (.sel .nil)
  obtain ⟨hk8, hx9, hd10⟩ := drop_cons hd7
  have hfe11 : (decide (((k4 : Int) : Int) < (a_l.length : Int))) = true := decide_eq_true (by omega)
  rw [s_l2Has_L1] at hF
  refine K_in (K_region (Cm (.int .i64 (k4 : Int)) rfl rfl ?_))
  refine Cm v0_0.v rfl rfl ?_
  refine C_at .h (fun hp => V_lenR (l := a_l.length) sl26 (.tmp rfl rfl) (crd_len hp)) ?_
  refine C_val (V_lss (i := (k4 : Int)) (j := (a_l.length : Int)) (.tmp rfl rfl) (.tmp rfl rfl)) ?_
  refine C_nil (CW_cond (b := (decide (((k4 : Int) : Int) < (a_l.length : Int)))) (.tmp rfl rfl) (fun _ => ?_) (fun hb => absurd (hfe11.symm.trans hb) (by decide)))
  refine CW_skip (K_block (K_region (Cm v0_0.v rfl rfl ?_)))
  refine Cm (.int .i64 (k4 : Int)) rfl rfl ?_
  refine C_idx (a := x6) sl26 ty3.sz (.tmp rfl rfl) (.tmp rfl rfl) .h (Int.natCast_nonneg k4) hx9 (fun k13 j14 => ?_)
  refine C_ldS (w := (.int .i64 x6)) ag3 (.tmp rfl rfl) .h ls3_0 ?_
  refine Cm (.int .i64 a_x) rfl rfl ?_
  refine C_val (V_eql (i := x6) (j := a_x) (.tmp rfl rfl) (.tmp rfl rfl)) ?_
  refine C_nil (CW_cond (b := ((x6 : Int) == a_x)) (.tmp rfl rfl) (fun hb16 => ?_) (fun hb16 => ?_))
  · rw [if_pos hb16] at hF
    refine K_region (C_val (V_assign (v := (.bool true)) (.bool _)) ?_)
    refine C_nil (CW_ret ?_)
    obtain rfl := Option.some.inj hF
    exact End_ret () (.tmp rfl rfl .nil) rfl (.sel .nil)
  rw [if_neg (by rw [hb16]; exact Bool.false_ne_true)] at hF
  refine CW_skip (CW_region (Cm (.int .i64 (k4 : Int)) rfl rfl ?_))
  refine C_val (V_add (i := (k4 : Int)) (j := 1) (.tmp rfl rfl) (.int _ _)) ?_
  refine Ca (.int .i64 (IntKind.i64.wrap ((k4 : Int) + 1))) rfl rfl ?_
  refine C_nil ?_
  have hw15 : IntKind.i64.wrap ((k4 : Int) + 1) = ((k4 + 1 : Nat) : Int) := by rw [wrap_in (by omega) (by omega)]; rfl
  rw [hw15]
  exact ⟨_, Nat.lt_succ_self _, _, k4 + 1, rest5, rfl, (EqL.cons rfl (EqL.cons rfl (EqL.cons rfl (EqL.nil)))).eq, hd10, (.sel (.rd (.t .h) rfl .nil)), hF⟩

/-! spec.l3Put -/
def s_l3Put_L1 (a_x : Int) : List Int → Nat → (List Int) → Bool → Option ((List Int))
  | [], k12, c5, c8 => if (!c8) then (
      (app c5 ([a_x] : List Int)).bind fun z22 =>
      some z22)
    else (
      some c5)
  | x14 :: rest13, k12, c5, c8 => (if ((!c8) && (decide ((a_x : Int) < x14))) then (
        (app c5 ([a_x] : List Int)).bind fun z33 =>
        (app z33 ([x14] : List Int)).bind fun z39 =>
        some (z39, true))
      else (
        (app c5 ([x14] : List Int)).bind fun z45 =>
        some (z45, c8))).bind fun o26 =>
    match o26 with
    | (c49, c52) => s_l3Put_L1 a_x rest13 (k12 + 1) c49 c52
def s_l3Put (a_l : List Int) (a_x : Int) : Option ((List Int)) :=
  (s_l2Has a_l a_x).bind fun r1 =>
  if r1 then (
    some a_l)
  else (
    s_l3Put_L1 a_x a_l 0 ([] : List Int) false)
theorem s_l3Put_ok (a_l : List Int) (v0_0 : Sv) (a_x : Int) (R : (List Int)) (hF : s_l3Put a_l a_x = some R) :
    Fw.Spec Try.prog 26 [v0_0.v, (.int .i64 a_x)] [crd (RdS 3 rdInt) v0_0.v a_l] (fun p : Sv => p.v) (fun p => [crd (RdS 3 rdInt) p.v R]) := by
  refine Spec_enter (n := 47) Try.func26 rfl rfl (rs := [.tmp 4]) rfl rfl rfl ?_
  intro H0 F0
  unfold s_l3Put at hF
  refine K_region (C_val (V_assign (v := (.slice none 0 0)) EV.nilSlice) ?_)
  refine C_nil (K_in (K_region (Cm v0_0.v rfl rfl ?_)))
  refine Cm (.int .i64 a_x) rfl rfl ?_
  obtain ⟨r1, hx2, hF⟩ := bind_some hF
  refine C_x0 (.rd .h rfl .nil) (X_callS cf44 (.cons (.tmp rfl rfl) (.cons (.tmp rfl rfl) .nil)) (s_l2Has_ok a_l v0_0 a_x _ hx2)) (fun _ => ?_)
  refine C_nil (CW_cond (b := r1) (.tmp rfl rfl) (fun hb55 => ?_) (fun hb55 => ?_))
  · rw [if_pos hb55] at hF
    refine K_region (Cm v0_0.v rfl rfl ?_)
    refine Ca v0_0.v rfl rfl ?_
    refine C_nil (CW_ret ?_)
    obtain rfl := Option.some.inj hF
    exact End_ret v0_0 (.tmp rfl rfl .nil) rfl (.sel (.rd .h rfl .nil))
  rw [if_neg (by rw [hb55]; exact Bool.false_ne_true)] at hF
  refine CW_skip (K_region (C_new rfl (N_buildSliceT (g := true) sl26 ty3 .nil (vs := []) rfl rfl rfl (by simp)) (fun k4 => ?_)))
  refine C_conv (.cons .h .nil) (own_lit (Ro := (roE rdInt)) (E := 3) (F := []) (xs := ([] : List Int)) MkL_nil rfl rfl) apps ?_
  refine Ca (.slice (some ⟨k4, 0, none⟩) 0 1) rfl rfl ?_
  refine C_nil (K_region (C_val (V_assign (v := (.bool false)) (.bool _)) ?_))
  refine C_nil (K_in (K_region (C_val (V_assign (v := (.int .i64 0)) (.int _ _)) ?_)))
  refine C_nil (CW_block (CW_loop (m := a_l.length) (fun m10 f' cs' => ∃ (g : Fr) (k12 : Nat) (rest13 : List Int) (c5 : List Int) (c8 : Bool) (v6 : Sv) (F7 : List Nat), m10 = rest13.length ∧ f' = updL g [(0, v0_0.v), (1, (.int .i64 a_x)), (5, v6.v), (6, (.bool c8)), (7, (.int .i64 (k12 : Int)))] ∧ List.drop k12 a_l = rest13 ∧ Ent cs' [crd (RdS 3 rdInt) v0_0.v a_l, cown (OwnS 3 (roE rdInt)) F7 v6.v c5] ∧ s_l3Put_L1 a_x rest13 k12 c5 c8 = some R) ⟨_, 0, _, _, _, ⟨(some ⟨k4, 0, none⟩), 0, 1⟩, (k4 :: []), rfl, (EqL.cons rfl (EqL.cons rfl (EqL.cons rfl (EqL.cons rfl (EqL.cons rfl (EqL.nil)))))).eq, rfl, (.sel (.rd (.t .h) rfl (.cons .h .nil))), hF⟩ ?_))
  clear hF
  rintro m10 _ _ ⟨g11, k12, rest13, c5, c8, v6, F7, rfl, rfl, hd15, hE, hF⟩
  refine K_ent hE ?_
  clear hE
  refine K_pure (c := crd (RdS 3 rdInt) v0_0.v a_l) .h crd_bound (fun hbd20 => ?_)
  rcases rest13 with _ | ⟨x14, rest13⟩
  · have hk16 := List.drop_eq_nil_iff.1 hd15
    have hfe19 : (decide (((k12 : Int) : Int) < (a_l.length : Int))) = false := decide_eq_false (by omega)
    rw [s_l3Put_L1] at hF
    refine K_in (K_region (Cm (.int .i64 (k12 : Int)) rfl rfl ?_))
    refine Cm v0_0.v rfl rfl ?_
    refine C_at .h (fun hp => V_lenR (l := a_l.length) sl26 (.tmp rfl rfl) (crd_len hp)) ?_
    refine C_val (V_lss (i := (k12 : Int)) (j := (a_l.length : Int)) (.tmp rfl rfl) (.tmp rfl rfl)) ?_
    refine C_nil (CW_cond (b := (decide (((k12 : Int) : Int) < (a_l.length : Int)))) (.tmp rfl rfl) (fun hb => absurd (hfe19.symm.trans hb) (by decide)) (fun _ => ?_))
    refine CW_exit ?_
    iterate 2 refine CThen_exit ?_
    refine CIn_self (K_in (K_region (Cm (.bool c8) rfl rfl ?_)))
    refine C_val (V_not (b := c8) (.tmp rfl rfl)) ?_
    refine C_nil (CW_cond (b := (!c8)) (.tmp rfl rfl) (fun hb25 => ?_) (fun hb25 => ?_))
    · rw [if_pos hb25] at hF
      refine CW_region (Cm v6.v rfl rfl ?_)
      refine Cm (.int .i64 a_x) rfl rfl ?_
      refine C_new rfl (N_buildSliceT (g := true) sl26 ty3 (.cons (.tmp rfl rfl) .nil) (vs := [(.int .i64 a_x)]) rfl rfl rfl (by intro v hv; simp at hv; rcases hv with rfl <;> rfl)) (fun k21 => ?_)
      refine C_conv (.cons .h .nil) (own_lit (Ro := (roE rdInt)) (E := 3) (F := ([] ++ [])) (xs := ([a_x] : List Int)) (MkL_cons (Mk_pure (fun _ => rfl)) MkL_nil apps) rfl rfl) apps ?_
      obtain ⟨z22, hx23, hF⟩ := bind_some hF
      refine C_x1 (.cons (.t (.t .h)) (.cons .h .nil)) (X_appendO (Ro := (roE rdInt)) sl26 ni26 ty3 rfl rfl rfl (.tmp rfl rfl) (.tmp rfl rfl) hx23 src_own) (fun p24 => ?_)
      refine Ca p24.1.v rfl rfl ?_
      refine C_nil (K_region (Cm p24.1.v rfl rfl ?_))
      refine Ca p24.1.v rfl rfl ?_
      refine C_nil (CW_ret ?_)
      obtain rfl := Option.some.inj hF
      exact End_ret p24.1 (.tmp rfl rfl .nil) rfl (.frz .h frz_own (.sel (.rd .h rfl .nil)))
    rw [if_neg (by rw [hb25]; exact Bool.false_ne_true)] at hF
    refine CW_skip (K_region (Cm v6.v rfl rfl ?_))
    refine Ca v6.v rfl rfl ?_
    refine C_nil (CW_ret ?_)
    obtain rfl := Option.some.inj hF
    exact End_ret v6 (.tmp rfl rfl .nil) rfl (.frz (.t .h) frz_own (.sel (.rd .h rfl .nil)))
  obtain ⟨hk16, hx17, hd18⟩ := drop_cons hd15
  have hfe19 : (decide (((k12 : Int) : Int) < (a_l.length : Int))) = true := decide_eq_true (by omega)
  rw [s_l3Put_L1] at hF
  refine K_in (K_region (Cm (.int .i64 (k12 : Int)) rfl rfl ?_))
  refine Cm v0_0.v rfl rfl ?_
  refine C_at .h (fun hp => V_lenR (l := a_l.length) sl26 (.tmp rfl rfl) (crd_len hp)) ?_
  refine C_val (V_lss (i := (k12 : Int)) (j := (a_l.length : Int)) (.tmp rfl rfl) (.tmp rfl rfl)) ?_
  refine C_nil (CW_cond (b := (decide (((k12 : Int) : Int) < (a_l.length : Int)))) (.tmp rfl rfl) (fun _ => ?_) (fun hb => absurd (hfe19.symm.trans hb) (by decide)))
  refine CW_skip ?_
  obtain ⟨o26, hio26, hO27⟩ := bind_some hF
  refine K_cut (fun f' cs' => ∃ (c49 : List Int) (c52 : Bool) (v50 : Sv) (F51 : List Nat) (g : Fr), o26 = (c49, c52) ∧ f' = updL g [(0, v0_0.v), (1, (.int .i64 a_x)), (5, v50.v), (6, (.bool c52)), (7, (.int .i64 (k12 : Int)))] ∧ Ent cs' [crd (RdS 3 rdInt) v0_0.v a_l, cown (OwnS 3 (roE rdInt)) F51 v50.v c49]) ?_ ?_
  · replace hF := hio26
    refine CW_block (K_in (K_region (C_cut (fun f' cs' => ∃ (g : Fr), f' = updL g [(0, v0_0.v), (1, (.int .i64 a_x)), (5, v6.v), (6, (.bool c8)), (7, (.int .i64 (k12 : Int))), (28, (.bool ((!c8) && (decide ((a_x : Int) < x14)))))] ∧ Ent cs' [crd (RdS 3 rdInt) v0_0.v a_l, cown (OwnS 3 (roE rdInt)) F7 v6.v c5]) ?_ ?_)))
    · refine Cm (.bool c8) rfl rfl ?_
      refine C_val (V_not (b := c8) (.tmp rfl rfl)) ?_
      refine Cm (.bool (!c8)) rfl rfl ?_
      rcases Bool.eq_false_or_eq_true (!c8) with hg28 | hg28
      · rw [hg28]
        try rw [hg28] at hF; dsimp only [cond_true, cond_false] at hF
        refine C_on (t := 21) rfl rfl rfl ?_
        refine Cm v0_0.v rfl rfl ?_
        refine C_on (t := 21) rfl rfl rfl ?_
        refine Cm (.int .i64 (k12 : Int)) rfl rfl ?_
        refine C_on (t := 21) rfl rfl rfl ?_
        refine C_idx (a := x14) sl26 ty3.sz (.tmp rfl rfl) (.tmp rfl rfl) .h (Int.natCast_nonneg k12) hx17 (fun k29 j30 => ?_)
        refine C_on (t := 21) rfl rfl rfl ?_
        refine C_ldS (w := (.int .i64 x14)) ag3 (.tmp rfl rfl) .h ls3_0 ?_
        refine C_on (t := 21) rfl rfl rfl ?_
        refine Cm (.int .i64 a_x) rfl rfl ?_
        refine C_on (t := 21) rfl rfl rfl ?_
        refine C_val (V_gtr (i := x14) (j := a_x) (.tmp rfl rfl) (.tmp rfl rfl)) ?_
        refine C_val (V_pick (b := true) (u := (.bool (decide ((a_x : Int) < x14)))) (v := (.bool false)) (.tmp rfl rfl) (.tmp rfl rfl) (.bool _)) ?_
        refine C_nil ?_
        exact ⟨_, (EqL.cons rfl (EqL.cons rfl (EqL.cons rfl (EqL.cons rfl (EqL.cons rfl (EqL.cons rfl (EqL.nil))))))).eq, (.sel (.rd (.t .h) rfl (.cons (.t (.t .h)) .nil)))⟩
      rw [hg28]
      try rw [hg28] at hF; dsimp only [cond_true, cond_false] at hF
      iterate 6 refine C_off (t := 21) rfl rfl rfl ?_
      refine C_val (V_pick (b := false) (u := undef) (v := (.bool false)) (.tmp rfl rfl) (.tmp rfl rfl) (.bool _)) ?_
      refine C_nil ?_
      exact ⟨_, (EqL.cons rfl (EqL.cons rfl (EqL.cons rfl (EqL.cons rfl (EqL.cons rfl (EqL.cons rfl (EqL.nil))))))).eq, (.sel (.rd .h rfl (.cons (.t .h) .nil)))⟩
    rintro _ _ ⟨g31, rfl, hE⟩
    refine K_ent hE ?_
    refine CW_cond (b := ((!c8) && (decide ((a_x : Int) < x14)))) (.tmp rfl rfl) (fun hb48 => ?_) (fun hb48 => ?_)
    · rw [if_pos hb48] at hF
      refine K_region (Cm v6.v rfl rfl ?_)
      refine Cm (.int .i64 a_x) rfl rfl ?_
      refine C_new rfl (N_buildSliceT (g := true) sl26 ty3 (.cons (.tmp rfl rfl) .nil) (vs := [(.int .i64 a_x)]) rfl rfl rfl (by intro v hv; simp at hv; rcases hv with rfl <;> rfl)) (fun k32 => ?_)
      refine C_conv (.cons .h .nil) (own_lit (Ro := (roE rdInt)) (E := 3) (F := ([] ++ [])) (xs := ([a_x] : List Int)) (MkL_cons (Mk_pure (fun _ => rfl)) MkL_nil apps) rfl rfl) apps ?_
      obtain ⟨z33, hx34, hF⟩ := bind_some hF
      refine C_x1 (.cons (.t (.t .h)) (.cons .h .nil)) (X_appendO (Ro := (roE rdInt)) sl26 ni26 ty3 rfl rfl rfl (.tmp rfl rfl) (.tmp rfl rfl) hx34 src_own) (fun p35 => ?_)
      refine Ca p35.1.v rfl rfl ?_
      refine C_nil (CW_region (C_val (V_assign (v := (.bool true)) (.bool _)) ?_))
      refine C_nil (CW_region (Cm p35.1.v rfl rfl ?_))
      refine Cm v0_0.v rfl rfl ?_
      refine Cm (.int .i64 (k12 : Int)) rfl rfl ?_
      refine C_idx (a := x14) sl26 ty3.sz (.tmp rfl rfl) (.tmp rfl rfl) (.t .h) (Int.natCast_nonneg k12) hx17 (fun k36 j37 => ?_)
      refine C_ldS (w := (.int .i64 x14)) ag3 (.tmp rfl rfl) .h ls3_0 ?_
      refine C_new rfl (N_buildSliceT (g := true) sl26 ty3 (.cons (.tmp rfl rfl) .nil) (vs := [(.int .i64 x14)]) rfl rfl rfl (by intro v hv; simp at hv; rcases hv with rfl <;> rfl)) (fun k38 => ?_)
      refine C_conv (.cons .h .nil) (own_lit (Ro := (roE rdInt)) (E := 3) (F := ([] ++ [])) (xs := ([x14] : List Int)) (MkL_cons (Mk_pure (fun _ => rfl)) MkL_nil apps) rfl rfl) apps ?_
      obtain ⟨z39, hx40, hF⟩ := bind_some hF
      refine C_x1 (.cons (.t (.t .h)) (.cons .h .nil)) (X_appendO (Ro := (roE rdInt)) sl26 ni26 ty3 rfl rfl rfl (.tmp rfl rfl) (.tmp rfl rfl) hx40 src_own) (fun p41 => ?_)
      refine Ca p41.1.v rfl rfl ?_
      refine C_nil ?_
      obtain rfl := Option.some.inj hF
      exact ⟨_, _, p41.1, p41.2, _, rfl, (EqL.cons rfl (EqL.cons rfl (EqL.cons rfl (EqL.cons rfl (EqL.cons rfl (EqL.nil)))))).eq, (.sel (.rd (.t (.t .h)) rfl (.cons .h .nil)))⟩
    rw [if_neg (by rw [hb48]; exact Bool.false_ne_true)] at hF
    refine CW_skip (CW_region (Cm v6.v rfl rfl ?_))
    refine Cm v0_0.v rfl rfl ?_
    refine Cm (.int .i64 (k12 : Int)) rfl rfl ?_
    refine C_idx (a := x14) sl26 ty3.sz (.tmp rfl rfl) (.tmp rfl rfl) .h (Int.natCast_nonneg k12) hx17 (fun k42 j43 => ?_)
    refine C_ldS (w := (.int .i64 x14)) ag3 (.tmp rfl rfl) .h ls3_0 ?_
    refine C_new rfl (N_buildSliceT (g := true) sl26 ty3 (.cons (.tmp rfl rfl) .nil) (vs := [(.int .i64 x14)]) rfl rfl rfl (by intro v hv; simp at hv; rcases hv with rfl <;> rfl)) (fun k44 => ?_)
    refine C_conv (.cons .h .nil) (own_lit (Ro := (roE rdInt)) (E := 3) (F := ([] ++ [])) (xs := ([x14] : List Int)) (MkL_cons (Mk_pure (fun _ => rfl)) MkL_nil apps) rfl rfl) apps ?_
    obtain ⟨z45, hx46, hF⟩ := bind_some hF
    refine C_x1 (.cons (.t (.t (.t .h))) (.cons .h .nil)) (X_appendO (Ro := (roE rdInt)) sl26 ni26 ty3 rfl rfl rfl (.tmp rfl rfl) (.tmp rfl rfl) hx46 src_own) (fun p47 => ?_)
    refine Ca p47.1.v rfl rfl ?_
    refine C_nil ?_
    obtain rfl := Option.some.inj hF
    exact ⟨_, _, p47.1, p47.2, _, rfl, (EqL.cons rfl (EqL.cons rfl (EqL.cons rfl (EqL.cons rfl (EqL.cons rfl (EqL.nil)))))).eq, (.sel (.rd (.t (.t .h)) rfl (.cons .h .nil)))⟩
  rintro _ _ ⟨c49, c52, v50, F51, g54, rfl, rfl, hE⟩
  replace hF := hO27
  clear hO27
  try dsimp only at hF
  refine K_ent hE ?_
  refine CW_region (Cm (.int .i64 (k12 : Int)) rfl rfl ?_)
  refine C_val (V_add (i := (k12 : Int)) (j := 1) (.tmp rfl rfl) (.int _ _)) ?_
  refine Ca (.int .i64 (IntKind.i64.wrap ((k12 : Int) + 1))) rfl rfl ?_
  refine C_nil ?_
  have hw53 : IntKind.i64.wrap ((k12 : Int) + 1) = ((k12 + 1 : Nat) : Int) := by rw [wrap_in (by omega) (by omega)]; rfl
  rw [hw53]
  exact ⟨_, Nat.lt_succ_self _, _, k12 + 1, rest13, _, _, v50, F51, rfl, (EqL.cons rfl (EqL.cons rfl (EqL.cons rfl (EqL.cons rfl (EqL.cons rfl (EqL.nil)))))).eq, hd18, (.sel (.rd .h rfl (.cons (.t .h) .nil))), hF⟩

/-! spec.SeenValues -/
def s_SeenValues_L4 (x241 : Access) : Nat → (List Int) → Int → Option ((List Int))
  | 0, _, _ => none
  | m253 + 1, c250, c252 => if (decide ((c252 : Int) < (x241.Values.length : Int))) then (
      (ix x241.Values c252).bind fun x267 =>
      (s_l3Put c250 x267).bind fun r273 =>
      s_SeenValues_L4 x241 m253 r273 (IntKind.i64.wrap (c252 + 1)))
    else (
      some c250)
def s_SeenValues_L1 : List Access → Nat → (List Int) → Option ((List Int))
  | [], k239, c234 => some c234
  | x241 :: rest240, k239, c234 => (s_SeenValues_L4 x241 (((x241.Values.length : Int) - 0).toNat + 2) c234 0).bind fun o248 =>
    match o248 with
    | c277 => s_SeenValues_L1 rest240 (k239 + 1) c277
def s_SeenValues (a_l : List Method) (a_log : List Access) (a_rel : Int) : Option ((List Int)) :=
  (s_ViewOf a_l a_log a_rel).bind fun r2 =>
  s_SeenValues_L1 r2 0 ([] : List Int)
theorem s_SeenValues_ok (a_l : List Method) (v0_0 : Sv) (a_log : List Access) (v1_0 : Sv) (a_rel : Int) (R : (List Int)) (hF : s_SeenValues a_l a_log a_rel = some R) :
    Fw.Spec Try.prog 7 [v0_0.v, v1_0.v, (.int .i64 a_rel)] [crd (RdS 55 rd55) v0_0.v a_l, crd (RdS 53 rd53) v1_0.v a_log] (fun p : Sv => p.v) (fun p => [crd (RdS 3 rdInt) p.v R]) := by
  refine Spec_enter (n := 43) Try.func7 rfl rfl (rs := [.tmp 6]) rfl rfl rfl ?_
  intro H0 F0
  unfold s_SeenValues at hF
  refine K_region (C_val (V_assign (v := (.slice none 0 0)) EV.nilSlice) ?_)
  refine C_nil (K_region (C_new rfl (N_buildSliceT (g := true) sl26 ty3 .nil (vs := []) rfl rfl rfl (by simp)) (fun k1 => ?_)))
  refine C_conv (.cons .h .nil) (own_lit (Ro := (roE rdInt)) (E := 3) (F := []) (xs := ([] : List Int)) MkL_nil rfl rfl) apps ?_
  refine Ca (.slice (some ⟨k1, 0, none⟩) 0 1) rfl rfl ?_
  refine C_nil (K_region (Cm v0_0.v rfl rfl ?_))
  refine Cm v1_0.v rfl rfl ?_
  refine Cm (.int .i64 a_rel) rfl rfl ?_
  obtain ⟨r2, hx3, hF⟩ := bind_some hF
  refine C_x1 (.rd (.t .h) rfl (.rd (.t (.t .h)) rfl .nil)) (X_callS cf25 (.cons (.tmp rfl rfl) (.cons (.tmp rfl rfl) (.cons (.tmp rfl rfl) .nil))) (s_ViewOf_ok a_l v0_0 a_log v1_0 a_rel _ hx3)) (fun p4 => ?_)
  refine Ca p4.1.v rfl rfl ?_
  refine C_nil (K_in (K_region (C_val (V_assign (v := (.int .i64 0)) (.int _ _)) ?_)))
  refine C_nil (CW_block (K_frz .h frz_own ?_))
  refine CW_loop (m := r2.length) (fun m237 f' cs' => ∃ (g : Fr) (k239 : Nat) (rest240 : List Access) (c234 : List Int) (v235 : Sv), m237 = rest240.length ∧ f' = updL g [(7, v235.v), (8, p4.1.v), (9, (.int .i64 (k239 : Int)))] ∧ List.drop k239 r2 = rest240 ∧ Ent cs' [crd (RdS 3 rdInt) v235.v c234, crd (RdS 53 rd53) p4.1.v r2] ∧ s_SeenValues_L1 rest240 k239 c234 = some R) ⟨_, 0, _, _, ⟨(some ⟨k1, 0, none⟩), 0, 1⟩, rfl, (EqL.cons rfl (EqL.cons rfl (EqL.cons rfl (EqL.nil)))).eq, rfl, (.frz (.t .h) frz_own (.sel (.rd .h rfl (.rd (.t .h) rfl .nil)))), hF⟩ ?_
  clear hF
  rintro m237 _ _ ⟨g238, k239, rest240, c234, v235, rfl, rfl, hd242, hE, hF⟩
  refine K_ent hE ?_
  clear hE
  refine K_pure (c := crd (RdS 53 rd53) p4.1.v r2) (.t .h) crd_bound (fun hbd247 => ?_)
  rcases rest240 with _ | ⟨x241, rest240⟩
  · have hk243 := List.drop_eq_nil_iff.1 hd242
    have hfe246 : (decide (((k239 : Int) : Int) < (r2.length : Int))) = false := decide_eq_false (by omega)
    rw [s_SeenValues_L1] at hF
    refine K_in (K_region (Cm (.int .i64 (k239 : Int)) rfl rfl ?_))
    refine Cm p4.1.v rfl rfl ?_
    refine C_at (.t .h) (fun hp => V_lenR (l := r2.length) sl30 (.tmp rfl rfl) (crd_len hp)) ?_
    refine C_val (V_lss (i := (k239 : Int)) (j := (r2.length : Int)) (.tmp rfl rfl) (.tmp rfl rfl)) ?_
    refine C_nil (CW_cond (b := (decide (((k239 : Int) : Int) < (r2.length : Int)))) (.tmp rfl rfl) (fun hb => absurd (hfe246.symm.trans hb) (by decide)) (fun _ => ?_))
    refine CW_exit ?_
    iterate 2 refine CThen_exit ?_
    refine CIn_self (K_region (Cm v235.v rfl rfl ?_))
    refine Ca v235.v rfl rfl ?_
    refine C_nil (CW_ret ?_)
    obtain rfl := Option.some.inj hF
    exact End_ret v235 (.tmp rfl rfl .nil) rfl (.sel (.rd .h rfl .nil))
  obtain ⟨hk243, hx244, hd245⟩ := drop_cons hd242
  have hfe246 : (decide (((k239 : Int) : Int) < (r2.length : Int))) = true := decide_eq_true (by omega)
  rw [s_SeenValues_L1] at hF
  refine K_in (K_region (Cm (.int .i64 (k239 : Int)) rfl rfl ?_))
  refine Cm p4.1.v rfl rfl ?_
  refine C_at (.t .h) (fun hp => V_lenR (l := r2.length) sl30 (.tmp rfl rfl) (crd_len hp)) ?_
  refine C_val (V_lss (i := (k239 : Int)) (j := (r2.length : Int)) (.tmp rfl rfl) (.tmp rfl rfl)) ?_
  refine C_nil (CW_cond (b := (decide (((k239 : Int) : Int) < (r2.length : Int)))) (.tmp rfl rfl) (fun _ => ?_) (fun hb => absurd (hfe246.symm.trans hb) (by decide)))
  refine CW_skip ?_
  obtain ⟨o248, hio248, hO249⟩ := bind_some hF
  refine K_cut (fun f' cs' => ∃ (c277 : List Int) (v278 : Sv) (g : Fr), c277 = o248 ∧ f' = updL g [(7, v278.v), (8, p4.1.v), (9, (.int .i64 (k239 : Int)))] ∧ Ent cs' [crd (RdS 3 rdInt) v278.v c277, crd (RdS 53 rd53) p4.1.v r2]) ?_ ?_
  · replace hF := hio248
    refine CW_block (K_region (C_val (V_assign (v := (.int .i64 0)) (.int _ _)) ?_))
    refine C_nil (CW_block (CW_loop (m := (((x241.Values.length : Int) - 0).toNat + 2)) (fun m253 f' cs' => ∃ (g : Fr) (c250 : List Int) (c252 : Int) (v251 : Sv), f' = updL g [(7, v251.v), (8, p4.1.v), (9, (.int .i64 (k239 : Int))), (10, (.int .i64 c252))] ∧ Ent cs' [crd (RdS 3 rdInt) v251.v c250, crd (RdS 53 rd53) p4.1.v r2] ∧ s_SeenValues_L4 x241 m253 c250 c252 = some o248) ⟨_, _, _, v235, (EqL.cons rfl (EqL.cons rfl (EqL.cons rfl (EqL.cons rfl (EqL.nil))))).eq, (.sel (.rd .h rfl (.rd (.t .h) rfl .nil))), hF⟩ ?_))
    clear hF
    rintro m253 _ _ ⟨g254, c250, c252, v251, rfl, hE, hF⟩
    refine K_ent hE ?_
    clear hE
    rcases m253 with _ | m253
    · rw [s_SeenValues_L4] at hF
      exact absurd hF (by simp)
    rw [s_SeenValues_L4] at hF
    refine K_in (K_region (Cm (.int .i64 c252) rfl rfl ?_))
    refine Cm p4.1.v rfl rfl ?_
    refine Cm (.int .i64 (k239 : Int)) rfl rfl ?_
    refine C_idx (a := x241) sl30 ty53.sz (.tmp rfl rfl) (.tmp rfl rfl) (.t .h) (Int.natCast_nonneg k239) hx244 (fun k261 j262 => ?_)
    refine C_val (V_fieldAddr (off := 1) fd53_1 (.tmp rfl rfl)) ?_
    refine C_ldV (R' := (RdS 3 rdInt)) ag26 (.tmp rfl rfl) .h lv53_1 (fun w263 => ?_)
    refine C_at .h (fun hp => V_lenR (l := x241.Values.length) sl26 (.tmp rfl rfl) (crd_len hp)) ?_
    refine C_val (V_lss (i := c252) (j := (x241.Values.length : Int)) (.tmp rfl rfl) (.tmp rfl rfl)) ?_
    refine C_nil (CW_cond (b := (decide ((c252 : Int) < (x241.Values.length : Int)))) (.tmp rfl rfl) (fun hb276 => ?_) (fun hb276 => ?_))
    · rw [if_pos hb276] at hF
      refine CW_skip (K_block (CW_region (Cm v251.v rfl rfl ?_)))
      refine Cm p4.1.v rfl rfl ?_
      refine Cm (.int .i64 (k239 : Int)) rfl rfl ?_
      refine C_idx (a := x241) sl30 ty53.sz (.tmp rfl rfl) (.tmp rfl rfl) (.t (.t (.t .h))) (Int.natCast_nonneg k239) hx244 (fun k264 j265 => ?_)
      refine C_val (V_fieldAddr (off := 1) fd53_1 (.tmp rfl rfl)) ?_
      refine C_ldV (R' := (RdS 3 rdInt)) ag26 (.tmp rfl rfl) .h lv53_1 (fun w266 => ?_)
      refine Cm (.int .i64 c252) rfl rfl ?_
      obtain ⟨x267, hx268, hF⟩ := bind_some hF
      obtain ⟨hp269, hx270⟩ := ix_some hx268
      refine C_idx (a := x267) sl26 ty3.sz (.tmp rfl rfl) (.tmp rfl rfl) .h hp269 hx270 (fun k271 j272 => ?_)
      refine C_ldS (w := (.int .i64 x267)) ag3 (.tmp rfl rfl) .h ls3_0 ?_
      obtain ⟨r273, hx274, hF⟩ := bind_some hF
      refine C_x1 (.rd (.t (.t (.t (.t (.t .h))))) rfl .nil) (X_callS cf26 (.cons (.tmp rfl rfl) (.cons (.tmp rfl rfl) .nil)) (s_l3Put_ok c250 v251 x267 _ hx274)) (fun p275 => ?_)
      refine Ca p275.v rfl rfl ?_
      refine C_nil (CW_region (Cm (.int .i64 c252) rfl rfl ?_))
      refine C_val (V_add (i := c252) (j := 1) (.tmp rfl rfl) (.int _ _)) ?_
      refine Ca (.int .i64 (IntKind.i64.wrap (c252 + 1))) rfl rfl ?_
      refine C_nil ?_
      exact ⟨m253, Nat.lt_succ_self _, _, _, _, p275, (EqL.cons rfl (EqL.cons rfl (EqL.cons rfl (EqL.cons rfl (EqL.nil))))).eq, (.sel (.rd .h rfl (.rd (.t (.t (.t (.t (.t (.t (.t .h))))))) rfl .nil))), hF⟩
    rw [if_neg (by rw [hb276]; exact Bool.false_ne_true)] at hF
    refine CW_exit ?_
    iterate 2 refine CThen_exit ?_
    refine CIn_self ?_
    obtain rfl := Option.some.inj hF
    exact ⟨_, v251, _, rfl, (EqL.cons rfl (EqL.cons rfl (EqL.cons rfl (EqL.nil)))).eq, (.sel (.rd (.t (.t .h)) rfl (.rd (.t (.t (.t .h))) rfl .nil)))⟩
  rintro _ _ ⟨c277, v278, g280, rfl, rfl, hE⟩
  replace hF := hO249
  clear hO249
  try dsimp only at hF
  refine K_ent hE ?_
  refine CW_region (Cm (.int .i64 (k239 : Int)) rfl rfl ?_)
  refine C_val (V_add (i := (k239 : Int)) (j := 1) (.tmp rfl rfl) (.int _ _)) ?_
  refine Ca (.int .i64 (IntKind.i64.wrap ((k239 : Int) + 1))) rfl rfl ?_
  refine C_nil ?_
  have hw279 : IntKind.i64.wrap ((k239 : Int) + 1) = ((k239 + 1 : Nat) : Int) := by rw [wrap_in (by omega) (by omega)]; rfl
  rw [hw279]
  exact ⟨_, Nat.lt_succ_self _, _, k239 + 1, rest240, _, v278, rfl, (EqL.cons rfl (EqL.cons rfl (EqL.cons rfl (EqL.nil)))).eq, hd245, (.sel (.rd .h rfl (.rd (.t .h) rfl .nil))), hF⟩

/-! slices.Clone[[]int,int] -/
def g_slices_Clone_int_int (a_s : List Int) : Option ((List Int)) :=
  (app ([] : List Int) a_s).bind fun z5 =>
  some z5
theorem g_slices_Clone_int_int_ok (a_s : List Int) (v0_0 : Sv) (R : (List Int)) (hF : g_slices_Clone_int_int a_s = some R) :
    Fw.Spec Try.prog 70 [v0_0.v] [crd (RdS 3 rdInt) v0_0.v a_s] (fun p : Sv × List Nat => p.1.v) (fun p => [cown (OwnS 3 (roE rdInt)) p.2 p.1.v R]) := by
  refine Spec_enter (n := 8) Try.func70 rfl rfl (rs := [.tmp 2]) rfl rfl rfl ?_
  intro H0 F0
  unfold g_slices_Clone_int_int at hF
  refine K_region (C_val (V_assign (v := (.slice none 0 0)) EV.nilSlice) ?_)
  refine C_nil (K_in (K_region (Cm v0_0.v rfl rfl ?_)))
  refine C_eqNil (xs := a_s) sl26 (.tmp rfl rfl) .h crd_nilc (fun bn1 hn2 => ?_)
  refine C_nil (CW_cond (b := bn1) (.tmp rfl rfl) (fun hb3 => ?_) (fun hb3 => ?_))
  · have hnil := hn2 hb3
    replace hF : some [] = some R := by rw [hnil] at hF; simpa [app] using hF
    refine K_region (C_val (V_assign (v := (.slice none 0 0)) EV.nilSlice) ?_)
    refine C_nil (CW_ret ?_)
    obtain rfl := Option.some.inj hF
    exact End_ret (⟨none, 0, 0⟩, []) (.tmp rfl rfl .nil) rfl (.conv .nil (own_nil (Ro := (roE rdInt)) (E := 3)) (.cons .nil) (.sel (.cons .h .nil)))
  refine CW_skip (K_region (C_new rfl (N_buildSliceT (g := true) sl26 ty3 .nil (vs := []) rfl rfl rfl (by simp)) (fun k4 => ?_)))
  refine C_conv (.cons .h .nil) (own_lit (Ro := (roE rdInt)) (E := 3) (F := []) (xs := ([] : List Int)) MkL_nil rfl rfl) apps ?_
  refine Cm v0_0.v rfl rfl ?_
  obtain ⟨z5, hx6, hF⟩ := bind_some hF
  refine C_x1 (.cons .h (.rd .h rfl .nil)) (X_appendO (Ro := (roE rdInt)) sl26 ni26 ty3 rfl rfl rfl (.tmp rfl rfl) (.tmp rfl rfl) hx6 src_rd) (fun p7 => ?_)
  refine Ca p7.1.v rfl rfl ?_
  refine C_nil (CW_ret ?_)
  obtain rfl := Option.some.inj hF
  exact End_ret (p7.1, p7.2) (.tmp rfl rfl .nil) rfl (.sel (.cons .h .nil))

/-! impl.copyAccess -/
def i_copyAccess (a_a : Access) : Option (Access) :=
  (g_slices_Clone_int_int a_a.Values).bind fun r3 =>
  some ({ Method := a_a.Method, Values := r3 } : Access)
theorem i_copyAccess_ok (a_a : Access) (v0_1 : Sv) (R : Access) (hF : i_copyAccess a_a = some R) :
    Fw.Spec Try.prog 56 [(.agg [(.int .i64 a_a.Method), v0_1.v].toArray)] [crd (RdS 3 rdInt) v0_1.v a_a.Values] (fun p : Sv × List Nat => (.agg [(.int .i64 R.Method), p.1.v].toArray)) (fun p => [cown (OwnS 3 (roE rdInt)) p.2 p.1.v R.Values]) := by
  refine Spec_enter (n := 9) Try.func56 rfl rfl (rs := [.cell 2 53]) rfl rfl rfl ?_
  intro H0 F0
  unfold i_copyAccess at hF
  refine K_region (C_newR rfl (N_box (g := false) (v := (.agg [(.int .i64 a_a.Method), v0_1.v].toArray)) ty53.sz (.tmp rfl rfl) rfl) (fun k1 => ?_))
  refine C_new rfl (N_allocT (g := true) ty53 rfl rfl) (fun k2 => ?_)
  refine C_nil (K_draw [0, 1, 2, 3, 4, 5, 6] [0, 1, 0, 4, 12, 31, 63] [4, 6] mixed (by decide +kernel) ?_)
  refine D_val rfl .no (fun ha => V_fieldAddr (off := 0) fd53_0 (EN ha (.tmp rfl rfl) rfl)) ?_
  refine D_at rfl .no (.t .h) rfl (fun ha hp => V_load (v := (.int .i64 a_a.Method)) ag3 (EN ha (.tmp rfl rfl) rfl) hp.2 rfl rfl) ?_
  refine D_val rfl .no (fun ha => V_fieldAddr (off := 1) fd53_1 (EN ha (.tmp rfl rfl) rfl)) ?_
  refine D_at rfl .no (.t .h) rfl (fun ha hp => V_load (v := v0_1.v) ag26 (EN ha (.tmp rfl rfl) rfl) hp.2 rfl rfl) ?_
  obtain ⟨r3, hx4, hF⟩ := bind_some hF
  refine D_act1 rfl rfl .no (.rd (.t (.t .h)) rfl .nil) .nil (fun ha => X_callS cf70 (.cons (EN ha (.tmp rfl rfl) rfl) .nil) (g_slices_Clone_int_int_ok a_a.Values v0_1 _ hx4)) (fun p5 => ?_)
  refine D_val rfl .no (fun ha => V_build ty53 rfl (vs := [(.int .i64 a_a.Method), p5.1.v]) (.cons (EN ha (.tmp rfl rfl) rfl) (.cons (EN ha (.tmp rfl rfl) rfl) .nil)) (cells := [(.int .i64 a_a.Method), p5.1.v]) rfl) ?_
  refine D_act1 rfl rfl .no (.cons (.t .h) .nil) .nil (fun ha => X_storeB (e' := (.agg [(.int .i64 a_a.Method), p5.1.v].toArray)) (v := (.agg [(.int .i64 a_a.Method), p5.1.v].toArray)) ty53.sz (EN ha (.tmp rfl rfl) rfl) (EN ha (.tmp rfl rfl) rfl) rfl rfl rfl rfl rfl) (fun _ => ?_)
  refine D_nil (CW_ret ?_)
  obtain rfl := Option.some.inj hF
  exact End_ret (p5.1, p5.2) (.cellA rfl rfl .h rfl ag53 ty53.sz rfl rfl .nil) rfl (.sel (.cons (.t .h) .nil))

/-! impl.copyAccesses -/
def i_copyAccesses_L1 : List Access → Nat → (List Access) → Option ((List Access))
  | [], k8, c2 => some c2
  | x10 :: rest9, k8, c2 => (i_copyAccess x10).bind fun r21 =>
    (app c2 ([r21] : List Access)).bind fun z25 =>
    i_copyAccesses_L1 rest9 (k8 + 1) z25
def i_copyAccesses (a_l : List Access) : Option ((List Access)) :=
  i_copyAccesses_L1 a_l 0 ([] : List Access)
theorem i_copyAccesses_ok (a_l : List Access) (v0_0 : Sv) (R : (List Access)) (hF : i_copyAccesses a_l = some R) :
    Fw.Spec Try.prog 47 [v0_0.v] [crd (RdS 53 rd53) v0_0.v a_l] (fun p : Sv × List Nat => p.1.v) (fun p => [cown (OwnS 53 ow53) p.2 p.1.v R]) := by
  refine Spec_enter (n := 20) Try.func47 rfl rfl (rs := [.tmp 2]) rfl rfl rfl ?_
  intro H0 F0
  unfold i_copyAccesses at hF
  refine K_region (C_val (V_assign (v := (.slice none 0 0)) EV.nilSlice) ?_)
  refine C_nil (K_region (C_new rfl (N_buildSliceT (g := true) sl30 ty53 .nil (vs := []) rfl rfl rfl (by simp)) (fun k1 => ?_)))
  refine C_conv (.cons .h .nil) (own_lit (Ro := ow53) (E := 53) (F := []) (xs := ([] : List Access)) MkL_nil rfl rfl) apps ?_
  refine Ca (.slice (some ⟨k1, 0, none⟩) 0 1) rfl rfl ?_
  refine C_nil (K_in (K_region (Cm v0_0.v rfl rfl ?_)))
  refine C_at (.t .h) (fun hp => V_lenR (l := a_l.length) sl30 (.tmp rfl rfl) (crd_len hp)) ?_
  refine C_val (V_move (v := (.int .i64 0)) (.int _ _)) ?_
  refine C_nil (CW_block (CW_loop (m := a_l.length) (fun m6 f' cs' => ∃ (g : Fr) (k8 : Nat) (rest9 : List Access) (c2 : List Access) (v3 : Sv) (F4 : List Nat), m6 = rest9.length ∧ f' = updL g [(3, v3.v), (7, v0_0.v), (8, (.int .i64 (a_l.length : Int))), (9, (.int .i64 (k8 : Int)))] ∧ List.drop k8 a_l = rest9 ∧ Ent cs' [cown (OwnS 53 ow53) F4 v3.v c2, crd (RdS 53 rd53) v0_0.v a_l] ∧ i_copyAccesses_L1 rest9 k8 c2 = some R) ⟨_, 0, _, _, ⟨(some ⟨k1, 0, none⟩), 0, 1⟩, (k1 :: []), rfl, (EqL.cons rfl (EqL.cons rfl (EqL.cons rfl (EqL.cons rfl (EqL.nil))))).eq, rfl, (.sel (.cons .h (.rd .h rfl .nil))), hF⟩ ?_))
  clear hF
  rintro m6 _ _ ⟨g7, k8, rest9, c2, v3, F4, rfl, rfl, hd11, hE, hF⟩
  refine K_ent hE ?_
  clear hE
  refine K_pure (c := crd (RdS 53 rd53) v0_0.v a_l) (.t .h) crd_bound (fun hbd16 => ?_)
  rcases rest9 with _ | ⟨x10, rest9⟩
  · have hk12 := List.drop_eq_nil_iff.1 hd11
    have hfe15 : (decide (((k8 : Int) : Int) < (a_l.length : Int))) = false := decide_eq_false (by omega)
    rw [i_copyAccesses_L1] at hF
    refine K_region (C_val (V_lss (i := (k8 : Int)) (j := (a_l.length : Int)) (.tmp rfl rfl) (.tmp rfl rfl)) ?_)
    refine C_nil (K_in (CW_cond (b := (decide (((k8 : Int) : Int) < (a_l.length : Int)))) (.tmp rfl rfl) (fun hb => absurd (hfe15.symm.trans hb) (by decide)) (fun _ => ?_)))
    refine CW_exit ?_
    iterate 2 refine CThen_exit ?_
    refine CIn_self (K_region (Cm v3.v rfl rfl ?_))
    refine Ca v3.v rfl rfl ?_
    refine C_nil (CW_ret ?_)
    obtain rfl := Option.some.inj hF
    exact End_ret (v3, F4) (.tmp rfl rfl .nil) rfl (.sel (.cons .h .nil))
  obtain ⟨hk12, hx13, hd14⟩ := drop_cons hd11
  have hfe15 : (decide (((k8 : Int) : Int) < (a_l.length : Int))) = true := decide_eq_true (by omega)
  rw [i_copyAccesses_L1] at hF
  refine K_region (C_val (V_lss (i := (k8 : Int)) (j := (a_l.length : Int)) (.tmp rfl rfl) (.tmp rfl rfl)) ?_)
  refine C_nil (K_in (CW_cond (b := (decide (((k8 : Int) : Int) < (a_l.length : Int)))) (.tmp rfl rfl) (fun _ => ?_) (fun hb => absurd (hfe15.symm.trans hb) (by decide))))
  refine CW_skip (K_block (K_region (C_idx (a := x10) sl30 ty53.sz (.tmp rfl rfl) (.tmp rfl rfl) (.t .h) (Int.natCast_nonneg k8) hx13 (fun k17 j18 => ?_))))
  refine C_ldA1 (ul53_0_53 x10) ag53 ty53.sz rfl (.tmp rfl rfl) .h la53_0_53 (fun p19 => ?_)
  refine C_new rfl (N_allocT (g := true) ty53 rfl rfl) (fun k20 => ?_)
  refine C_x1 (.cons .h .nil) (X_storeB (e' := (.agg [(.int .i64 x10.Method), p19.v].toArray)) (v := (.agg [(.int .i64 x10.Method), p19.v].toArray)) ty53.sz (.tmp rfl rfl) (.tmp rfl rfl) rfl rfl rfl rfl rfl) (fun _ => ?_)
  refine C_nil (CW_region (Cm v3.v rfl rfl ?_))
  refine C_at .h (fun hp => V_loadBox ag53 ty53.sz rfl (.tmp rfl rfl) hp.2 rfl) ?_
  obtain ⟨r21, hx22, hF⟩ := bind_some hF
  refine C_x1 (.rd (.t .h) rfl .nil) (X_callS cf56 (.cons (.tmp rfl rfl) .nil) (i_copyAccess_ok x10 p19 _ hx22)) (fun p23 => ?_)
  refine C_new rfl (N_buildSliceT (g := true) sl30 ty53 (.cons (.tmp rfl rfl) .nil) (vs := [(.agg [(.int .i64 r21.Method), p23.1.v].toArray)]) rfl rfl rfl (by intro v hv; simp at hv; rcases hv with rfl <;> rfl)) (fun k24 => ?_)
  refine C_conv (.cons .h (.cons .h .nil)) (own_lit (Ro := ow53) (E := 53) (F := (p23.2 ++ [])) (xs := ([r21] : List Access)) (MkL_cons mk53 MkL_nil apps) rfl rfl) apps ?_
  obtain ⟨z25, hx26, hF⟩ := bind_some hF
  refine C_x1 (.cons (.t (.t (.t (.t .h)))) (.cons .h .nil)) (X_appendO (Ro := ow53) sl30 ni30 ty53 rfl rfl rfl (.tmp rfl rfl) (.tmp rfl rfl) hx26 src_own) (fun p27 => ?_)
  refine Ca p27.1.v rfl rfl ?_
  refine C_nil (CW_region (C_val (V_add (i := (k8 : Int)) (j := 1) (.tmp rfl rfl) (.int _ _)) ?_))
  refine Cm (.int .i64 (IntKind.i64.wrap ((k8 : Int) + 1))) rfl rfl ?_
  refine C_nil ?_
  have hw28 : IntKind.i64.wrap ((k8 : Int) + 1) = ((k8 + 1 : Nat) : Int) := by rw [wrap_in (by omega) (by omega)]; rfl
  rw [hw28]
  exact ⟨_, Nat.lt_succ_self _, _, k8 + 1, rest9, _, p27.1, p27.2, rfl, (EqL.cons rfl (EqL.cons rfl (EqL.cons rfl (EqL.cons rfl (EqL.nil))))).eq, hd14, (.sel (.cons .h (.rd (.t (.t (.t .h))) rfl .nil))), hF⟩

/-! impl.within -/
def i_within (a_n : Int) (a_low : Int) (a_high : Int) : Option (Bool) :=
  some ((decide ((a_low : Int) ≤ a_n)) && (decide ((a_n : Int) ≤ a_high)))
theorem i_within_ok (a_n : Int) (a_low : Int) (a_high : Int) (R : Bool) (hF : i_within a_n a_low a_high = some R) :
    Fw.Spec Try.prog 49 [(.int .i64 a_n), (.int .i64 a_low), (.int .i64 a_high)] [] (fun _ : Unit => (.bool R)) (fun _ => []) := by
  refine Spec_enter (n := 15) Try.func49 rfl rfl (rs := [.tmp 6]) rfl rfl rfl ?_
  intro H0 F0
  unfold i_within at hF
  refine K_region (C_val (V_assign (v := (.bool false)) (.bool _)) ?_)
  refine C_nil (K_region (C_cut (fun f' cs' => ∃ (g : Fr), f' = updL g [(6, (.bool ((decide ((a_low : Int) ≤ a_n)) && (decide ((a_n : Int) ≤ a_high)))))] ∧ Ent cs' []) ?_ ?_))
  · refine Cm (.int .i64 a_n) rfl rfl ?_
    refine Cm (.int .i64 a_low) rfl rfl ?_
    refine C_val (V_geq (i := a_n) (j := a_low) (.tmp rfl rfl) (.tmp rfl rfl)) ?_
    refine Cm (.bool (decide ((a_low : Int) ≤ a_n))) rfl rfl ?_
    rcases Bool.eq_false_or_eq_true (decide ((a_low : Int) ≤ a_n)) with hg1 | hg1
    · rw [hg1]
      try rw [hg1] at hF; dsimp only [cond_true, cond_false] at hF
      refine C_on (t := 10) rfl rfl rfl ?_
      refine Cm (.int .i64 a_n) rfl rfl ?_
      refine C_on (t := 10) rfl rfl rfl ?_
      refine Cm (.int .i64 a_high) rfl rfl ?_
      refine C_on (t := 10) rfl rfl rfl ?_
      refine C_val (V_leq (i := a_n) (j := a_high) (.tmp rfl rfl) (.tmp rfl rfl)) ?_
      refine C_val (V_pick (b := true) (u := (.bool (decide ((a_n : Int) ≤ a_high)))) (v := (.bool false)) (.tmp rfl rfl) (.tmp rfl rfl) (.bool _)) ?_
      refine Ca (.bool (decide ((a_n : Int) ≤ a_high))) rfl rfl ?_
      refine C_nil ?_
      exact ⟨_, (EqL.cons rfl (EqL.nil)).eq, (.sel .nil)⟩
    rw [hg1]
    try rw [hg1] at hF; dsimp only [cond_true, cond_false] at hF
    iterate 3 refine C_off (t := 10) rfl rfl rfl ?_
    refine C_val (V_pick (b := false) (u := undef) (v := (.bool false)) (.tmp rfl rfl) (.tmp rfl rfl) (.bool _)) ?_
    refine Ca (.bool false) rfl rfl ?_
    refine C_nil ?_
    exact ⟨_, (EqL.cons rfl (EqL.nil)).eq, (.sel .nil)⟩
  rintro _ _ ⟨g2, rfl, hE⟩
  refine K_ent hE ?_
  refine CW_ret ?_
  obtain rfl := Option.some.inj hF
  exact End_ret () (.tmp rfl rfl .nil) rfl (.sel .nil)

/-! impl.ViewOf$1 -/
def i_ViewOf_1 (a_a : Access) (a_e1 : List Method) (a_e2 : Int) : Option (Bool) :=
  ((i_within a_a.Method 0 (IntKind.i64.wrap ((a_e1.length : Int) - 1))).bind fun r4 =>
    bif (!r4) then (some true)
    else ((ix a_e1 a_a.Method).bind fun x8 =>
      some ((x8.Rel : Int) != a_e2))).bind fun o2 =>
  match o2 with
  | c14 => some c14
theorem i_ViewOf_1_ok (a_a : Access) (v0_1 : Sv) (kc1 : Nat) (a_e1 : List Method) (vc1_0 : Sv) (kc2 : Nat) (a_e2 : Int) (R : Bool) (hF : i_ViewOf_1 a_a a_e1 a_e2 = some R) :
    Fw.Spec Try.prog 48 [(.agg [(.int .i64 a_a.Method), v0_1.v].toArray), (.pointer (some ⟨kc1, 0, some 0⟩)), (.pointer (some ⟨kc2, 0, some 0⟩))] [crd (RdS 3 rdInt) v0_1.v a_a.Values, cboR kc1 28 vc1_0.v, crd (RdS 55 rd55) vc1_0.v a_e1, cboR kc2 3 (.int .i64 a_e2)] (fun _ : Unit => (.bool R)) (fun _ => []) := by
  refine Spec_enter (n := 22) Try.func48 rfl rfl (rs := [.tmp 4]) rfl rfl rfl ?_
  intro H0 F0
  unfold i_ViewOf_1 at hF
  refine K_region (C_newR rfl (N_box (g := false) (v := (.agg [(.int .i64 a_a.Method), v0_1.v].toArray)) ty53.sz (.tmp rfl rfl) rfl) (fun k1 => ?_))
  refine C_val (V_assign (v := (.bool false)) (.bool _)) ?_
  refine C_nil ?_
  obtain ⟨o2, hio2, hO3⟩ := bind_some hF
  refine K_draw [0, 1, 2, 3, 4, 5, 6, 7, 8, 9, 10, 11, 12, 13, 14, 15, 16, 17] [0, 1, 0, 4, 12, 31, 63, 127, 255, 255, 767, 2047, 4095, 8191, 255, 32767, 65535, 131071] [5] mixed (by decide +kernel) ?_
  refine D_cut (fun f' cs' => ∃ (c14 : Bool) (g : Fr), c14 = o2 ∧ f' = updL g [(4, (.bool c14))] ∧ Ent cs' []) ?_ ?_
  · replace hF := hio2
    refine D_val rfl .no (fun ha => V_fieldAddr (off := 0) fd53_0 (EN ha (.tmp rfl rfl) rfl)) ?_
    refine D_at rfl .no .h rfl (fun ha hp => V_load (v := (.int .i64 a_a.Method)) ag3 (EN ha (.tmp rfl rfl) rfl) hp.2 rfl rfl) ?_
    refine D_at rfl .no (.t (.t .h)) rfl (fun ha hp => V_load (v := vc1_0.v) ag28 (EN ha (.tmp rfl rfl) rfl) hp.2 rfl rfl) ?_
    refine D_at rfl .no (.t (.t (.t .h))) rfl (fun ha hp => V_lenR (l := a_e1.length) sl28 (EN ha (.tmp rfl rfl) rfl) (crd_len hp)) ?_
    refine D_val rfl .no (fun ha => V_sub (i := (a_e1.length : Int)) (j := 1) (EN ha (.tmp rfl rfl) rfl) (EN ha (.int _ _) rfl)) ?_
    obtain ⟨r4, hx5, hF⟩ := bind_some hF
    refine D_act0 rfl rfl .no .nil .nil (fun ha => X_callS cf49 (.cons (EN ha (.tmp rfl rfl) rfl) (.cons (EN ha (.int _ _) rfl) (.cons (EN ha (.tmp rfl rfl) rfl) .nil))) (i_within_ok a_a.Method 0 (IntKind.i64.wrap ((a_e1.length : Int) - 1)) _ hx5)) (fun _ => ?_)
    refine D_val rfl .no (fun ha => V_not (b := r4) (EN ha (.tmp rfl rfl) rfl)) ?_
    refine Dm (.bool (!r4)) rfl rfl rfl rfl ?_
    rcases Bool.eq_false_or_eq_true (!r4) with hg7 | hg7
    · rw [hg7]
      try rw [hg7] at hF; dsimp only [cond_true, cond_false] at hF
      iterate 8 refine D_off 12 rfl rfl rfl rfl ?_
      refine D_val rfl .no (fun ha => V_pick (b := true) (u := (.bool true)) (v := undef) (EN ha (.tmp rfl rfl) rfl) (EN ha (.bool _) rfl) (EN ha (.tmp rfl rfl) rfl)) ?_
      refine Da (.bool true) rfl rfl rfl rfl ?_
      refine D_nil ?_
      obtain rfl := Option.some.inj hF
      exact ⟨_, _, rfl, (EqL.cons rfl (EqL.nil)).eq, (.sel .nil)⟩
    rw [hg7]
    try rw [hg7] at hF; dsimp only [cond_true, cond_false] at hF
    refine D_at rfl (.on 12 rfl rfl rfl) (.t (.t .h)) rfl (fun ha hp => V_load (v := vc1_0.v) ag28 (EN ha (.tmp rfl rfl) rfl) hp.2 rfl rfl) ?_
    refine D_val rfl (.on 12 rfl rfl rfl) (fun ha => V_fieldAddr (off := 0) fd53_0 (EN ha (.tmp rfl rfl) rfl)) ?_
    refine D_at rfl (.on 12 rfl rfl rfl) .h rfl (fun ha hp => V_load (v := (.int .i64 a_a.Method)) ag3 (EN ha (.tmp rfl rfl) rfl) hp.2 rfl rfl) ?_
    obtain ⟨x8, hx9, hF⟩ := bind_some hF
    obtain ⟨hp10, hx11⟩ := ix_some hx9
    refine D_idx (a := x8) sl28 ty55.sz rfl (.on 12 rfl rfl rfl) (.tmp rfl rfl) (.tmp rfl rfl) rfl rfl (.t (.t (.t .h))) hp10 hx11 (fun k12 j13 => ?_)
    refine D_val rfl (.on 12 rfl rfl rfl) (fun ha => V_fieldAddr (off := 0) fd55_0 (EN ha (.tmp rfl rfl) rfl)) ?_
    refine D_ldS (w := (.int .i64 x8.Rel)) ag3 rfl (.on 12 rfl rfl rfl) (.tmp rfl rfl) rfl .h ls55_0 ?_
    refine D_at rfl (.on 12 rfl rfl rfl) (.t (.t (.t (.t (.t .h))))) rfl (fun ha hp => V_load (v := (.int .i64 a_e2)) ag3 (EN ha (.tmp rfl rfl) rfl) hp.2 rfl rfl) ?_
    refine D_val rfl (.on 12 rfl rfl rfl) (fun ha => V_neq (i := x8.Rel) (j := a_e2) (EN ha (.tmp rfl rfl) rfl) (EN ha (.tmp rfl rfl) rfl)) ?_
    refine D_val rfl .no (fun ha => V_pick (b := false) (u := (.bool true)) (v := (.bool ((x8.Rel : Int) != a_e2))) (EN ha (.tmp rfl rfl) rfl) (EN ha (.bool _) rfl) (EN ha (.tmp rfl rfl) rfl)) ?_
    refine Da (.bool ((x8.Rel : Int) != a_e2)) rfl rfl rfl rfl ?_
    refine D_nil ?_
    obtain rfl := Option.some.inj hF
    exact ⟨_, _, rfl, (EqL.cons rfl (EqL.nil)).eq, (.sel .nil)⟩
  rintro _ _ ⟨c14, g15, rfl, rfl, hE⟩
  replace hF := hO3
  clear hO3
  try dsimp only at hF
  refine K_ent hE ?_
  refine CW_ret ?_
  obtain rfl := Option.some.inj hF
  exact End_ret () (.tmp rfl rfl .nil) rfl (.sel .nil)

/-! impl.Access] -/
def g_slices_IndexFunc_impl_Access_impl_Access_iViewOf1_L1 (a_e1 : List Method) (a_e2 : Int) : List Access → Nat → Option (Int)
  | [], k4 => some (-1)
  | x6 :: rest5, k4 => (i_ViewOf_1 x6 a_e1 a_e2).bind fun r16 =>
    if r16 then (
      some (k4 : Int))
    else (
      g_slices_IndexFunc_impl_Access_impl_Access_iViewOf1_L1 a_e1 a_e2 rest5 (k4 + 1))
def g_slices_IndexFunc_impl_Access_impl_Access_iViewOf1 (a_s : List Access) (a_e1 : List Method) (a_e2 : Int) : Option (Int) :=
  g_slices_IndexFunc_impl_Access_impl_Access_iViewOf1_L1 a_e1 a_e2 a_s 0
theorem g_slices_IndexFunc_impl_Access_impl_Access_iViewOf1_ok (a_s : List Access) (v0_0 : Sv) (kc1 : Nat) (a_e1 : List Method) (vc1_0 : Sv) (kc2 : Nat) (a_e2 : Int) (R : Int) (hF : g_slices_IndexFunc_impl_Access_impl_Access_iViewOf1 a_s a_e1 a_e2 = some R) :
    Fw.Spec Try.prog 55 [v0_0.v, (.func (.func 48) [].toArray [(.pointer (some ⟨kc1, 0, some 0⟩)), (.pointer (some ⟨kc2, 0, some 0⟩))].toArray)] [crd (RdS 53 rd53) v0_0.v a_s, cboR kc1 28 vc1_0.v, crd (RdS 55 rd55) vc1_0.v a_e1, cboR kc2 3 (.int .i64 a_e2)] (fun _ : Unit => (.int .i64 R)) (fun _ => []) := by
  refine Spec_enter (n := 19) Try.func55 rfl rfl (rs := [.tmp 4]) rfl rfl rfl ?_
  intro H0 F0
  unfold g_slices_IndexFunc_impl_Access_impl_Access_iViewOf1 at hF
  refine K_region (C_val (V_assign (v := (.int .i64 0)) (.int _ _)) ?_)
  refine C_nil (K_in (K_region (Cm v0_0.v rfl rfl ?_)))
  refine C_at .h (fun hp => V_lenR (l := a_s.length) sl30 (.tmp rfl rfl) (crd_len hp)) ?_
  refine C_val (V_move (v := (.int .i64 0)) (.int _ _)) ?_
  refine C_nil (CW_block (CW_loop (m := a_s.length) (fun m2 f' cs' => ∃ (g : Fr) (k4 : Nat) (rest5 : List Access), m2 = rest5.length ∧ f' = updL g [(0, v0_0.v), (1, (.func (.func 48) [].toArray [(.pointer (some ⟨kc1, 0, some 0⟩)), (.pointer (some ⟨kc2, 0, some 0⟩))].toArray)), (7, (.int .i64 (a_s.length : Int))), (8, (.int .i64 (k4 : Int)))] ∧ List.drop k4 a_s = rest5 ∧ Ent cs' [crd (RdS 53 rd53) v0_0.v a_s, cboR kc1 28 vc1_0.v, crd (RdS 55 rd55) vc1_0.v a_e1, cboR kc2 3 (.int .i64 a_e2)] ∧ g_slices_IndexFunc_impl_Access_impl_Access_iViewOf1_L1 a_e1 a_e2 rest5 k4 = some R) ⟨_, 0, _, rfl, (EqL.cons rfl (EqL.cons rfl (EqL.cons rfl (EqL.cons rfl (EqL.nil))))).eq, rfl, (.sel (.rd .h rfl (.rd (.t .h) rfl (.rd (.t (.t .h)) rfl (.rd (.t (.t (.t .h))) rfl .nil))))), hF⟩ ?_))
  clear hF
  rintro m2 _ _ ⟨g3, k4, rest5, rfl, rfl, hd7, hE, hF⟩
  refine K_ent hE ?_
  clear hE
  refine K_pure (c := crd (RdS 53 rd53) v0_0.v a_s) .h crd_bound (fun hbd12 => ?_)
  rcases rest5 with _ | ⟨x6, rest5⟩
  · have hk8 := List.drop_eq_nil_iff.1 hd7
    have hfe11 : (decide (((k4 : Int) : Int) < (a_s.length : Int))) = false := decide_eq_false (by omega)
    rw [g_slices_IndexFunc_impl_Access_impl_Access_iViewOf1_L1] at hF
    refine K_region (C_val (V_lss (i := (k4 : Int)) (j := (a_s.length : Int)) (.tmp rfl rfl) (.tmp rfl rfl)) ?_)
    refine C_nil (K_in (CW_cond (b := (decide (((k4 : Int) : Int) < (a_s.length : Int)))) (.tmp rfl rfl) (fun hb => absurd (hfe11.symm.trans hb) (by decide)) (fun _ => ?_)))
    refine CW_exit ?_
    iterate 2 refine CThen_exit ?_
    refine CIn_self (K_region (C_val (V_assign (v := (.int .i64 (-1))) (.int _ _)) ?_))
    refine C_nil (CW_ret ?_)
    obtain rfl := Option.some.inj hF
    exact End_ret () (.tmp rfl rfl .nil) rfl (.sel .nil)
  obtain ⟨hk8, hx9, hd10⟩ := drop_cons hd7
  have hfe11 : (decide (((k4 : Int) : Int) < (a_s.length : Int))) = true := decide_eq_true (by omega)
  rw [g_slices_IndexFunc_impl_Access_impl_Access_iViewOf1_L1] at hF
  refine K_region (C_val (V_lss (i := (k4 : Int)) (j := (a_s.length : Int)) (.tmp rfl rfl) (.tmp rfl rfl)) ?_)
  refine C_nil (K_in (CW_cond (b := (decide (((k4 : Int) : Int) < (a_s.length : Int)))) (.tmp rfl rfl) (fun _ => ?_) (fun hb => absurd (hfe11.symm.trans hb) (by decide))))
  refine CW_skip (K_block (K_region (Cm (.int .i64 (k4 : Int)) rfl rfl ?_)))
  refine Ca (.int .i64 (k4 : Int)) rfl rfl ?_
  refine C_nil (K_region (Cm (.func (.func 48) [].toArray [(.pointer (some ⟨kc1, 0, some 0⟩)), (.pointer (some ⟨kc2, 0, some 0⟩))].toArray) rfl rfl ?_))
  refine Cm v0_0.v rfl rfl ?_
  refine Cm (.int .i64 (k4 : Int)) rfl rfl ?_
  refine C_idx (a := x6) sl30 ty53.sz (.tmp rfl rfl) (.tmp rfl rfl) .h (Int.natCast_nonneg k4) hx9 (fun k13 j14 => ?_)
  refine C_ldA1 (ul53_0_53 x6) ag53 ty53.sz rfl (.tmp rfl rfl) .h la53_0_53 (fun p15 => ?_)
  obtain ⟨r16, hx17, hF⟩ := bind_some hF
  refine C_x0 (.rd .h rfl (.rd (.t (.t (.t .h))) rfl (.rd (.t (.t (.t (.t .h)))) rfl (.rd (.t (.t (.t (.t (.t .h))))) rfl .nil)))) (X_callCS cf48 (.tmp rfl rfl) (.cons (.tmp rfl rfl) .nil) (i_ViewOf_1_ok x6 p15 kc1 a_e1 vc1_0 kc2 a_e2 _ hx17)) (fun _ => ?_)
  refine C_nil (CW_cond (b := r16) (.tmp rfl rfl) (fun hb20 => ?_) (fun hb20 => ?_))
  · rw [if_pos hb20] at hF
    refine K_region (Cm (.int .i64 (k4 : Int)) rfl rfl ?_)
    refine Ca (.int .i64 (k4 : Int)) rfl rfl ?_
    refine C_nil (CW_ret ?_)
    obtain rfl := Option.some.inj hF
    exact End_ret () (.tmp rfl rfl .nil) rfl (.sel .nil)
  rw [if_neg (by rw [hb20]; exact Bool.false_ne_true)] at hF
  refine CW_skip (CW_region (C_val (V_add (i := (k4 : Int)) (j := 1) (.tmp rfl rfl) (.int _ _)) ?_))
  refine Cm (.int .i64 (IntKind.i64.wrap ((k4 : Int) + 1))) rfl rfl ?_
  refine C_nil ?_
  have hw19 : IntKind.i64.wrap ((k4 : Int) + 1) = ((k4 + 1 : Nat) : Int) := by rw [wrap_in (by omega) (by omega)]; rfl
  rw [hw19]
  exact ⟨_, Nat.lt_succ_self _, _, k4 + 1, rest5, rfl, (EqL.cons rfl (EqL.cons rfl (EqL.cons rfl (EqL.cons rfl (EqL.nil))))).eq, hd10, (.sel (.rd (.t (.t .h)) rfl (.rd (.t (.t (.t .h))) rfl (.rd (.t (.t (.t (.t .h)))) rfl (.rd (.t (.t (.t (.t (.t .h))))) rfl .nil))))), hF⟩

/-! impl.Access] -/
def g_slices_DeleteFunc_impl_Access_impl_Access_iViewOf1 (a_s : List Access) (a_e1 : List Method) (a_e2 : Int) : Option (List Access) :=
  delL (fun a_q => i_ViewOf_1 a_q a_e1 a_e2) a_s
theorem g_slices_DeleteFunc_impl_Access_impl_Access_iViewOf1_sh (qs : List (Value × Access)) (v : Sv) (F : List Nat) (kc1 : Nat) (a_e1 : List Method) (vc1_0 : Sv) (kc2 : Nat) (a_e2 : Int) (p : Value × Access → Bool) (hcl : ∀ q ∈ qs, i_ViewOf_1 q.2 a_e1 a_e2 = some (p q)) (hidx : g_slices_IndexFunc_impl_Access_impl_Access_iViewOf1 (qs.map Prod.snd) a_e1 a_e2 = some (ixF p qs 0)) (hbd : qs.length < 4611686018427387904) :
    Fw.Spec Try.prog 46 [v.v, (.func (.func 48) [].toArray [(.pointer (some ⟨kc1, 0, some 0⟩)), (.pointer (some ⟨kc2, 0, some 0⟩))].toArray)] [cown (OwnS 53 (roE (rq rd53))) F v.v qs, cboR kc1 28 vc1_0.v, crd (RdS 55 rd55) vc1_0.v a_e1, cboR kc2 3 (.int .i64 a_e2)] (fun q : Sv × List Nat => q.1.v) (fun q => [cown (OwnS 53 (roE (rq rd53))) q.2 q.1.v (qs.filter fun a => !p a)]) := by
  refine Spec_enter (n := 42) Try.func46 rfl rfl (rs := [.tmp 4]) rfl rfl rfl ?_
  intro H0 F0
  refine K_region ?_
  refine C_val (V_assign (v := (.slice none 0 0)) EV.nilSlice) ?_
  refine C_nil ?_
  refine K_region ?_
  refine C_val (V_move (v := v.v) (.tmp rfl rfl)) ?_
  refine C_val (V_move (v := (.func (.func 48) [].toArray [(.pointer (some ⟨kc1, 0, some 0⟩)), (.pointer (some ⟨kc2, 0, some 0⟩))].toArray)) (.tmp rfl rfl)) ?_
  refine C_x1 (.cons .h (.rd .h rfl (.rd (.t .h) rfl (.rd (.t (.t .h)) rfl .nil)))) (XC_borR frz_rq (fun _ => .nil) (XC_pre (.rd (.t (.t (.t .h))) rfl (.rd .h rfl (.rd (.t .h) rfl (.rd (.t (.t .h)) rfl .nil)))) (X_callS cf55 (.cons (.tmp rfl rfl) (.cons (.tmp rfl rfl) .nil)) (g_slices_IndexFunc_impl_Access_impl_Access_iViewOf1_ok (qs.map Prod.snd) v kc1 a_e1 vc1_0 kc2 a_e2 _ hidx)))) (fun _ => ?_)
  generalize hR : ixF p qs 0 = R0
  refine C_val (V_assign (v := (.int .i64 R0)) (.tmp rfl rfl)) ?_
  refine C_nil ?_
  refine K_in ?_
  refine K_region ?_
  refine C_val (V_move (v := (.int .i64 R0)) (.tmp rfl rfl)) ?_
  refine C_val (V_eql (i := R0) (j := (-1)) (.tmp rfl rfl) (.int _ _)) ?_
  refine C_nil ?_
  refine CW_cond (b := (R0 == (-1 : Int))) (.tmp rfl rfl) (fun hb => ?_) (fun hb => ?_)
  · refine K_region ?_
    refine C_val (V_move (v := v.v) (.tmp rfl rfl)) ?_
    refine C_val (V_assign (v := v.v) (.tmp rfl rfl)) ?_
    refine C_nil ?_
    refine CW_ret ?_
    have e : qs.filter (fun q => !p q) = qs := ixF_none (k := 0) (by rw [hR]; simpa using hb)
    rw [e]
    exact End_ret (v, F) (.tmp rfl rfl .nil) rfl (.sel (.cons .h .nil))
  refine CW_skip ?_
  obtain ⟨i0, hi0, hi1⟩ : ∃ i : Nat, R0 = (i : Int) ∧ i < qs.length := by
    rcases ixF_range p qs 0 with h | ⟨i, h, hi⟩
    · rw [hR] at h; subst h; simp at hb
    · exact ⟨i, by rw [← hR, h], by omega⟩
  subst hi0
  refine K_in ?_
  refine K_region ?_
  refine C_val (V_move (v := (.int .i64 (i0 : Int))) (.tmp rfl rfl)) ?_
  refine C_val (V_add (i := (i0 : Int)) (j := 1) (.tmp rfl rfl) (.int _ _)) ?_
  rw [show IntKind.i64.wrap ((i0 : Int) + 1) = ((i0 + 1 : Nat) : Int) from by rw [wrap_in (by omega) (by omega)]; rfl]
  refine C_val (V_assign (v := (.int .i64 ((i0 + 1 : Nat) : Int))) (.tmp rfl rfl)) ?_
  refine C_nil ?_
  refine CW_block ?_
  refine CW_loop (m := qs.length - (i0 + 1)) (fun m f' cs' => ∃ (g : Fr) (cur : List (Value × Access)) (i j : Nat) (F' : List Nat), m = qs.length - j ∧ f' = updL g [(0, v.v), (1, (.func (.func 48) [].toArray [(.pointer (some ⟨kc1, 0, some 0⟩)), (.pointer (some ⟨kc2, 0, some 0⟩))].toArray)), (5, (.int .i64 (i : Int))), (6, (.int .i64 (j : Int)))] ∧ DelI p qs cur i j ∧ Ent cs' [cown (OwnS 53 (roE (rq rd53))) F' v.v cur, cboR kc1 28 vc1_0.v, crd (RdS 55 rd55) vc1_0.v a_e1, cboR kc2 3 (.int .i64 a_e2)]) ⟨_, qs, i0, i0 + 1, F, rfl, (EqL.cons rfl (EqL.cons rfl (EqL.cons rfl (EqL.cons rfl (EqL.nil))))).eq, DelI.init (by rw [hR]), .sel (.cons .h (.rd .h rfl (.rd (.t .h) rfl (.rd (.t (.t .h)) rfl .nil))))⟩ ?_
  rintro m _ _ ⟨g, cur, i, j, F', rfl, rfl, hI, hE⟩
  refine K_ent hE ?_
  clear hE
  refine K_in ?_
  refine K_region ?_
  refine C_val (V_move (v := (.int .i64 (j : Int))) (.tmp rfl rfl)) ?_
  refine C_val (V_move (v := v.v) (.tmp rfl rfl)) ?_
  refine C_at .h (fun hp => V_lenR (l := cur.length) sl30 (.tmp rfl rfl) (cown_len hp)) ?_
  refine C_val (V_lss (i := (j : Int)) (j := (cur.length : Int)) (.tmp rfl rfl) (.tmp rfl rfl)) ?_
  refine C_nil ?_
  have hlen := hI.len
  have hij := hI.lt
  have hjl := hI.le
  refine CW_cond (b := (decide ((j : Int) < (cur.length : Int)))) (.tmp rfl rfl) (fun hb2 => ?_) (fun hb2 => ?_)
  · refine CW_skip ?_
    have hj : j < qs.length := by simp at hb2; omega
    obtain ⟨x, hx1, hx2⟩ := hI.at hj
    refine K_block ?_
    refine K_region ?_
    refine C_val (V_move (v := v.v) (.tmp rfl rfl)) ?_
    refine C_val (V_move (v := (.int .i64 (j : Int))) (.tmp rfl rfl)) ?_
    refine C_idxO sl30 ty53.sz (.tmp rfl rfl) (.tmp rfl rfl) .h (by simp; omega) (fun k hk => ?_)
    refine C_ldOW (a := x) (ul := fun i : Sv => [(.int .i64 x.2.Method), i.v]) (cc := fun i => [crd (RdS 3 rdInt) i.v x.2.Values]) ag53 ty53.sz rfl (.tmp rfl rfl) .h hk (by simpa using hx1) (fun H e h => by obtain ⟨-, v0, h1, h0⟩ := h; exact ⟨v0, h1, rfl, by simp [crd, h0]⟩) (fun w => ?_)
    refine C_new rfl (N_allocT (g := true) ty53 rfl rfl) (fun k1 => ?_)
    refine C_x1 (.cons .h .nil) (X_storeB (e := (.agg [(.int .i64 0), (.slice none 0 0)].toArray)) (e' := (.agg [(.int .i64 x.2.Method), w.v].toArray)) (v := (.agg [(.int .i64 x.2.Method), w.v].toArray)) ty53.sz (.tmp rfl rfl) (.tmp rfl rfl) rfl rfl rfl rfl rfl) (fun _ => ?_)
    refine C_nil ?_
    refine K_region ?_
    refine C_val (V_move (v := (.func (.func 48) [].toArray [(.pointer (some ⟨kc1, 0, some 0⟩)), (.pointer (some ⟨kc2, 0, some 0⟩))].toArray)) (.tmp rfl rfl)) ?_
    refine C_at .h (fun hp => V_loadBox ag53 ty53.sz rfl (.tmp rfl rfl) hp.2 rfl) ?_
    refine C_x0 (.rd (.t (.t .h)) rfl (.rd (.t (.t (.t (.t .h)))) rfl (.rd (.t (.t (.t (.t (.t .h))))) rfl (.rd (.t (.t (.t (.t (.t (.t .h)))))) rfl .nil)))) (X_callCS cf48 (.tmp rfl rfl) (.cons (.tmp rfl rfl) .nil) (i_ViewOf_1_ok x.2 w kc1 a_e1 vc1_0 kc2 a_e2 _ (hcl x (List.mem_of_getElem? hx2)))) (fun _ => ?_)
    refine C_val (V_not (b := p x) (.tmp rfl rfl)) ?_
    refine C_nil ?_
    refine CW_cond (b := (!p x)) (.tmp rfl rfl) (fun hb3 => ?_) (fun hb3 => ?_)
    · refine K_region ?_
      refine C_val (V_move (v := v.v) (.tmp rfl rfl)) ?_
      refine C_val (V_move (v := (.int .i64 (i : Int))) (.tmp rfl rfl)) ?_
      refine C_at .h (fun hp => V_loadBox ag53 ty53.sz rfl (.tmp rfl rfl) hp.2 rfl) ?_
      have hii : (decide ((0 : Int) ≤ (i : Int)) && decide ((i : Int) < (cur.length : Int))) = true := by simp; omega
      refine C_idxO sl30 ty53.sz (.tmp rfl rfl) (.tmp rfl rfl) (.t (.t (.t .h))) hii (fun k2 hk2 => ?_)
      refine C_x1 (.cons (.t (.t (.t .h))) (.rd (.t .h) rfl .nil)) (X_storeO (Ro := roE (rq rd53)) (a := x) (i := (i : Int)) ty53.sz rfl (.tmp rfl rfl) (.tmp rfl rfl) hk2 hii Mk_rd (fun _ _ _ _ h => by obtain ⟨-, -, v0, rfl, _⟩ := h; rfl)) (fun F2 => ?_)
      refine C_nil ?_
      refine CW_region ?_
      refine C_val (V_move (v := (.int .i64 (i : Int))) (.tmp rfl rfl)) ?_
      refine C_val (V_add (i := (i : Int)) (j := 1) (.tmp rfl rfl) (.int _ _)) ?_
      rw [show IntKind.i64.wrap ((i : Int) + 1) = ((i + 1 : Nat) : Int) from by rw [wrap_in (by omega) (by omega)]; rfl]
      refine C_val (V_assign (v := (.int .i64 ((i + 1 : Nat) : Int))) (.tmp rfl rfl)) ?_
      refine C_nil ?_
      refine CW_region ?_
      refine C_val (V_move (v := (.int .i64 (j : Int))) (.tmp rfl rfl)) ?_
      refine C_val (V_add (i := (j : Int)) (j := 1) (.tmp rfl rfl) (.int _ _)) ?_
      rw [show IntKind.i64.wrap ((j : Int) + 1) = ((j + 1 : Nat) : Int) from by rw [wrap_in (by omega) (by omega)]; rfl]
      refine C_val (V_assign (v := (.int .i64 ((j + 1 : Nat) : Int))) (.tmp rfl rfl)) ?_
      refine C_nil ?_
      exact ⟨_, by omega, _, cur.set i x, i + 1, j + 1, F2, rfl, (EqL.cons rfl (EqL.cons rfl (EqL.cons rfl (EqL.cons rfl (EqL.nil))))).eq, hI.no hx2 (by simpa using hb3), .sel (.cons .h (.rd (.t (.t (.t .h))) rfl (.rd (.t (.t (.t (.t .h)))) rfl (.rd (.t (.t (.t (.t (.t .h))))) rfl .nil))))⟩
    · refine CW_skip ?_
      refine CW_region ?_
      refine C_val (V_move (v := (.int .i64 (j : Int))) (.tmp rfl rfl)) ?_
      refine C_val (V_add (i := (j : Int)) (j := 1) (.tmp rfl rfl) (.int _ _)) ?_
      rw [show IntKind.i64.wrap ((j : Int) + 1) = ((j + 1 : Nat) : Int) from by rw [wrap_in (by omega) (by omega)]; rfl]
      refine C_val (V_assign (v := (.int .i64 ((j + 1 : Nat) : Int))) (.tmp rfl rfl)) ?_
      refine C_nil ?_
      exact ⟨_, by omega, _, cur, i, j + 1, F', rfl, (EqL.cons rfl (EqL.cons rfl (EqL.cons rfl (EqL.cons rfl (EqL.nil))))).eq, hI.yes hx2 (by simpa using hb3), .sel (.cons (.t (.t (.t .h))) (.rd (.t (.t (.t .h))) rfl (.rd (.t (.t (.t (.t .h)))) rfl (.rd (.t (.t (.t (.t (.t .h))))) rfl .nil))))⟩
  · refine CW_exit ?_
    refine CThen_exit ?_
    refine CThen_exit ?_
    refine CIn_self ?_
    have hj : qs.length ≤ j := by simp at hb2; omega
    refine K_pure .h (own_form (by intro e; rw [e] at hlen; simp at hlen; omega)) (fun hv => ?_)
    obtain ⟨k0, m0, rfl, hm0⟩ := hv
    refine K_region ?_
    refine C_val (V_move (v := (.slice (some ⟨k0, 0, none⟩) cur.length m0)) (.tmp rfl rfl)) ?_
    refine C_val (V_move (v := (.int .i64 (i : Int))) (.tmp rfl rfl)) ?_
    refine C_sliceLo sl30 ty53.sz (.tmp rfl rfl) (.tmp rfl rfl) .h (by omega) (by omega) ?_
    refine C_x1 (.cons .h .nil) (X_clear (l := cur.length) (m := m0) (k := k0) (i := i) (j := cur.length - i) sl30 ty53 rfl rfl rfl rfl rfl (by omega) (.tmp rfl rfl)) (fun _ => ?_)
    refine C_nil ?_
    refine K_region ?_
    refine C_val (V_move (v := (.slice (some ⟨k0, 0, none⟩) cur.length m0)) (.tmp rfl rfl)) ?_
    refine C_val (V_move (v := (.int .i64 (i : Int))) (.tmp rfl rfl)) ?_
    refine C_sliceHi sl30 ty53.sz (.tmp rfl rfl) hm0 (.tmp rfl rfl) .h rfl (by omega) (by omega) (by omega) ?_
    refine C_val (V_assign (v := (.slice (some ⟨k0, 0, none⟩) i 2)) (.tmp rfl rfl)) ?_
    refine C_nil ?_
    refine CW_ret ?_
    rw [← hI.fin hj]
    exact End_ret (⟨some ⟨k0, 0, none⟩, i, 2⟩, F') (.tmp rfl rfl .nil) rfl (.sel (.cons .h .nil))
theorem g_slices_DeleteFunc_impl_Access_impl_Access_iViewOf1_ok (a_s : List Access) (v0_0 : Sv) (F0_0 : List Nat) (kc1 : Nat) (a_e1 : List Method) (vc1_0 : Sv) (kc2 : Nat) (a_e2 : Int) (R : List Access) (hF : g_slices_DeleteFunc_impl_Access_impl_Access_iViewOf1 a_s a_e1 a_e2 = some R) :
    Fw.Spec Try.prog 46 [v0_0.v, (.func (.func 48) [].toArray [(.pointer (some ⟨kc1, 0, some 0⟩)), (.pointer (some ⟨kc2, 0, some 0⟩))].toArray)] [cown (OwnS 53 ow53) F0_0 v0_0.v a_s, cboR kc1 28 vc1_0.v, crd (RdS 55 rd55) vc1_0.v a_e1, cboR kc2 3 (.int .i64 a_e2)] (fun p : Sv × List Nat => p.1.v) (fun p => [cown (OwnS 53 ow53) p.2 p.1.v R]) := by
  unfold g_slices_DeleteFunc_impl_Access_impl_Access_iViewOf1 at hF
  obtain ⟨h1, h2⟩ := delL_some hF
  refine Spec_pure cown_bound (fun hb => ?_)
  refine Spec_deep (R := rd53) rfl (fun es F1 hel => ⟨(es.zip a_s).filter (fun a => !(i_ViewOf_1 a.2 a_e1 a_e2).getD false), List.filter_sublist, by rw [h2]; exact zip_filter (fun a => (i_ViewOf_1 a a_e1 a_e2).getD false) es a_s hel, ?_⟩)
  refine g_slices_DeleteFunc_impl_Access_impl_Access_iViewOf1_sh (es.zip a_s) v0_0 F1 kc1 a_e1 vc1_0 kc2 a_e2 (fun a => (i_ViewOf_1 a.2 a_e1 a_e2).getD false) (fun q hq => h1 q.2 (List.of_mem_zip hq).2) ?_ (by simp; omega)
  rw [List.map_snd_zip (Nat.le_of_eq hel.symm), ← ixF_map Prod.snd (fun a => (i_ViewOf_1 a a_e1 a_e2).getD false), List.map_snd_zip (Nat.le_of_eq hel.symm)]
  exact index_loop (L := g_slices_IndexFunc_impl_Access_impl_Access_iViewOf1_L1 a_e1 a_e2) (fun _ => rfl) (fun _ _ _ => rfl) a_s 0 h1

/-! impl.ViewOf -/
def i_ViewOf (a_l : List Method) (a_log : List Access) (a_rel : Int) : Option ((List Access)) :=
  (i_copyAccesses a_log).bind fun r3 =>
  (g_slices_DeleteFunc_impl_Access_impl_Access_iViewOf1 r3 a_l a_rel).bind fun r6 =>
  some r6
theorem i_ViewOf_ok (a_l : List Method) (v0_0 : Sv) (a_log : List Access) (v1_0 : Sv) (a_rel : Int) (R : (List Access)) (hF : i_ViewOf a_l a_log a_rel = some R) :
    Fw.Spec Try.prog 29 [v0_0.v, v1_0.v, (.int .i64 a_rel)] [crd (RdS 55 rd55) v0_0.v a_l, crd (RdS 53 rd53) v1_0.v a_log] (fun p : Sv × List Nat => p.1.v) (fun p => [cown (OwnS 53 ow53) p.2 p.1.v R]) := by
  refine Spec_enter (n := 11) Try.func29 rfl rfl (rs := [.tmp 6]) rfl rfl rfl ?_
  intro H0 F0
  unfold i_ViewOf at hF
  refine K_region (C_newR rfl (N_box (g := false) (v := v0_0.v) ty28.sz (.tmp rfl rfl) rfl) (fun k1 => ?_))
  refine C_newR rfl (N_box (g := false) (v := (.int .i64 a_rel)) ty3.sz (.tmp rfl rfl) rfl) (fun k2 => ?_)
  refine C_val (V_assign (v := (.slice none 0 0)) EV.nilSlice) ?_
  refine C_nil (K_region (Cm v1_0.v rfl rfl ?_))
  obtain ⟨r3, hx4, hF⟩ := bind_some hF
  refine C_x1 (.rd (.t (.t (.t .h))) rfl .nil) (X_callS cf47 (.cons (.tmp rfl rfl) .nil) (i_copyAccesses_ok a_log v1_0 _ hx4)) (fun p5 => ?_)
  refine C_val (V_makeFunc (fn := .func 48) (vs := []) (us := [(.pointer (some ⟨k1, 0, some 0⟩)), (.pointer (some ⟨k2, 0, some 0⟩))]) .nil (.cons (.tmp rfl rfl) (.cons (.tmp rfl rfl) .nil))) ?_
  obtain ⟨r6, hx7, hF⟩ := bind_some hF
  refine C_x1 (.cons .h (.rd (.t .h) rfl (.rd (.t (.t .h)) rfl (.rd .h rfl .nil)))) (X_callS cf46 (.cons (.tmp rfl rfl) (.cons (.tmp rfl rfl) .nil)) (g_slices_DeleteFunc_impl_Access_impl_Access_iViewOf1_ok r3 p5.1 p5.2 k1 a_l v0_0 k2 a_rel _ hx7)) (fun p8 => ?_)
  refine Ca p8.1.v rfl rfl ?_
  refine C_nil (CW_ret ?_)
  obtain rfl := Option.some.inj hF
  exact End_ret (p8.1, p8.2) (.tmp rfl rfl .nil) rfl (.sel (.cons .h .nil))

/-! slices.Sort[[]int,int] -/
def g_slices_Sort_int_int (a_x : List Int) : Option (List Int) :=
  some (a_x.mergeSort fun x y => decide (x ≤ y))
theorem g_slices_Sort_int_int_ok (a_x : List Int) (v0_0 : Sv) (F0_0 : List Nat) (R : List Int) (hF : g_slices_Sort_int_int a_x = some R) :
    Fw.Spec Try.prog 30 [v0_0.v] [cown (OwnS 3 (roE rdInt)) F0_0 v0_0.v a_x] (fun _ : List Nat => (.tuple [].toArray)) (fun p => [cown (OwnS 3 (roE rdInt)) p v0_0.v R]) := by
  cases hF
  exact Spec_sort ty3 (Go.Proofs.Any.slices_Sort_int_none lays189) (Go.Proofs.Any.slices_Sort_int lays189)

/-! slices.Compact[[]int,int] -/
def g_slices_Compact_int_int (a_x : List Int) : Option (List Int) :=
  some (Lib.compact a_x)
theorem g_slices_Compact_int_int_ok (a_x : List Int) (v0_0 : Sv) (F0_0 : List Nat) (R : List Int) (hF : g_slices_Compact_int_int a_x = some R) :
    Fw.Spec Try.prog 31 [v0_0.v] [cown (OwnS 3 (roE rdInt)) F0_0 v0_0.v a_x] (fun p : Sv × List Nat => p.1.v) (fun p => [cown (OwnS 3 (roE rdInt)) p.2 p.1.v R]) := by
  cases hF
  exact Spec_compact ty3 compact_le rfl (Go.Proofs.Any.slices_Compact_int_empty lays2020) (Go.Proofs.Any.slices_Compact_int lays2020)

/-! impl.SeenValues -/
def i_SeenValues_L1 : List Access → Nat → (List Int) → Option ((List Int))
  | [], k34, c28 => (g_slices_Sort_int_int c28).bind fun r43 =>
    (g_slices_Compact_int_int r43).bind fun r46 =>
    some r46
  | x36 :: rest35, k34, c28 => (app c28 x36.Values).bind fun z53 =>
    i_SeenValues_L1 rest35 (k34 + 1) z53
def i_SeenValues (a_l : List Method) (a_log : List Access) (a_rel : Int) : Option ((List Int)) :=
  (i_ViewOf a_l a_log a_rel).bind fun r2 =>
  i_SeenValues_L1 r2 0 ([] : List Int)
theorem i_SeenValues_ok (a_l : List Method) (v0_0 : Sv) (a_log : List Access) (v1_0 : Sv) (a_rel : Int) (R : (List Int)) (hF : i_SeenValues a_l a_log a_rel = some R) :
    Fw.Spec Try.prog 10 [v0_0.v, v1_0.v, (.int .i64 a_rel)] [crd (RdS 55 rd55) v0_0.v a_l, crd (RdS 53 rd53) v1_0.v a_log] (fun p : Sv × List Nat => p.1.v) (fun p => [cown (OwnS 3 (roE rdInt)) p.2 p.1.v R]) := by
  refine Spec_enter (n := 29) Try.func10 rfl rfl (rs := [.tmp 6]) rfl rfl rfl ?_
  intro H0 F0
  unfold i_SeenValues at hF
  refine K_region (C_val (V_assign (v := (.slice none 0 0)) EV.nilSlice) ?_)
  refine C_nil (K_region (C_new rfl (N_buildSliceT (g := true) sl26 ty3 .nil (vs := []) rfl rfl rfl (by simp)) (fun k1 => ?_)))
  refine C_conv (.cons .h .nil) (own_lit (Ro := (roE rdInt)) (E := 3) (F := []) (xs := ([] : List Int)) MkL_nil rfl rfl) apps ?_
  refine Ca (.slice (some ⟨k1, 0, none⟩) 0 1) rfl rfl ?_
  refine C_nil (K_in (K_region (Cm v0_0.v rfl rfl ?_)))
  refine Cm v1_0.v rfl rfl ?_
  refine Cm (.int .i64 a_rel) rfl rfl ?_
  obtain ⟨r2, hx3, hF⟩ := bind_some hF
  refine C_x1 (.rd (.t .h) rfl (.rd (.t (.t .h)) rfl .nil)) (X_callS cf29 (.cons (.tmp rfl rfl) (.cons (.tmp rfl rfl) (.cons (.tmp rfl rfl) .nil))) (i_ViewOf_ok a_l v0_0 a_log v1_0 a_rel _ hx3)) (fun p4 => ?_)
  refine C_at .h (fun hp => V_lenR (l := r2.length) sl30 (.tmp rfl rfl) (cown_len hp)) ?_
  refine C_val (V_move (v := (.int .i64 0)) (.int _ _)) ?_
  refine C_nil (CW_block (K_frz .h frz_own ?_))
  refine CW_loop (m := r2.length) (fun m32 f' cs' => ∃ (g : Fr) (k34 : Nat) (rest35 : List Access) (c28 : List Int) (v29 : Sv) (F30 : List Nat), m32 = rest35.length ∧ f' = updL g [(7, v29.v), (14, p4.1.v), (15, (.int .i64 (r2.length : Int))), (16, (.int .i64 (k34 : Int)))] ∧ List.drop k34 r2 = rest35 ∧ Ent cs' [cown (OwnS 3 (roE rdInt)) F30 v29.v c28, crd (RdS 53 rd53) p4.1.v r2] ∧ i_SeenValues_L1 rest35 k34 c28 = some R) ⟨_, 0, _, _, ⟨(some ⟨k1, 0, none⟩), 0, 1⟩, (k1 :: []), rfl, (EqL.cons rfl (EqL.cons rfl (EqL.cons rfl (EqL.cons rfl (EqL.nil))))).eq, rfl, (.sel (.cons (.t .h) (.rd .h rfl .nil))), hF⟩ ?_
  clear hF
  rintro m32 _ _ ⟨g33, k34, rest35, c28, v29, F30, rfl, rfl, hd37, hE, hF⟩
  refine K_ent hE ?_
  clear hE
  refine K_pure (c := crd (RdS 53 rd53) p4.1.v r2) (.t .h) crd_bound (fun hbd42 => ?_)
  rcases rest35 with _ | ⟨x36, rest35⟩
  · have hk38 := List.drop_eq_nil_iff.1 hd37
    have hfe41 : (decide (((k34 : Int) : Int) < (r2.length : Int))) = false := decide_eq_false (by omega)
    rw [i_SeenValues_L1] at hF
    refine K_region (C_val (V_lss (i := (k34 : Int)) (j := (r2.length : Int)) (.tmp rfl rfl) (.tmp rfl rfl)) ?_)
    refine C_nil (K_in (CW_cond (b := (decide (((k34 : Int) : Int) < (r2.length : Int)))) (.tmp rfl rfl) (fun hb => absurd (hfe41.symm.trans hb) (by decide)) (fun _ => ?_)))
    refine CW_exit ?_
    iterate 2 refine CThen_exit ?_
    refine CIn_self (K_region (Cm v29.v rfl rfl ?_))
    obtain ⟨r43, hx44, hF⟩ := bind_some hF
    refine C_x1 (.cons .h .nil) (X_callS cf30 (.cons (.tmp rfl rfl) .nil) (g_slices_Sort_int_int_ok c28 v29 F30 _ hx44)) (fun p45 => ?_)
    refine C_nil (K_region (Cm v29.v rfl rfl ?_))
    obtain ⟨r46, hx47, hF⟩ := bind_some hF
    refine C_x1 (.cons .h .nil) (X_callS cf31 (.cons (.tmp rfl rfl) .nil) (g_slices_Compact_int_int_ok r43 v29 p45 _ hx47)) (fun p48 => ?_)
    refine Ca p48.1.v rfl rfl ?_
    refine C_nil (CW_ret ?_)
    obtain rfl := Option.some.inj hF
    exact End_ret (p48.1, p48.2) (.tmp rfl rfl .nil) rfl (.sel (.cons .h .nil))
  obtain ⟨hk38, hx39, hd40⟩ := drop_cons hd37
  have hfe41 : (decide (((k34 : Int) : Int) < (r2.length : Int))) = true := decide_eq_true (by omega)
  rw [i_SeenValues_L1] at hF
  refine K_region (C_val (V_lss (i := (k34 : Int)) (j := (r2.length : Int)) (.tmp rfl rfl) (.tmp rfl rfl)) ?_)
  refine C_nil (K_in (CW_cond (b := (decide (((k34 : Int) : Int) < (r2.length : Int)))) (.tmp rfl rfl) (fun _ => ?_) (fun hb => absurd (hfe41.symm.trans hb) (by decide))))
  refine CW_skip (K_block (K_region (C_idx (a := x36) sl30 ty53.sz (.tmp rfl rfl) (.tmp rfl rfl) (.t .h) (Int.natCast_nonneg k34) hx39 (fun k49 j50 => ?_))))
  refine C_ldA1 (ul53_0_53 x36) ag53 ty53.sz rfl (.tmp rfl rfl) .h la53_0_53 (fun p51 => ?_)
  refine C_new rfl (N_allocT (g := true) ty53 rfl rfl) (fun k52 => ?_)
  refine C_x1 (.cons .h .nil) (X_storeB (e' := (.agg [(.int .i64 x36.Method), p51.v].toArray)) (v := (.agg [(.int .i64 x36.Method), p51.v].toArray)) ty53.sz (.tmp rfl rfl) (.tmp rfl rfl) rfl rfl rfl rfl rfl) (fun _ => ?_)
  refine C_nil (CW_region (Cm v29.v rfl rfl ?_))
  refine C_val (V_fieldAddr (off := 1) fd53_1 (.tmp rfl rfl)) ?_
  refine C_at .h (fun hp => V_load (v := p51.v) ag26 (.tmp rfl rfl) hp.2 rfl rfl) ?_
  obtain ⟨z53, hx54, hF⟩ := bind_some hF
  refine C_x1 (.cons (.t (.t (.t .h))) (.rd (.t .h) rfl .nil)) (X_appendO (Ro := (roE rdInt)) sl26 ni26 ty3 rfl rfl rfl (.tmp rfl rfl) (.tmp rfl rfl) hx54 src_rd) (fun p55 => ?_)
  refine Ca p55.1.v rfl rfl ?_
  refine C_nil (CW_region (C_val (V_add (i := (k34 : Int)) (j := 1) (.tmp rfl rfl) (.int _ _)) ?_))
  refine Cm (.int .i64 (IntKind.i64.wrap ((k34 : Int) + 1))) rfl rfl ?_
  refine C_nil ?_
  have hw56 : IntKind.i64.wrap ((k34 : Int) + 1) = ((k34 + 1 : Nat) : Int) := by rw [wrap_in (by omega) (by omega)]; rfl
  rw [hw56]
  exact ⟨_, Nat.lt_succ_self _, _, k34 + 1, rest35, _, p55.1, p55.2, rfl, (EqL.cons rfl (EqL.cons rfl (EqL.cons rfl (EqL.cons rfl (EqL.nil))))).eq, hd40, (.sel (.cons .h (.rd (.t (.t (.t .h))) rfl .nil))), hF⟩

/-! laws.eqIntS -/
def l_eqIntS_L1 (a_b : List Int) : List Int → Nat → Option (Bool)
  | [], k4 => some true
  | x6 :: rest5, k4 => (ix a_b (k4 : Int)).bind fun x15 =>
    if ((x6 : Int) != x15) then (
      some false)
    else (
      l_eqIntS_L1 a_b rest5 (k4 + 1))
def l_eqIntS (a_a : List Int) (a_b : List Int) : Option (Bool) :=
  if (((a_a.length : Int) : Int) != (a_b.length : Int)) then (
    some false)
  else (
    l_eqIntS_L1 a_b a_a 0)
theorem l_eqIntS_ok (a_a : List Int) (v0_0 : Sv) (a_b : List Int) (v1_0 : Sv) (R : Bool) (hF : l_eqIntS a_a a_b = some R) :
    Fw.Spec Try.prog 11 [v0_0.v, v1_0.v] [crd (RdS 3 rdInt) v0_0.v a_a, crd (RdS 3 rdInt) v1_0.v a_b] (fun _ : Unit => (.bool R)) (fun _ => []) := by
  refine Spec_enter (n := 26) Try.func11 rfl rfl (rs := [.tmp 4]) rfl rfl rfl ?_
  intro H0 F0
  unfold l_eqIntS at hF
  refine K_region (C_val (V_assign (v := (.bool false)) (.bool _)) ?_)
  refine C_nil (K_in (K_region (Cm v0_0.v rfl rfl ?_)))
  refine C_at .h (fun hp => V_lenR (l := a_a.length) sl26 (.tmp rfl rfl) (crd_len hp)) ?_
  refine Cm v1_0.v rfl rfl ?_
  refine C_at (.t .h) (fun hp => V_lenR (l := a_b.length) sl26 (.tmp rfl rfl) (crd_len hp)) ?_
  refine C_val (V_neq (i := (a_a.length : Int)) (j := (a_b.length : Int)) (.tmp rfl rfl) (.tmp rfl rfl)) ?_
  refine C_nil (CW_cond (b := (((a_a.length : Int) : Int) != (a_b.length : Int))) (.tmp rfl rfl) (fun hb23 => ?_) (fun hb23 => ?_))
  · rw [if_pos hb23] at hF
    refine K_region (C_val (V_assign (v := (.bool false)) (.bool _)) ?_)
    refine C_nil (CW_ret ?_)
    obtain rfl := Option.some.inj hF
    exact End_ret () (.tmp rfl rfl .nil) rfl (.sel .nil)
  rw [if_neg (by rw [hb23]; exact Bool.false_ne_true)] at hF
  refine CW_skip (K_in (K_region (C_val (V_assign (v := (.int .i64 0)) (.int _ _)) ?_)))
  refine C_nil (CW_block (CW_loop (m := a_a.length) (fun m2 f' cs' => ∃ (g : Fr) (k4 : Nat) (rest5 : List Int), m2 = rest5.length ∧ f' = updL g [(0, v0_0.v), (1, v1_0.v), (5, (.int .i64 (k4 : Int)))] ∧ List.drop k4 a_a = rest5 ∧ Ent cs' [crd (RdS 3 rdInt) v0_0.v a_a, crd (RdS 3 rdInt) v1_0.v a_b] ∧ l_eqIntS_L1 a_b rest5 k4 = some R) ⟨_, 0, _, rfl, (EqL.cons rfl (EqL.cons rfl (EqL.cons rfl (EqL.nil)))).eq, rfl, (.sel (.rd .h rfl (.rd (.t .h) rfl .nil))), hF⟩ ?_))
  clear hF
  rintro m2 _ _ ⟨g3, k4, rest5, rfl, rfl, hd7, hE, hF⟩
  refine K_ent hE ?_
  clear hE
  refine K_pure (c := crd (RdS 3 rdInt) v0_0.v a_a) .h crd_bound (fun hbd12 => ?_)
  rcases rest5 with _ | ⟨x6, rest5⟩
  · have hk8 := List.drop_eq_nil_iff.1 hd7
    have hfe11 : (decide (((k4 : Int) : Int) < (a_a.length : Int))) = false := decide_eq_false (by omega)
    rw [l_eqIntS_L1] at hF
    refine K_in (K_region (Cm (.int .i64 (k4 : Int)) rfl rfl ?_))
    refine Cm v0_0.v rfl rfl ?_
    refine C_at .h (fun hp => V_lenR (l := a_a.length) sl26 (.tmp rfl rfl) (crd_len hp)) ?_
    refine C_val (V_lss (i := (k4 : Int)) (j := (a_a.length : Int)) (.tmp rfl rfl) (.tmp rfl rfl)) ?_
    refine C_nil (CW_cond (b := (decide (((k4 : Int) : Int) < (a_a.length : Int)))) (.tmp rfl rfl) (fun hb => absurd (hfe11.symm.trans hb) (by decide)) (fun _ => ?_))
    refine CW_exit ?_
    iterate 2 refine CThen_exit ?_
    refine CIn_self (K_region (C_val (V_assign (v := (.bool true)) (.bool _)) ?_))
    refine C_nil (CW_ret ?_)
    obtain rfl := Option.some.inj hF
    exact End_ret () (.tmp rfl rfl .nil) rfl (.sel .nil)
  obtain ⟨hk8, hx9, hd10⟩ := drop_cons hd7
  have hfe11 : (decide (((k4 : Int) : Int) < (a_a.length : Int))) = true := decide_eq_true (by omega)
  rw [l_eqIntS_L1] at hF
  refine K_in (K_region (Cm (.int .i64 (k4 : Int)) rfl rfl ?_))
  refine Cm v0_0.v rfl rfl ?_
  refine C_at .h (fun hp => V_lenR (l := a_a.length) sl26 (.tmp rfl rfl) (crd_len hp)) ?_
  refine C_val (V_lss (i := (k4 : Int)) (j := (a_a.length : Int)) (.tmp rfl rfl) (.tmp rfl rfl)) ?_
  refine C_nil (CW_cond (b := (decide (((k4 : Int) : Int) < (a_a.length : Int)))) (.tmp rfl rfl) (fun _ => ?_) (fun hb => absurd (hfe11.symm.trans hb) (by decide)))
  refine CW_skip (K_block (K_draw [0, 1, 2, 3, 4, 5, 6, 7, 8] [0, 0, 3, 7, 0, 0, 48, 112, 255] [] mixed (by decide +kernel) ?_))
  refine Dm v0_0.v rfl rfl rfl rfl ?_
  refine Dm (.int .i64 (k4 : Int)) rfl rfl rfl rfl ?_
  refine D_idx (a := x6) sl26 ty3.sz rfl .no (.tmp rfl rfl) (.tmp rfl rfl) rfl rfl .h (Int.natCast_nonneg k4) hx9 (fun k13 j14 => ?_)
  refine D_ldS (w := (.int .i64 x6)) ag3 rfl .no (.tmp rfl rfl) rfl .h ls3_0 ?_
  refine Dm v1_0.v rfl rfl rfl rfl ?_
  refine Dm (.int .i64 (k4 : Int)) rfl rfl rfl rfl ?_
  obtain ⟨x15, hx16, hF⟩ := bind_some hF
  obtain ⟨hp17, hx18⟩ := ix_some hx16
  refine D_idx (a := x15) sl26 ty3.sz rfl .no (.tmp rfl rfl) (.tmp rfl rfl) rfl rfl (.t (.t .h)) hp17 hx18 (fun k19 j20 => ?_)
  refine D_ldS (w := (.int .i64 x15)) ag3 rfl .no (.tmp rfl rfl) rfl .h ls3_0 ?_
  refine D_val rfl .no (fun ha => V_neq (i := x6) (j := x15) (EN ha (.tmp rfl rfl) rfl) (EN ha (.tmp rfl rfl) rfl)) ?_
  refine D_nil (CW_cond (b := ((x6 : Int) != x15)) (.tmp rfl rfl) (fun hb22 => ?_) (fun hb22 => ?_))
  · rw [if_pos hb22] at hF
    refine K_region (C_val (V_assign (v := (.bool false)) (.bool _)) ?_)
    refine C_nil (CW_ret ?_)
    obtain rfl := Option.some.inj hF
    exact End_ret () (.tmp rfl rfl .nil) rfl (.sel .nil)
  rw [if_neg (by rw [hb22]; exact Bool.false_ne_true)] at hF
  refine CW_skip (CW_region (Cm (.int .i64 (k4 : Int)) rfl rfl ?_))
  refine C_val (V_add (i := (k4 : Int)) (j := 1) (.tmp rfl rfl) (.int _ _)) ?_
  refine Ca (.int .i64 (IntKind.i64.wrap ((k4 : Int) + 1))) rfl rfl ?_
  refine C_nil ?_
  have hw21 : IntKind.i64.wrap ((k4 : Int) + 1) = ((k4 + 1 : Nat) : Int) := by rw [wrap_in (by omega) (by omega)]; rfl
  rw [hw21]
  exact ⟨_, Nat.lt_succ_self _, _, k4 + 1, rest5, rfl, (EqL.cons rfl (EqL.cons rfl (EqL.cons rfl (EqL.nil)))).eq, hd10, (.sel (.rd (.t (.t .h)) rfl (.rd (.t (.t (.t .h))) rfl .nil))), hF⟩

/-! laws.eqMethod -/
def l_eqMethod (a_a : Method) (a_b : Method) : Option (Bool) :=
  if ((a_a.Rel : Int) != a_b.Rel) then (
    some false)
  else (
    (l_eqIntS a_a.Inputs a_b.Inputs).bind fun r3 =>
    if (!r3) then (
      some false)
    else (
      if ((a_a.Limit : Int) != a_b.Limit) then (
        some false)
      else (
        if ((a_a.Cost : Int) != a_b.Cost) then (
          some false)
        else (
          if ((a_a.Quota : Int) != a_b.Quota) then (
            some false)
          else (
            some true)))))
theorem l_eqMethod_ok (a_a : Method) (v0_1 : Sv) (a_b : Method) (v1_1 : Sv) (R : Bool) (hF : l_eqMethod a_a a_b = some R) :
    Fw.Spec Try.prog 32 [(.agg [(.int .i64 a_a.Rel), v0_1.v, (.int .i64 a_a.Limit), (.int .i64 a_a.Cost), (.int .i64 a_a.Quota)].toArray), (.agg [(.int .i64 a_b.Rel), v1_1.v, (.int .i64 a_b.Limit), (.int .i64 a_b.Cost), (.int .i64 a_b.Quota)].toArray)] [crd (RdS 3 rdInt) v0_1.v a_a.Inputs, crd (RdS 3 rdInt) v1_1.v a_b.Inputs] (fun _ : Unit => (.bool R)) (fun _ => []) := by
  refine Spec_enter (n := 31) Try.func32 rfl rfl (rs := [.tmp 4]) rfl rfl rfl ?_
  intro H0 F0
  unfold l_eqMethod at hF
  refine K_region (C_newR rfl (N_box (g := false) (v := (.agg [(.int .i64 a_a.Rel), v0_1.v, (.int .i64 a_a.Limit), (.int .i64 a_a.Cost), (.int .i64 a_a.Quota)].toArray)) ty55.sz (.tmp rfl rfl) rfl) (fun k1 => ?_))
  refine C_newR rfl (N_box (g := false) (v := (.agg [(.int .i64 a_b.Rel), v1_1.v, (.int .i64 a_b.Limit), (.int .i64 a_b.Cost), (.int .i64 a_b.Quota)].toArray)) ty55.sz (.tmp rfl rfl) rfl) (fun k2 => ?_)
  refine C_val (V_assign (v := (.bool false)) (.bool _)) ?_
  refine C_nil (K_in (K_region (C_val (V_fieldAddr (off := 0) fd55_0 (.tmp rfl rfl)) ?_)))
  refine C_at (.t .h) (fun hp => V_load (v := (.int .i64 a_a.Rel)) ag3 (.tmp rfl rfl) hp.2 rfl rfl) ?_
  refine C_val (V_fieldAddr (off := 0) fd55_0 (.tmp rfl rfl)) ?_
  refine C_at .h (fun hp => V_load (v := (.int .i64 a_b.Rel)) ag3 (.tmp rfl rfl) hp.2 rfl rfl) ?_
  refine C_val (V_neq (i := a_a.Rel) (j := a_b.Rel) (.tmp rfl rfl) (.tmp rfl rfl)) ?_
  refine C_nil (CW_cond (b := ((a_a.Rel : Int) != a_b.Rel)) (.tmp rfl rfl) (fun hb10 => ?_) (fun hb10 => ?_))
  · rw [if_pos hb10] at hF
    refine K_region (C_val (V_assign (v := (.bool false)) (.bool _)) ?_)
    refine C_nil (CW_ret ?_)
    obtain rfl := Option.some.inj hF
    exact End_ret () (.tmp rfl rfl .nil) rfl (.sel .nil)
  rw [if_neg (by rw [hb10]; exact Bool.false_ne_true)] at hF
  refine CW_skip (K_in (K_region (C_val (V_fieldAddr (off := 1) fd55_1 (.tmp rfl rfl)) ?_)))
  refine C_at (.t .h) (fun hp => V_load (v := v0_1.v) ag26 (.tmp rfl rfl) hp.2 rfl rfl) ?_
  refine C_val (V_fieldAddr (off := 1) fd55_1 (.tmp rfl rfl)) ?_
  refine C_at .h (fun hp => V_load (v := v1_1.v) ag26 (.tmp rfl rfl) hp.2 rfl rfl) ?_
  obtain ⟨r3, hx4, hF⟩ := bind_some hF
  refine C_x0 (.rd (.t (.t .h)) rfl (.rd (.t (.t (.t .h))) rfl .nil)) (X_callS cf11 (.cons (.tmp rfl rfl) (.cons (.tmp rfl rfl) .nil)) (l_eqIntS_ok a_a.Inputs v0_1 a_b.Inputs v1_1 _ hx4)) (fun _ => ?_)
  refine C_val (V_not (b := r3) (.tmp rfl rfl)) ?_
  refine C_nil (CW_cond (b := (!r3)) (.tmp rfl rfl) (fun hb9 => ?_) (fun hb9 => ?_))
  · rw [if_pos hb9] at hF
    refine K_region (C_val (V_assign (v := (.bool false)) (.bool _)) ?_)
    refine C_nil (CW_ret ?_)
    obtain rfl := Option.some.inj hF
    exact End_ret () (.tmp rfl rfl .nil) rfl (.sel .nil)
  rw [if_neg (by rw [hb9]; exact Bool.false_ne_true)] at hF
  refine CW_skip (K_in (K_region (C_val (V_fieldAddr (off := 2) fd55_2 (.tmp rfl rfl)) ?_)))
  refine C_at (.t .h) (fun hp => V_load (v := (.int .i64 a_a.Limit)) ag3 (.tmp rfl rfl) hp.2 rfl rfl) ?_
  refine C_val (V_fieldAddr (off := 2) fd55_2 (.tmp rfl rfl)) ?_
  refine C_at .h (fun hp => V_load (v := (.int .i64 a_b.Limit)) ag3 (.tmp rfl rfl) hp.2 rfl rfl) ?_
  refine C_val (V_neq (i := a_a.Limit) (j := a_b.Limit) (.tmp rfl rfl) (.tmp rfl rfl)) ?_
  refine C_nil (CW_cond (b := ((a_a.Limit : Int) != a_b.Limit)) (.tmp rfl rfl) (fun hb8 => ?_) (fun hb8 => ?_))
  · rw [if_pos hb8] at hF
    refine K_region (C_val (V_assign (v := (.bool false)) (.bool _)) ?_)
    refine C_nil (CW_ret ?_)
    obtain rfl := Option.some.inj hF
    exact End_ret () (.tmp rfl rfl .nil) rfl (.sel .nil)
  rw [if_neg (by rw [hb8]; exact Bool.false_ne_true)] at hF
  refine CW_skip (K_in (K_region (C_val (V_fieldAddr (off := 3) fd55_3 (.tmp rfl rfl)) ?_)))
  refine C_at (.t .h) (fun hp => V_load (v := (.int .i64 a_a.Cost)) ag3 (.tmp rfl rfl) hp.2 rfl rfl) ?_
  refine C_val (V_fieldAddr (off := 3) fd55_3 (.tmp rfl rfl)) ?_
  refine C_at .h (fun hp => V_load (v := (.int .i64 a_b.Cost)) ag3 (.tmp rfl rfl) hp.2 rfl rfl) ?_
  refine C_val (V_neq (i := a_a.Cost) (j := a_b.Cost) (.tmp rfl rfl) (.tmp rfl rfl)) ?_
  refine C_nil (CW_cond (b := ((a_a.Cost : Int) != a_b.Cost)) (.tmp rfl rfl) (fun hb7 => ?_) (fun hb7 => ?_))
  · rw [if_pos hb7] at hF
    refine K_region (C_val (V_assign (v := (.bool false)) (.bool _)) ?_)
    refine C_nil (CW_ret ?_)
    obtain rfl := Option.some.inj hF
    exact End_ret () (.tmp rfl rfl .nil) rfl (.sel .nil)
  rw [if_neg (by rw [hb7]; exact Bool.false_ne_true)] at hF
  refine CW_skip (K_in (K_region (C_val (V_fieldAddr (off := 4) fd55_4 (.tmp rfl rfl)) ?_)))
  refine C_at (.t .h) (fun hp => V_load (v := (.int .i64 a_a.Quota)) ag3 (.tmp rfl rfl) hp.2 rfl rfl) ?_
  refine C_val (V_fieldAddr (off := 4) fd55_4 (.tmp rfl rfl)) ?_
  refine C_at .h (fun hp => V_load (v := (.int .i64 a_b.Quota)) ag3 (.tmp rfl rfl) hp.2 rfl rfl) ?_
  refine C_val (V_neq (i := a_a.Quota) (j := a_b.Quota) (.tmp rfl rfl) (.tmp rfl rfl)) ?_
  refine C_nil (CW_cond (b := ((a_a.Quota : Int) != a_b.Quota)) (.tmp rfl rfl) (fun hb6 => ?_) (fun hb6 => ?_))
  · rw [if_pos hb6] at hF
    refine K_region (C_val (V_assign (v := (.bool false)) (.bool _)) ?_)
    refine C_nil (CW_ret ?_)
    obtain rfl := Option.some.inj hF
    exact End_ret () (.tmp rfl rfl .nil) rfl (.sel .nil)
  rw [if_neg (by rw [hb6]; exact Bool.false_ne_true)] at hF
  refine CW_skip (K_region (C_val (V_assign (v := (.bool true)) (.bool _)) ?_))
  refine C_nil (CW_ret ?_)
  obtain rfl := Option.some.inj hF
  exact End_ret () (.tmp rfl rfl .nil) rfl (.sel .nil)

/-! laws.eqMethodS -/
def l_eqMethodS_L1 (a_b : List Method) : List Method → Nat → Option (Bool)
  | [], k4 => some true
  | x6 :: rest5, k4 => (ix a_b (k4 : Int)).bind fun x16 =>
    (l_eqMethod x6 x16).bind fun r23 =>
    if (!r23) then (
      some false)
    else (
      l_eqMethodS_L1 a_b rest5 (k4 + 1))
def l_eqMethodS (a_a : List Method) (a_b : List Method) : Option (Bool) :=
  if (((a_a.length : Int) : Int) != (a_b.length : Int)) then (
    some false)
  else (
    l_eqMethodS_L1 a_b a_a 0)
theorem l_eqMethodS_ok (a_a : List Method) (v0_0 : Sv) (a_b : List Method) (v1_0 : Sv) (R : Bool) (hF : l_eqMethodS a_a a_b = some R) :
    Fw.Spec Try.prog 12 [v0_0.v, v1_0.v] [crd (RdS 55 rd55) v0_0.v a_a, crd (RdS 55 rd55) v1_0.v a_b] (fun _ : Unit => (.bool R)) (fun _ => []) := by
  refine Spec_enter (n := 27) Try.func12 rfl rfl (rs := [.tmp 4]) rfl rfl rfl ?_
  intro H0 F0
  unfold l_eqMethodS at hF
  refine K_region (C_val (V_assign (v := (.bool false)) (.bool _)) ?_)
  refine C_nil (K_in (K_region (Cm v0_0.v rfl rfl ?_)))
  refine C_at .h (fun hp => V_lenR (l := a_a.length) sl28 (.tmp rfl rfl) (crd_len hp)) ?_
  refine Cm v1_0.v rfl rfl ?_
  refine C_at (.t .h) (fun hp => V_lenR (l := a_b.length) sl28 (.tmp rfl rfl) (crd_len hp)) ?_
  refine C_val (V_neq (i := (a_a.length : Int)) (j := (a_b.length : Int)) (.tmp rfl rfl) (.tmp rfl rfl)) ?_
  refine C_nil (CW_cond (b := (((a_a.length : Int) : Int) != (a_b.length : Int))) (.tmp rfl rfl) (fun hb28 => ?_) (fun hb28 => ?_))
  · rw [if_pos hb28] at hF
    refine K_region (C_val (V_assign (v := (.bool false)) (.bool _)) ?_)
    refine C_nil (CW_ret ?_)
    obtain rfl := Option.some.inj hF
    exact End_ret () (.tmp rfl rfl .nil) rfl (.sel .nil)
  rw [if_neg (by rw [hb28]; exact Bool.false_ne_true)] at hF
  refine CW_skip (K_in (K_region (C_val (V_assign (v := (.int .i64 0)) (.int _ _)) ?_)))
  refine C_nil (CW_block (CW_loop (m := a_a.length) (fun m2 f' cs' => ∃ (g : Fr) (k4 : Nat) (rest5 : List Method), m2 = rest5.length ∧ f' = updL g [(0, v0_0.v), (1, v1_0.v), (5, (.int .i64 (k4 : Int)))] ∧ List.drop k4 a_a = rest5 ∧ Ent cs' [crd (RdS 55 rd55) v0_0.v a_a, crd (RdS 55 rd55) v1_0.v a_b] ∧ l_eqMethodS_L1 a_b rest5 k4 = some R) ⟨_, 0, _, rfl, (EqL.cons rfl (EqL.cons rfl (EqL.cons rfl (EqL.nil)))).eq, rfl, (.sel (.rd .h rfl (.rd (.t .h) rfl .nil))), hF⟩ ?_))
  clear hF
  rintro m2 _ _ ⟨g3, k4, rest5, rfl, rfl, hd7, hE, hF⟩
  refine K_ent hE ?_
  clear hE
  refine K_pure (c := crd (RdS 55 rd55) v0_0.v a_a) .h crd_bound (fun hbd12 => ?_)
  rcases rest5 with _ | ⟨x6, rest5⟩
  · have hk8 := List.drop_eq_nil_iff.1 hd7
    have hfe11 : (decide (((k4 : Int) : Int) < (a_a.length : Int))) = false := decide_eq_false (by omega)
    rw [l_eqMethodS_L1] at hF
    refine K_in (K_region (Cm (.int .i64 (k4 : Int)) rfl rfl ?_))
    refine Cm v0_0.v rfl rfl ?_
    refine C_at .h (fun hp => V_lenR (l := a_a.length) sl28 (.tmp rfl rfl) (crd_len hp)) ?_
    refine C_val (V_lss (i := (k4 : Int)) (j := (a_a.length : Int)) (.tmp rfl rfl) (.tmp rfl rfl)) ?_
    refine C_nil (CW_cond (b := (decide (((k4 : Int) : Int) < (a_a.length : Int)))) (.tmp rfl rfl) (fun hb => absurd (hfe11.symm.trans hb) (by decide)) (fun _ => ?_))
    refine CW_exit ?_
    iterate 2 refine CThen_exit ?_
    refine CIn_self (K_region (C_val (V_assign (v := (.bool true)) (.bool _)) ?_))
    refine C_nil (CW_ret ?_)
    obtain rfl := Option.some.inj hF
    exact End_ret () (.tmp rfl rfl .nil) rfl (.sel .nil)
  obtain ⟨hk8, hx9, hd10⟩ := drop_cons hd7
  have hfe11 : (decide (((k4 : Int) : Int) < (a_a.length : Int))) = true := decide_eq_true (by omega)
  rw [l_eqMethodS_L1] at hF
  refine K_in (K_region (Cm (.int .i64 (k4 : Int)) rfl rfl ?_))
  refine Cm v0_0.v rfl rfl ?_
  refine C_at .h (fun hp => V_lenR (l := a_a.length) sl28 (.tmp rfl rfl) (crd_len hp)) ?_
  refine C_val (V_lss (i := (k4 : Int)) (j := (a_a.length : Int)) (.tmp rfl rfl) (.tmp rfl rfl)) ?_
  refine C_nil (CW_cond (b := (decide (((k4 : Int) : Int) < (a_a.length : Int)))) (.tmp rfl rfl) (fun _ => ?_) (fun hb => absurd (hfe11.symm.trans hb) (by decide)))
  refine CW_skip (K_block (K_draw [0, 1, 2, 3, 4, 5, 6, 7, 8, 9] [0, 0, 3, 7, 0, 0, 48, 112, 255, 511] [8] mixed (by decide +kernel) ?_))
  refine Dm v0_0.v rfl rfl rfl rfl ?_
  refine Dm (.int .i64 (k4 : Int)) rfl rfl rfl rfl ?_
  refine D_idx (a := x6) sl28 ty55.sz rfl .no (.tmp rfl rfl) (.tmp rfl rfl) rfl rfl .h (Int.natCast_nonneg k4) hx9 (fun k13 j14 => ?_)
  refine D_ldA1 (ul55_0_55 x6) ag55 ty55.sz rfl rfl .no (.tmp rfl rfl) rfl .h la55_0_55 (fun p15 => ?_)
  refine Dm v1_0.v rfl rfl rfl rfl ?_
  refine Dm (.int .i64 (k4 : Int)) rfl rfl rfl rfl ?_
  obtain ⟨x16, hx17, hF⟩ := bind_some hF
  obtain ⟨hp18, hx19⟩ := ix_some hx17
  refine D_idx (a := x16) sl28 ty55.sz rfl .no (.tmp rfl rfl) (.tmp rfl rfl) rfl rfl (.t (.t (.t .h))) hp18 hx19 (fun k20 j21 => ?_)
  refine D_ldA1 (ul55_0_55 x16) ag55 ty55.sz rfl rfl .no (.tmp rfl rfl) rfl .h la55_0_55 (fun p22 => ?_)
  obtain ⟨r23, hx24, hF⟩ := bind_some hF
  refine D_act0 rfl rfl .no (.rd (.t (.t .h)) rfl (.rd .h rfl .nil)) .nil (fun ha => X_callS cf32 (.cons (EN ha (.tmp rfl rfl) rfl) (.cons (EN ha (.tmp rfl rfl) rfl) .nil)) (l_eqMethod_ok x6 p15 x16 p22 _ hx24)) (fun _ => ?_)
  refine D_val rfl .no (fun ha => V_not (b := r23) (EN ha (.tmp rfl rfl) rfl)) ?_
  refine D_nil (CW_cond (b := (!r23)) (.tmp rfl rfl) (fun hb27 => ?_) (fun hb27 => ?_))
  · rw [if_pos hb27] at hF
    refine K_region (C_val (V_assign (v := (.bool false)) (.bool _)) ?_)
    refine C_nil (CW_ret ?_)
    obtain rfl := Option.some.inj hF
    exact End_ret () (.tmp rfl rfl .nil) rfl (.sel .nil)
  rw [if_neg (by rw [hb27]; exact Bool.false_ne_true)] at hF
  refine CW_skip (CW_region (Cm (.int .i64 (k4 : Int)) rfl rfl ?_))
  refine C_val (V_add (i := (k4 : Int)) (j := 1) (.tmp rfl rfl) (.int _ _)) ?_
  refine Ca (.int .i64 (IntKind.i64.wrap ((k4 : Int) + 1))) rfl rfl ?_
  refine C_nil ?_
  have hw26 : IntKind.i64.wrap ((k4 : Int) + 1) = ((k4 + 1 : Nat) : Int) := by rw [wrap_in (by omega) (by omega)]; rfl
  rw [hw26]
  exact ⟨_, Nat.lt_succ_self _, _, k4 + 1, rest5, rfl, (EqL.cons rfl (EqL.cons rfl (EqL.cons rfl (EqL.nil)))).eq, hd10, (.sel (.rd (.t (.t (.t (.t .h)))) rfl (.rd (.t (.t (.t (.t (.t .h))))) rfl .nil))), hF⟩

/-! laws.eqAccess -/
def l_eqAccess (a_a : Access) (a_b : Access) : Option (Bool) :=
  if ((a_a.Method : Int) != a_b.Method) then (
    some false)
  else (
    (l_eqIntS a_a.Values a_b.Values).bind fun r3 =>
    if (!r3) then (
      some false)
    else (
      some true))
theorem l_eqAccess_ok (a_a : Access) (v0_1 : Sv) (a_b : Access) (v1_1 : Sv) (R : Bool) (hF : l_eqAccess a_a a_b = some R) :
    Fw.Spec Try.prog 33 [(.agg [(.int .i64 a_a.Method), v0_1.v].toArray), (.agg [(.int .i64 a_b.Method), v1_1.v].toArray)] [crd (RdS 3 rdInt) v0_1.v a_a.Values, crd (RdS 3 rdInt) v1_1.v a_b.Values] (fun _ : Unit => (.bool R)) (fun _ => []) := by
  refine Spec_enter (n := 16) Try.func33 rfl rfl (rs := [.tmp 4]) rfl rfl rfl ?_
  intro H0 F0
  unfold l_eqAccess at hF
  refine K_region (C_newR rfl (N_box (g := false) (v := (.agg [(.int .i64 a_a.Method), v0_1.v].toArray)) ty53.sz (.tmp rfl rfl) rfl) (fun k1 => ?_))
  refine C_newR rfl (N_box (g := false) (v := (.agg [(.int .i64 a_b.Method), v1_1.v].toArray)) ty53.sz (.tmp rfl rfl) rfl) (fun k2 => ?_)
  refine C_val (V_assign (v := (.bool false)) (.bool _)) ?_
  refine C_nil (K_in (K_region (C_val (V_fieldAddr (off := 0) fd53_0 (.tmp rfl rfl)) ?_)))
  refine C_at (.t .h) (fun hp => V_load (v := (.int .i64 a_a.Method)) ag3 (.tmp rfl rfl) hp.2 rfl rfl) ?_
  refine C_val (V_fieldAddr (off := 0) fd53_0 (.tmp rfl rfl)) ?_
  refine C_at .h (fun hp => V_load (v := (.int .i64 a_b.Method)) ag3 (.tmp rfl rfl) hp.2 rfl rfl) ?_
  refine C_val (V_neq (i := a_a.Method) (j := a_b.Method) (.tmp rfl rfl) (.tmp rfl rfl)) ?_
  refine C_nil (CW_cond (b := ((a_a.Method : Int) != a_b.Method)) (.tmp rfl rfl) (fun hb7 => ?_) (fun hb7 => ?_))
  · rw [if_pos hb7] at hF
    refine K_region (C_val (V_assign (v := (.bool false)) (.bool _)) ?_)
    refine C_nil (CW_ret ?_)
    obtain rfl := Option.some.inj hF
    exact End_ret () (.tmp rfl rfl .nil) rfl (.sel .nil)
  rw [if_neg (by rw [hb7]; exact Bool.false_ne_true)] at hF
  refine CW_skip (K_in (K_region (C_val (V_fieldAddr (off := 1) fd53_1 (.tmp rfl rfl)) ?_)))
  refine C_at (.t .h) (fun hp => V_load (v := v0_1.v) ag26 (.tmp rfl rfl) hp.2 rfl rfl) ?_
  refine C_val (V_fieldAddr (off := 1) fd53_1 (.tmp rfl rfl)) ?_
  refine C_at .h (fun hp => V_load (v := v1_1.v) ag26 (.tmp rfl rfl) hp.2 rfl rfl) ?_
  obtain ⟨r3, hx4, hF⟩ := bind_some hF
  refine C_x0 (.rd (.t (.t .h)) rfl (.rd (.t (.t (.t .h))) rfl .nil)) (X_callS cf11 (.cons (.tmp rfl rfl) (.cons (.tmp rfl rfl) .nil)) (l_eqIntS_ok a_a.Values v0_1 a_b.Values v1_1 _ hx4)) (fun _ => ?_)
  refine C_val (V_not (b := r3) (.tmp rfl rfl)) ?_
  refine C_nil (CW_cond (b := (!r3)) (.tmp rfl rfl) (fun hb6 => ?_) (fun hb6 => ?_))
  · rw [if_pos hb6] at hF
    refine K_region (C_val (V_assign (v := (.bool false)) (.bool _)) ?_)
    refine C_nil (CW_ret ?_)
    obtain rfl := Option.some.inj hF
    exact End_ret () (.tmp rfl rfl .nil) rfl (.sel .nil)
  rw [if_neg (by rw [hb6]; exact Bool.false_ne_true)] at hF
  refine CW_skip (K_region (C_val (V_assign (v := (.bool true)) (.bool _)) ?_))
  refine C_nil (CW_ret ?_)
  obtain rfl := Option.some.inj hF
  exact End_ret () (.tmp rfl rfl .nil) rfl (.sel .nil)

/-! laws.eqAccessS -/
def l_eqAccessS_L1 (a_b : List Access) : List Access → Nat → Option (Bool)
  | [], k4 => some true
  | x6 :: rest5, k4 => (ix a_b (k4 : Int)).bind fun x16 =>
    (l_eqAccess x6 x16).bind fun r23 =>
    if (!r23) then (
      some false)
    else (
      l_eqAccessS_L1 a_b rest5 (k4 + 1))
def l_eqAccessS (a_a : List Access) (a_b : List Access) : Option (Bool) :=
  if (((a_a.length : Int) : Int) != (a_b.length : Int)) then (
    some false)
  else (
    l_eqAccessS_L1 a_b a_a 0)
theorem l_eqAccessS_ok (a_a : List Access) (v0_0 : Sv) (a_b : List Access) (v1_0 : Sv) (R : Bool) (hF : l_eqAccessS a_a a_b = some R) :
    Fw.Spec Try.prog 13 [v0_0.v, v1_0.v] [crd (RdS 53 rd53) v0_0.v a_a, crd (RdS 53 rd53) v1_0.v a_b] (fun _ : Unit => (.bool R)) (fun _ => []) := by
  refine Spec_enter (n := 27) Try.func13 rfl rfl (rs := [.tmp 4]) rfl rfl rfl ?_
  intro H0 F0
  unfold l_eqAccessS at hF
  refine K_region (C_val (V_assign (v := (.bool false)) (.bool _)) ?_)
  refine C_nil (K_in (K_region (Cm v0_0.v rfl rfl ?_)))
  refine C_at .h (fun hp => V_lenR (l := a_a.length) sl30 (.tmp rfl rfl) (crd_len hp)) ?_
  refine Cm v1_0.v rfl rfl ?_
  refine C_at (.t .h) (fun hp => V_lenR (l := a_b.length) sl30 (.tmp rfl rfl) (crd_len hp)) ?_
  refine C_val (V_neq (i := (a_a.length : Int)) (j := (a_b.length : Int)) (.tmp rfl rfl) (.tmp rfl rfl)) ?_
  refine C_nil (CW_cond (b := (((a_a.length : Int) : Int) != (a_b.length : Int))) (.tmp rfl rfl) (fun hb28 => ?_) (fun hb28 => ?_))
  · rw [if_pos hb28] at hF
    refine K_region (C_val (V_assign (v := (.bool false)) (.bool _)) ?_)
    refine C_nil (CW_ret ?_)
    obtain rfl := Option.some.inj hF
    exact End_ret () (.tmp rfl rfl .nil) rfl (.sel .nil)
  rw [if_neg (by rw [hb28]; exact Bool.false_ne_true)] at hF
  refine CW_skip (K_in (K_region (C_val (V_assign (v := (.int .i64 0)) (.int _ _)) ?_)))
  refine C_nil (CW_block (CW_loop (m := a_a.length) (fun m2 f' cs' => ∃ (g : Fr) (k4 : Nat) (rest5 : List Access), m2 = rest5.length ∧ f' = updL g [(0, v0_0.v), (1, v1_0.v), (5, (.int .i64 (k4 : Int)))] ∧ List.drop k4 a_a = rest5 ∧ Ent cs' [crd (RdS 53 rd53) v0_0.v a_a, crd (RdS 53 rd53) v1_0.v a_b] ∧ l_eqAccessS_L1 a_b rest5 k4 = some R) ⟨_, 0, _, rfl, (EqL.cons rfl (EqL.cons rfl (EqL.cons rfl (EqL.nil)))).eq, rfl, (.sel (.rd .h rfl (.rd (.t .h) rfl .nil))), hF⟩ ?_))
  clear hF
  rintro m2 _ _ ⟨g3, k4, rest5, rfl, rfl, hd7, hE, hF⟩
  refine K_ent hE ?_
  clear hE
  refine K_pure (c := crd (RdS 53 rd53) v0_0.v a_a) .h crd_bound (fun hbd12 => ?_)
  rcases rest5 with _ | ⟨x6, rest5⟩
  · have hk8 := List.drop_eq_nil_iff.1 hd7
    have hfe11 : (decide (((k4 : Int) : Int) < (a_a.length : Int))) = false := decide_eq_false (by omega)
    rw [l_eqAccessS_L1] at hF
    refine K_in (K_region (Cm (.int .i64 (k4 : Int)) rfl rfl ?_))
    refine Cm v0_0.v rfl rfl ?_
    refine C_at .h (fun hp => V_lenR (l := a_a.length) sl30 (.tmp rfl rfl) (crd_len hp)) ?_
    refine C_val (V_lss (i := (k4 : Int)) (j := (a_a.length : Int)) (.tmp rfl rfl) (.tmp rfl rfl)) ?_
    refine C_nil (CW_cond (b := (decide (((k4 : Int) : Int) < (a_a.length : Int)))) (.tmp rfl rfl) (fun hb => absurd (hfe11.symm.trans hb) (by decide)) (fun _ => ?_))
    refine CW_exit ?_
    iterate 2 refine CThen_exit ?_
    refine CIn_self (K_region (C_val (V_assign (v := (.bool true)) (.bool _)) ?_))
    refine C_nil (CW_ret ?_)
    obtain rfl := Option.some.inj hF
    exact End_ret () (.tmp rfl rfl .nil) rfl (.sel .nil)
  obtain ⟨hk8, hx9, hd10⟩ := drop_cons hd7
  have hfe11 : (decide (((k4 : Int) : Int) < (a_a.length : Int))) = true := decide_eq_true (by omega)
  rw [l_eqAccessS_L1] at hF
  refine K_in (K_region (Cm (.int .i64 (k4 : Int)) rfl rfl ?_))
  refine Cm v0_0.v rfl rfl ?_
  refine C_at .h (fun hp => V_lenR (l := a_a.length) sl30 (.tmp rfl rfl) (crd_len hp)) ?_
  refine C_val (V_lss (i := (k4 : Int)) (j := (a_a.length : Int)) (.tmp rfl rfl) (.tmp rfl rfl)) ?_
  refine C_nil (CW_cond (b := (decide (((k4 : Int) : Int) < (a_a.length : Int)))) (.tmp rfl rfl) (fun _ => ?_) (fun hb => absurd (hfe11.symm.trans hb) (by decide)))
  refine CW_skip (K_block (K_draw [0, 1, 2, 3, 4, 5, 6, 7, 8, 9] [0, 0, 3, 7, 0, 0, 48, 112, 255, 511] [8] mixed (by decide +kernel) ?_))
  refine Dm v0_0.v rfl rfl rfl rfl ?_
  refine Dm (.int .i64 (k4 : Int)) rfl rfl rfl rfl ?_
  refine D_idx (a := x6) sl30 ty53.sz rfl .no (.tmp rfl rfl) (.tmp rfl rfl) rfl rfl .h (Int.natCast_nonneg k4) hx9 (fun k13 j14 => ?_)
  refine D_ldA1 (ul53_0_53 x6) ag53 ty53.sz rfl rfl .no (.tmp rfl rfl) rfl .h la53_0_53 (fun p15 => ?_)
  refine Dm v1_0.v rfl rfl rfl rfl ?_
  refine Dm (.int .i64 (k4 : Int)) rfl rfl rfl rfl ?_
  obtain ⟨x16, hx17, hF⟩ := bind_some hF
  obtain ⟨hp18, hx19⟩ := ix_some hx17
  refine D_idx (a := x16) sl30 ty53.sz rfl .no (.tmp rfl rfl) (.tmp rfl rfl) rfl rfl (.t (.t (.t .h))) hp18 hx19 (fun k20 j21 => ?_)
  refine D_ldA1 (ul53_0_53 x16) ag53 ty53.sz rfl rfl .no (.tmp rfl rfl) rfl .h la53_0_53 (fun p22 => ?_)
  obtain ⟨r23, hx24, hF⟩ := bind_some hF
  refine D_act0 rfl rfl .no (.rd (.t (.t .h)) rfl (.rd .h rfl .nil)) .nil (fun ha => X_callS cf33 (.cons (EN ha (.tmp rfl rfl) rfl) (.cons (EN ha (.tmp rfl rfl) rfl) .nil)) (l_eqAccess_ok x6 p15 x16 p22 _ hx24)) (fun _ => ?_)
  refine D_val rfl .no (fun ha => V_not (b := r23) (EN ha (.tmp rfl rfl) rfl)) ?_
  refine D_nil (CW_cond (b := (!r23)) (.tmp rfl rfl) (fun hb27 => ?_) (fun hb27 => ?_))
  · rw [if_pos hb27] at hF
    refine K_region (C_val (V_assign (v := (.bool false)) (.bool _)) ?_)
    refine C_nil (CW_ret ?_)
    obtain rfl := Option.some.inj hF
    exact End_ret () (.tmp rfl rfl .nil) rfl (.sel .nil)
  rw [if_neg (by rw [hb27]; exact Bool.false_ne_true)] at hF
  refine CW_skip (CW_region (Cm (.int .i64 (k4 : Int)) rfl rfl ?_))
  refine C_val (V_add (i := (k4 : Int)) (j := 1) (.tmp rfl rfl) (.int _ _)) ?_
  refine Ca (.int .i64 (IntKind.i64.wrap ((k4 : Int) + 1))) rfl rfl ?_
  refine C_nil ?_
  have hw26 : IntKind.i64.wrap ((k4 : Int) + 1) = ((k4 + 1 : Nat) : Int) := by rw [wrap_in (by omega) (by omega)]; rfl
  rw [hw26]
  exact ⟨_, Nat.lt_succ_self _, _, k4 + 1, rest5, rfl, (EqL.cons rfl (EqL.cons rfl (EqL.cons rfl (EqL.nil)))).eq, hd10, (.sel (.rd (.t (.t (.t (.t .h)))) rfl (.rd (.t (.t (.t (.t (.t .h))))) rfl .nil))), hF⟩

/-! laws.markIntS -/
def l_markIntS_L1 : Nat → (List Int) → Int → Int → Option (Int × (List Int))
  | 0, _, _, _ => none
  | m23 + 1, c19, c21, c22 => if (decide ((c22 : Int) < (c19.length : Int))) then (
      (chk (decide (0 ≤ c22) && decide (c22 < (c19.length : Int)))).bind fun u34 =>
      (some (c19.set (c22).toNat c21)).bind fun z36 =>
      l_markIntS_L1 m23 z36 (IntKind.i64.wrap (c21 + 1)) (IntKind.i64.wrap (c22 + 1)))
    else (
      some (c21, c19))
def l_markIntS (a_a : List Int) (a_k : Int) : Option (Int × (List Int)) :=
  l_markIntS_L1 (((a_a.length : Int) - 0).toNat + 2) a_a a_k 0
theorem l_markIntS_ok (a_a : List Int) (v0_0 : Sv) (F0_0 : List Nat) (a_k : Int) (R : Int × (List Int)) (hF : l_markIntS a_a a_k = some R) :
    Fw.Spec Try.prog 16 [v0_0.v, (.int .i64 a_k)] [cown (OwnS 3 (roE rdInt)) F0_0 v0_0.v a_a] (fun _ : List Nat => (.int .i64 R.1)) (fun p => [cown (OwnS 3 (roE rdInt)) p v0_0.v R.2]) := by
  refine Spec_enter (n := 19) Try.func16 rfl rfl (rs := [.tmp 4]) rfl rfl rfl ?_
  intro H0 F0
  unfold l_markIntS at hF
  refine K_region (C_val (V_assign (v := (.int .i64 0)) (.int _ _)) ?_)
  refine C_nil (K_in (K_region (C_val (V_assign (v := (.int .i64 0)) (.int _ _)) ?_)))
  refine C_nil (CW_block (CW_loop (m := (((a_a.length : Int) - 0).toNat + 2)) (fun m23 f' cs' => ∃ (g : Fr) (c19 : List Int) (c21 : Int) (c22 : Int) (F20 : List Nat), f' = updL g [(0, v0_0.v), (1, (.int .i64 c21)), (5, (.int .i64 c22))] ∧ Ent cs' [cown (OwnS 3 (roE rdInt)) F20 v0_0.v c19] ∧ l_markIntS_L1 m23 c19 c21 c22 = some R) ⟨_, _, _, _, F0_0, (EqL.cons rfl (EqL.cons rfl (EqL.cons rfl (EqL.nil)))).eq, (.sel (.cons .h .nil)), hF⟩ ?_))
  clear hF
  rintro m23 _ _ ⟨g24, c19, c21, c22, F20, rfl, hE, hF⟩
  refine K_ent hE ?_
  clear hE
  rcases m23 with _ | m23
  · rw [l_markIntS_L1] at hF
    exact absurd hF (by simp)
  rw [l_markIntS_L1] at hF
  refine K_in (K_region (Cm (.int .i64 c22) rfl rfl ?_))
  refine Cm v0_0.v rfl rfl ?_
  refine C_at .h (fun hp => V_lenR (l := c19.length) sl26 (.tmp rfl rfl) (cown_len hp)) ?_
  refine C_val (V_lss (i := c22) (j := (c19.length : Int)) (.tmp rfl rfl) (.tmp rfl rfl)) ?_
  refine C_nil (CW_cond (b := (decide ((c22 : Int) < (c19.length : Int)))) (.tmp rfl rfl) (fun hb39 => ?_) (fun hb39 => ?_))
  · rw [if_pos hb39] at hF
    refine CW_skip (K_block (K_region (Cm v0_0.v rfl rfl ?_)))
    refine Cm (.int .i64 c22) rfl rfl ?_
    refine Cm (.int .i64 c21) rfl rfl ?_
    obtain ⟨u34, hx35, hF⟩ := bind_some hF
    have hi33 := chk_some hx35
    refine C_idxO sl26 ty3.sz (.tmp rfl rfl) (.tmp rfl rfl) .h hi33 (fun k31 hk32 => ?_)
    obtain ⟨z36, hx37, hF⟩ := bind_some hF
    replace hx37 := Option.some.inj hx37
    refine C_x1 (.cons .h .nil) (X_storeO (Ro := (roE rdInt)) (a := c21) (i := c22) ty3.sz rfl (.tmp rfl rfl) (.tmp rfl rfl) hk32 hi33 (Mk_pure (fun _ => rfl)) (fun _ _ _ _ h => by obtain ⟨-, h⟩ := h; cases h; rfl)) (fun F38 => ?_)
    rw [hx37]
    refine C_nil (CW_region (Cm (.int .i64 c21) rfl rfl ?_))
    refine C_val (V_add (i := c21) (j := 1) (.tmp rfl rfl) (.int _ _)) ?_
    refine Ca (.int .i64 (IntKind.i64.wrap (c21 + 1))) rfl rfl ?_
    refine C_nil (CW_region (Cm (.int .i64 c22) rfl rfl ?_))
    refine C_val (V_add (i := c22) (j := 1) (.tmp rfl rfl) (.int _ _)) ?_
    refine Ca (.int .i64 (IntKind.i64.wrap (c22 + 1))) rfl rfl ?_
    refine C_nil ?_
    exact ⟨m23, Nat.lt_succ_self _, _, _, _, _, F38, (EqL.cons rfl (EqL.cons rfl (EqL.cons rfl (EqL.nil)))).eq, (.sel (.cons .h .nil)), hF⟩
  rw [if_neg (by rw [hb39]; exact Bool.false_ne_true)] at hF
  refine CW_exit ?_
  iterate 2 refine CThen_exit ?_
  refine CIn_self (K_region (Cm (.int .i64 c21) rfl rfl ?_))
  refine Ca (.int .i64 c21) rfl rfl ?_
  refine C_nil (CW_ret ?_)
  obtain rfl := Option.some.inj hF
  exact End_ret F20 (.tmp rfl rfl .nil) rfl (.sel (.cons .h .nil))

/-! laws.markMethodS -/
def l_markMethodS_L1 : Nat → (List Method) → Int → Int → Option (Int × (List Method))
  | 0, _, _, _ => none
  | m64 + 1, c60, c62, c63 => if (decide ((c63 : Int) < (c60.length : Int))) then (
      (ix c60 c63).bind fun x75 =>
      (some (c60.set (c63).toNat { x75 with Rel := c62 })).bind fun z79 =>
      (ix z79 c63).bind fun x84 =>
      (l_markIntS x84.Inputs (IntKind.i64.wrap (c62 + 1))).bind fun r89 =>
      (some (z79.set (c63).toNat { x84 with Inputs := r89.2 })).bind fun z92 =>
      (ix z92 c63).bind fun x97 =>
      (some (z92.set (c63).toNat { x97 with Limit := r89.1 })).bind fun z101 =>
      (ix z101 c63).bind fun x106 =>
      (some (z101.set (c63).toNat { x106 with Cost := (IntKind.i64.wrap (r89.1 + 1)) })).bind fun z110 =>
      (ix z110 c63).bind fun x115 =>
      (some (z110.set (c63).toNat { x115 with Quota := (IntKind.i64.wrap ((IntKind.i64.wrap (r89.1 + 1)) + 1)) })).bind fun z119 =>
      l_markMethodS_L1 m64 z119 (IntKind.i64.wrap ((IntKind.i64.wrap ((IntKind.i64.wrap (r89.1 + 1)) + 1)) + 1)) (IntKind.i64.wrap (c63 + 1)))
    else (
      some (c62, c60))
def l_markMethodS (a_a : List Method) (a_k : Int) : Option (Int × (List Method)) :=
  l_markMethodS_L1 (((a_a.length : Int) - 0).toNat + 2) a_a a_k 0
theorem l_markMethodS_ok (a_a : List Method) (v0_0 : Sv) (F0_0 : List Nat) (a_k : Int) (R : Int × (List Method)) (hF : l_markMethodS a_a a_k = some R) :
    Fw.Spec Try.prog 14 [v0_0.v, (.int .i64 a_k)] [cown (OwnS 55 ow55) F0_0 v0_0.v a_a] (fun _ : List Nat => (.int .i64 R.1)) (fun p => [cown (OwnS 55 ow55) p v0_0.v R.2]) := by
  refine Spec_enter (n := 48) Try.func14 rfl rfl (rs := [.tmp 4]) rfl rfl rfl ?_
  intro H0 F0
  unfold l_markMethodS at hF
  refine K_region (C_val (V_assign (v := (.int .i64 0)) (.int _ _)) ?_)
  refine C_nil (K_in (K_region (C_val (V_assign (v := (.int .i64 0)) (.int _ _)) ?_)))
  refine C_nil (CW_block (CW_loop (m := (((a_a.length : Int) - 0).toNat + 2)) (fun m64 f' cs' => ∃ (g : Fr) (c60 : List Method) (c62 : Int) (c63 : Int) (F61 : List Nat), f' = updL g [(0, v0_0.v), (1, (.int .i64 c62)), (5, (.int .i64 c63))] ∧ Ent cs' [cown (OwnS 55 ow55) F61 v0_0.v c60] ∧ l_markMethodS_L1 m64 c60 c62 c63 = some R) ⟨_, _, _, _, F0_0, (EqL.cons rfl (EqL.cons rfl (EqL.cons rfl (EqL.nil)))).eq, (.sel (.cons .h .nil)), hF⟩ ?_))
  clear hF
  rintro m64 _ _ ⟨g65, c60, c62, c63, F61, rfl, hE, hF⟩
  refine K_ent hE ?_
  clear hE
  rcases m64 with _ | m64
  · rw [l_markMethodS_L1] at hF
    exact absurd hF (by simp)
  rw [l_markMethodS_L1] at hF
  refine K_in (K_region (Cm (.int .i64 c63) rfl rfl ?_))
  refine Cm v0_0.v rfl rfl ?_
  refine C_at .h (fun hp => V_lenR (l := c60.length) sl28 (.tmp rfl rfl) (cown_len hp)) ?_
  refine C_val (V_lss (i := c63) (j := (c60.length : Int)) (.tmp rfl rfl) (.tmp rfl rfl)) ?_
  refine C_nil (CW_cond (b := (decide ((c63 : Int) < (c60.length : Int)))) (.tmp rfl rfl) (fun hb121 => ?_) (fun hb121 => ?_))
  · rw [if_pos hb121] at hF
    refine CW_skip (K_block (K_region (Cm v0_0.v rfl rfl ?_)))
    refine Cm (.int .i64 c63) rfl rfl ?_
    refine Cm (.int .i64 c62) rfl rfl ?_
    obtain ⟨x75, hx76, hF⟩ := bind_some hF
    have hi74 := ix_chk hx76
    obtain ⟨hp77, hx78⟩ := ix_some hx76
    refine C_idxO sl28 ty55.sz (.tmp rfl rfl) (.tmp rfl rfl) .h hi74 (fun k72 hk73 => ?_)
    refine C_val (V_fieldAddr (off := 0) fd55_0 (.tmp rfl rfl)) ?_
    obtain ⟨z79, hx80, hF⟩ := bind_some hF
    replace hx80 := Option.some.inj hx80
    refine C_x1 (.cons .h .nil) (X_storeF (Ro := ow55) (i := c63) ty3.sz rfl (.tmp rfl rfl) (.tmp rfl rfl) hk73 hx78 rfl rfl fsf55_0 (sf55_0 (d := c62))) (fun _ => ?_)
    rw [hx80]
    refine C_nil (K_region (Cm (.int .i64 c62) rfl rfl ?_))
    refine C_val (V_add (i := c62) (j := 1) (.tmp rfl rfl) (.int _ _)) ?_
    refine Ca (.int .i64 (IntKind.i64.wrap (c62 + 1))) rfl rfl ?_
    refine C_nil (K_region (Cm v0_0.v rfl rfl ?_))
    refine Cm (.int .i64 c63) rfl rfl ?_
    obtain ⟨x84, hx85, hF⟩ := bind_some hF
    have hi83 := ix_chk hx85
    obtain ⟨hp86, hx87⟩ := ix_some hx85
    refine C_idxO sl28 ty55.sz (.tmp rfl rfl) (.tmp rfl rfl) .h hi83 (fun k81 hk82 => ?_)
    refine C_val (V_fieldAddr (off := 1) fd55_1 (.tmp rfl rfl)) ?_
    refine C_ldOV ag26 (.tmp rfl rfl) .h hk82 hx87 pt55_1 (fun w88 => ?_)
    refine Cm (.int .i64 (IntKind.i64.wrap (c62 + 1))) rfl rfl ?_
    obtain ⟨r89, hx90, hF⟩ := bind_some hF
    obtain ⟨z92, hx93, hF⟩ := bind_some hF
    replace hx93 := Option.some.inj hx93
    refine C_x1 (.cons .h .nil) (X_part hx87 pt55_1 (fun Fw => X_callS cf16 (.cons (.tmp rfl rfl) (.cons (.tmp rfl rfl) .nil)) (l_markIntS_ok x84.Inputs w88 Fw (IntKind.i64.wrap (c62 + 1)) _ hx90)) rfl) (fun p91 => ?_)
    rw [hx93]
    refine Ca (.int .i64 r89.1) rfl rfl ?_
    refine C_nil (K_region (Cm v0_0.v rfl rfl ?_))
    refine Cm (.int .i64 c63) rfl rfl ?_
    refine Cm (.int .i64 r89.1) rfl rfl ?_
    obtain ⟨x97, hx98, hF⟩ := bind_some hF
    have hi96 := ix_chk hx98
    obtain ⟨hp99, hx100⟩ := ix_some hx98
    refine C_idxO sl28 ty55.sz (.tmp rfl rfl) (.tmp rfl rfl) .h hi96 (fun k94 hk95 => ?_)
    refine C_val (V_fieldAddr (off := 2) fd55_2 (.tmp rfl rfl)) ?_
    obtain ⟨z101, hx102, hF⟩ := bind_some hF
    replace hx102 := Option.some.inj hx102
    refine C_x1 (.cons .h .nil) (X_storeF (Ro := ow55) (i := c63) ty3.sz rfl (.tmp rfl rfl) (.tmp rfl rfl) hk95 hx100 rfl rfl fsf55_2 (sf55_2 (d := r89.1))) (fun _ => ?_)
    rw [hx102]
    refine C_nil (K_region (Cm (.int .i64 r89.1) rfl rfl ?_))
    refine C_val (V_add (i := r89.1) (j := 1) (.tmp rfl rfl) (.int _ _)) ?_
    refine Ca (.int .i64 (IntKind.i64.wrap (r89.1 + 1))) rfl rfl ?_
    refine C_nil (K_region (Cm v0_0.v rfl rfl ?_))
    refine Cm (.int .i64 c63) rfl rfl ?_
    refine Cm (.int .i64 (IntKind.i64.wrap (r89.1 + 1))) rfl rfl ?_
    obtain ⟨x106, hx107, hF⟩ := bind_some hF
    have hi105 := ix_chk hx107
    obtain ⟨hp108, hx109⟩ := ix_some hx107
    refine C_idxO sl28 ty55.sz (.tmp rfl rfl) (.tmp rfl rfl) .h hi105 (fun k103 hk104 => ?_)
    refine C_val (V_fieldAddr (off := 3) fd55_3 (.tmp rfl rfl)) ?_
    obtain ⟨z110, hx111, hF⟩ := bind_some hF
    replace hx111 := Option.some.inj hx111
    refine C_x1 (.cons .h .nil) (X_storeF (Ro := ow55) (i := c63) ty3.sz rfl (.tmp rfl rfl) (.tmp rfl rfl) hk104 hx109 rfl rfl fsf55_3 (sf55_3 (d := (IntKind.i64.wrap (r89.1 + 1))))) (fun _ => ?_)
    rw [hx111]
    refine C_nil (K_region (Cm (.int .i64 (IntKind.i64.wrap (r89.1 + 1))) rfl rfl ?_))
    refine C_val (V_add (i := (IntKind.i64.wrap (r89.1 + 1))) (j := 1) (.tmp rfl rfl) (.int _ _)) ?_
    refine Ca (.int .i64 (IntKind.i64.wrap ((IntKind.i64.wrap (r89.1 + 1)) + 1))) rfl rfl ?_
    refine C_nil (K_region (Cm v0_0.v rfl rfl ?_))
    refine Cm (.int .i64 c63) rfl rfl ?_
    refine Cm (.int .i64 (IntKind.i64.wrap ((IntKind.i64.wrap (r89.1 + 1)) + 1))) rfl rfl ?_
    obtain ⟨x115, hx116, hF⟩ := bind_some hF
    have hi114 := ix_chk hx116
    obtain ⟨hp117, hx118⟩ := ix_some hx116
    refine C_idxO sl28 ty55.sz (.tmp rfl rfl) (.tmp rfl rfl) .h hi114 (fun k112 hk113 => ?_)
    refine C_val (V_fieldAddr (off := 4) fd55_4 (.tmp rfl rfl)) ?_
    obtain ⟨z119, hx120, hF⟩ := bind_some hF
    replace hx120 := Option.some.inj hx120
    refine C_x1 (.cons .h .nil) (X_storeF (Ro := ow55) (i := c63) ty3.sz rfl (.tmp rfl rfl) (.tmp rfl rfl) hk113 hx118 rfl rfl fsf55_4 (sf55_4 (d := (IntKind.i64.wrap ((IntKind.i64.wrap (r89.1 + 1)) + 1))))) (fun _ => ?_)
    rw [hx120]
    refine C_nil (CW_region (Cm (.int .i64 (IntKind.i64.wrap ((IntKind.i64.wrap (r89.1 + 1)) + 1))) rfl rfl ?_))
    refine C_val (V_add (i := (IntKind.i64.wrap ((IntKind.i64.wrap (r89.1 + 1)) + 1))) (j := 1) (.tmp rfl rfl) (.int _ _)) ?_
    refine Ca (.int .i64 (IntKind.i64.wrap ((IntKind.i64.wrap ((IntKind.i64.wrap (r89.1 + 1)) + 1)) + 1))) rfl rfl ?_
    refine C_nil (CW_region (Cm (.int .i64 c63) rfl rfl ?_))
    refine C_val (V_add (i := c63) (j := 1) (.tmp rfl rfl) (.int _ _)) ?_
    refine Ca (.int .i64 (IntKind.i64.wrap (c63 + 1))) rfl rfl ?_
    refine C_nil ?_
    exact ⟨m64, Nat.lt_succ_self _, _, _, _, _, p91.2, (EqL.cons rfl (EqL.cons rfl (EqL.cons rfl (EqL.nil)))).eq, (.sel (.cons .h .nil)), hF⟩
  rw [if_neg (by rw [hb121]; exact Bool.false_ne_true)] at hF
  refine CW_exit ?_
  iterate 2 refine CThen_exit ?_
  refine CIn_self (K_region (Cm (.int .i64 c62) rfl rfl ?_))
  refine Ca (.int .i64 c62) rfl rfl ?_
  refine C_nil (CW_ret ?_)
  obtain rfl := Option.some.inj hF
  exact End_ret F61 (.tmp rfl rfl .nil) rfl (.sel (.cons .h .nil))

/-! laws.markAccessS -/
def l_markAccessS_L1 : Nat → (List Access) → Int → Int → Option (Int × (List Access))
  | 0, _, _, _ => none
  | m37 + 1, c33, c35, c36 => if (decide ((c36 : Int) < (c33.length : Int))) then (
      (ix c33 c36).bind fun x48 =>
      (some (c33.set (c36).toNat { x48 with Method := c35 })).bind fun z52 =>
      (ix z52 c36).bind fun x57 =>
      (l_markIntS x57.Values (IntKind.i64.wrap (c35 + 1))).bind fun r62 =>
      (some (z52.set (c36).toNat { x57 with Values := r62.2 })).bind fun z65 =>
      l_markAccessS_L1 m37 z65 r62.1 (IntKind.i64.wrap (c36 + 1)))
    else (
      some (c35, c33))
def l_markAccessS (a_a : List Access) (a_k : Int) : Option (Int × (List Access)) :=
  l_markAccessS_L1 (((a_a.length : Int) - 0).toNat + 2) a_a a_k 0
theorem l_markAccessS_ok (a_a : List Access) (v0_0 : Sv) (F0_0 : List Nat) (a_k : Int) (R : Int × (List Access)) (hF : l_markAccessS a_a a_k = some R) :
    Fw.Spec Try.prog 15 [v0_0.v, (.int .i64 a_k)] [cown (OwnS 53 ow53) F0_0 v0_0.v a_a] (fun _ : List Nat => (.int .i64 R.1)) (fun p => [cown (OwnS 53 ow53) p v0_0.v R.2]) := by
  refine Spec_enter (n := 27) Try.func15 rfl rfl (rs := [.tmp 4]) rfl rfl rfl ?_
  intro H0 F0
  unfold l_markAccessS at hF
  refine K_region (C_val (V_assign (v := (.int .i64 0)) (.int _ _)) ?_)
  refine C_nil (K_in (K_region (C_val (V_assign (v := (.int .i64 0)) (.int _ _)) ?_)))
  refine C_nil (CW_block (CW_loop (m := (((a_a.length : Int) - 0).toNat + 2)) (fun m37 f' cs' => ∃ (g : Fr) (c33 : List Access) (c35 : Int) (c36 : Int) (F34 : List Nat), f' = updL g [(0, v0_0.v), (1, (.int .i64 c35)), (5, (.int .i64 c36))] ∧ Ent cs' [cown (OwnS 53 ow53) F34 v0_0.v c33] ∧ l_markAccessS_L1 m37 c33 c35 c36 = some R) ⟨_, _, _, _, F0_0, (EqL.cons rfl (EqL.cons rfl (EqL.cons rfl (EqL.nil)))).eq, (.sel (.cons .h .nil)), hF⟩ ?_))
  clear hF
  rintro m37 _ _ ⟨g38, c33, c35, c36, F34, rfl, hE, hF⟩
  refine K_ent hE ?_
  clear hE
  rcases m37 with _ | m37
  · rw [l_markAccessS_L1] at hF
    exact absurd hF (by simp)
  rw [l_markAccessS_L1] at hF
  refine K_in (K_region (Cm (.int .i64 c36) rfl rfl ?_))
  refine Cm v0_0.v rfl rfl ?_
  refine C_at .h (fun hp => V_lenR (l := c33.length) sl30 (.tmp rfl rfl) (cown_len hp)) ?_
  refine C_val (V_lss (i := c36) (j := (c33.length : Int)) (.tmp rfl rfl) (.tmp rfl rfl)) ?_
  refine C_nil (CW_cond (b := (decide ((c36 : Int) < (c33.length : Int)))) (.tmp rfl rfl) (fun hb67 => ?_) (fun hb67 => ?_))
  · rw [if_pos hb67] at hF
    refine CW_skip (K_block (K_region (Cm v0_0.v rfl rfl ?_)))
    refine Cm (.int .i64 c36) rfl rfl ?_
    refine Cm (.int .i64 c35) rfl rfl ?_
    obtain ⟨x48, hx49, hF⟩ := bind_some hF
    have hi47 := ix_chk hx49
    obtain ⟨hp50, hx51⟩ := ix_some hx49
    refine C_idxO sl30 ty53.sz (.tmp rfl rfl) (.tmp rfl rfl) .h hi47 (fun k45 hk46 => ?_)
    refine C_val (V_fieldAddr (off := 0) fd53_0 (.tmp rfl rfl)) ?_
    obtain ⟨z52, hx53, hF⟩ := bind_some hF
    replace hx53 := Option.some.inj hx53
    refine C_x1 (.cons .h .nil) (X_storeF (Ro := ow53) (i := c36) ty3.sz rfl (.tmp rfl rfl) (.tmp rfl rfl) hk46 hx51 rfl rfl fsf53_0 (sf53_0 (d := c35))) (fun _ => ?_)
    rw [hx53]
    refine C_nil (K_region (Cm (.int .i64 c35) rfl rfl ?_))
    refine C_val (V_add (i := c35) (j := 1) (.tmp rfl rfl) (.int _ _)) ?_
    refine Ca (.int .i64 (IntKind.i64.wrap (c35 + 1))) rfl rfl ?_
    refine C_nil (CW_region (Cm v0_0.v rfl rfl ?_))
    refine Cm (.int .i64 c36) rfl rfl ?_
    obtain ⟨x57, hx58, hF⟩ := bind_some hF
    have hi56 := ix_chk hx58
    obtain ⟨hp59, hx60⟩ := ix_some hx58
    refine C_idxO sl30 ty53.sz (.tmp rfl rfl) (.tmp rfl rfl) .h hi56 (fun k54 hk55 => ?_)
    refine C_val (V_fieldAddr (off := 1) fd53_1 (.tmp rfl rfl)) ?_
    refine C_ldOV ag26 (.tmp rfl rfl) .h hk55 hx60 pt53_1 (fun w61 => ?_)
    refine Cm (.int .i64 (IntKind.i64.wrap (c35 + 1))) rfl rfl ?_
    obtain ⟨r62, hx63, hF⟩ := bind_some hF
    obtain ⟨z65, hx66, hF⟩ := bind_some hF
    replace hx66 := Option.some.inj hx66
    refine C_x1 (.cons .h .nil) (X_part hx60 pt53_1 (fun Fw => X_callS cf16 (.cons (.tmp rfl rfl) (.cons (.tmp rfl rfl) .nil)) (l_markIntS_ok x57.Values w61 Fw (IntKind.i64.wrap (c35 + 1)) _ hx63)) rfl) (fun p64 => ?_)
    rw [hx66]
    refine Ca (.int .i64 r62.1) rfl rfl ?_
    refine C_nil (CW_region (Cm (.int .i64 c36) rfl rfl ?_))
    refine C_val (V_add (i := c36) (j := 1) (.tmp rfl rfl) (.int _ _)) ?_
    refine Ca (.int .i64 (IntKind.i64.wrap (c36 + 1))) rfl rfl ?_
    refine C_nil ?_
    exact ⟨m37, Nat.lt_succ_self _, _, _, _, _, p64.2, (EqL.cons rfl (EqL.cons rfl (EqL.cons rfl (EqL.nil)))).eq, (.sel (.cons .h .nil)), hF⟩
  rw [if_neg (by rw [hb67]; exact Bool.false_ne_true)] at hF
  refine CW_exit ?_
  iterate 2 refine CThen_exit ?_
  refine CIn_self (K_region (Cm (.int .i64 c35) rfl rfl ?_))
  refine Ca (.int .i64 c35) rfl rfl ?_
  refine C_nil (CW_ret ?_)
  obtain rfl := Option.some.inj hF
  exact End_ret F34 (.tmp rfl rfl .nil) rfl (.sel (.cons .h .nil))

/-! laws.heldIntS -/
def l_heldIntS_L1 : List Int → Nat → Int → Option (Int)
  | [], k5, c1 => some c1
  | x7 :: rest6, k5, c1 => if ((x7 : Int) != c1) then (
      some (-1))
    else (
      l_heldIntS_L1 rest6 (k5 + 1) (IntKind.i64.wrap (c1 + 1)))
def l_heldIntS (a_a : List Int) (a_k : Int) : Option (Int) :=
  l_heldIntS_L1 a_a 0 a_k
theorem l_heldIntS_ok (a_a : List Int) (v0_0 : Sv) (a_k : Int) (R : Int) (hF : l_heldIntS a_a a_k = some R) :
    Fw.Spec Try.prog 17 [v0_0.v, (.int .i64 a_k)] [crd (RdS 3 rdInt) v0_0.v a_a] (fun _ : Unit => (.int .i64 R)) (fun _ => []) := by
  refine Spec_enter (n := 21) Try.func17 rfl rfl (rs := [.tmp 4]) rfl rfl rfl ?_
  intro H0 F0
  unfold l_heldIntS at hF
  refine K_region (C_val (V_assign (v := (.int .i64 0)) (.int _ _)) ?_)
  refine C_nil (K_in (K_region (C_val (V_assign (v := (.int .i64 0)) (.int _ _)) ?_)))
  refine C_nil (CW_block (CW_loop (m := a_a.length) (fun m3 f' cs' => ∃ (g : Fr) (k5 : Nat) (rest6 : List Int) (c1 : Int), m3 = rest6.length ∧ f' = updL g [(0, v0_0.v), (1, (.int .i64 c1)), (5, (.int .i64 (k5 : Int)))] ∧ List.drop k5 a_a = rest6 ∧ Ent cs' [crd (RdS 3 rdInt) v0_0.v a_a] ∧ l_heldIntS_L1 rest6 k5 c1 = some R) ⟨_, 0, _, _, rfl, (EqL.cons rfl (EqL.cons rfl (EqL.cons rfl (EqL.nil)))).eq, rfl, (.sel (.rd .h rfl .nil)), hF⟩ ?_))
  clear hF
  rintro m3 _ _ ⟨g4, k5, rest6, c1, rfl, rfl, hd8, hE, hF⟩
  refine K_ent hE ?_
  clear hE
  refine K_pure (c := crd (RdS 3 rdInt) v0_0.v a_a) .h crd_bound (fun hbd13 => ?_)
  rcases rest6 with _ | ⟨x7, rest6⟩
  · have hk9 := List.drop_eq_nil_iff.1 hd8
    have hfe12 : (decide (((k5 : Int) : Int) < (a_a.length : Int))) = false := decide_eq_false (by omega)
    rw [l_heldIntS_L1] at hF
    refine K_in (K_region (Cm (.int .i64 (k5 : Int)) rfl rfl ?_))
    refine Cm v0_0.v rfl rfl ?_
    refine C_at .h (fun hp => V_lenR (l := a_a.length) sl26 (.tmp rfl rfl) (crd_len hp)) ?_
    refine C_val (V_lss (i := (k5 : Int)) (j := (a_a.length : Int)) (.tmp rfl rfl) (.tmp rfl rfl)) ?_
    refine C_nil (CW_cond (b := (decide (((k5 : Int) : Int) < (a_a.length : Int)))) (.tmp rfl rfl) (fun hb => absurd (hfe12.symm.trans hb) (by decide)) (fun _ => ?_))
    refine CW_exit ?_
    iterate 2 refine CThen_exit ?_
    refine CIn_self (K_region (Cm (.int .i64 c1) rfl rfl ?_))
    refine Ca (.int .i64 c1) rfl rfl ?_
    refine C_nil (CW_ret ?_)
    obtain rfl := Option.some.inj hF
    exact End_ret () (.tmp rfl rfl .nil) rfl (.sel .nil)
  obtain ⟨hk9, hx10, hd11⟩ := drop_cons hd8
  have hfe12 : (decide (((k5 : Int) : Int) < (a_a.length : Int))) = true := decide_eq_true (by omega)
  rw [l_heldIntS_L1] at hF
  refine K_in (K_region (Cm (.int .i64 (k5 : Int)) rfl rfl ?_))
  refine Cm v0_0.v rfl rfl ?_
  refine C_at .h (fun hp => V_lenR (l := a_a.length) sl26 (.tmp rfl rfl) (crd_len hp)) ?_
  refine C_val (V_lss (i := (k5 : Int)) (j := (a_a.length : Int)) (.tmp rfl rfl) (.tmp rfl rfl)) ?_
  refine C_nil (CW_cond (b := (decide (((k5 : Int) : Int) < (a_a.length : Int)))) (.tmp rfl rfl) (fun _ => ?_) (fun hb => absurd (hfe12.symm.trans hb) (by decide)))
  refine CW_skip (K_block (K_in (K_region (Cm v0_0.v rfl rfl ?_))))
  refine Cm (.int .i64 (k5 : Int)) rfl rfl ?_
  refine C_idx (a := x7) sl26 ty3.sz (.tmp rfl rfl) (.tmp rfl rfl) .h (Int.natCast_nonneg k5) hx10 (fun k14 j15 => ?_)
  refine C_ldS (w := (.int .i64 x7)) ag3 (.tmp rfl rfl) .h ls3_0 ?_
  refine Cm (.int .i64 c1) rfl rfl ?_
  refine C_val (V_neq (i := x7) (j := c1) (.tmp rfl rfl) (.tmp rfl rfl)) ?_
  refine C_nil (CW_cond (b := ((x7 : Int) != c1)) (.tmp rfl rfl) (fun hb17 => ?_) (fun hb17 => ?_))
  · rw [if_pos hb17] at hF
    refine K_region (C_val (V_assign (v := (.int .i64 (-1))) (.int _ _)) ?_)
    refine C_nil (CW_ret ?_)
    obtain rfl := Option.some.inj hF
    exact End_ret () (.tmp rfl rfl .nil) rfl (.sel .nil)
  rw [if_neg (by rw [hb17]; exact Bool.false_ne_true)] at hF
  refine CW_skip (CW_region (Cm (.int .i64 c1) rfl rfl ?_))
  refine C_val (V_add (i := c1) (j := 1) (.tmp rfl rfl) (.int _ _)) ?_
  refine Ca (.int .i64 (IntKind.i64.wrap (c1 + 1))) rfl rfl ?_
  refine C_nil (CW_region (Cm (.int .i64 (k5 : Int)) rfl rfl ?_))
  refine C_val (V_add (i := (k5 : Int)) (j := 1) (.tmp rfl rfl) (.int _ _)) ?_
  refine Ca (.int .i64 (IntKind.i64.wrap ((k5 : Int) + 1))) rfl rfl ?_
  refine C_nil ?_
  have hw16 : IntKind.i64.wrap ((k5 : Int) + 1) = ((k5 + 1 : Nat) : Int) := by rw [wrap_in (by omega) (by omega)]; rfl
  rw [hw16]
  exact ⟨_, Nat.lt_succ_self _, _, k5 + 1, rest6, _, rfl, (EqL.cons rfl (EqL.cons rfl (EqL.cons rfl (EqL.nil)))).eq, hd11, (.sel (.rd (.t .h) rfl .nil)), hF⟩

/-! laws.FnExactSeenValues -/
def l_FnExactSeenValues (a_aL : List Method) (a_aLog : List Access) (a_aRel : Int) : Option (Bool) :=
  (l_szMethodS a_aL 1048576).bind fun r1 =>
  if (decide ((r1 : Int) < 0)) then (
    some true)
  else (
    (l_szAccessS a_aLog r1).bind fun r4 =>
    if (decide ((r4 : Int) < 0)) then (
      some true)
    else (
      (l_toMethodS a_aL).bind fun r7 =>
      (l_toAccessS a_aLog).bind fun r10 =>
      (s_SeenValues r7 r10 a_aRel).bind fun r13 =>
      (l_toMethodS a_aL).bind fun r16 =>
      (l_toAccessS a_aLog).bind fun r19 =>
      (i_SeenValues r16 r19 a_aRel).bind fun r22 =>
      (l_eqIntS r22 r13).bind fun r25 =>
      if (!r25) then (
        some false)
      else (
        (l_toMethodS a_aL).bind fun r28 =>
        (l_eqMethodS r16 r28).bind fun r31 =>
        if (!r31) then (
          some false)
        else (
          (l_toAccessS a_aLog).bind fun r34 =>
          (l_eqAccessS r19 r34).bind fun r37 =>
          if (!r37) then (
            some false)
          else (
            (l_markMethodS r16 1).bind fun r40 =>
            (l_markAccessS r19 r40.1).bind fun r43 =>
            (bif (decide ((r43.1 : Int) < 0)) then (some true)
              else ((l_eqIntS r22 r13).bind fun r49 =>
                some (!r49))).bind fun o46 =>
            match o46 with
            | c52 => if c52 then (
                some false)
              else (
                (l_markIntS r22 1).bind fun r53 =>
                (l_heldIntS r53.2 1).bind fun r56 =>
                if (decide ((r56 : Int) < 0)) then (
                  some false)
                else (
                  if ((r56 : Int) != r53.1) then (
                    some false)
                  else (
                    (l_toMethodS a_aL).bind fun r59 =>
                    (l_toAccessS a_aLog).bind fun r62 =>
                    (i_SeenValues r59 r62 a_aRel).bind fun r65 =>
                    (l_eqIntS r65 r13).bind fun r68 =>
                    if (!r68) then (
                      some false)
                    else (
                      (l_heldIntS r53.2 1).bind fun r71 =>
                      if (decide ((r71 : Int) < 0)) then (
                        some false)
                      else (
                        if ((r71 : Int) != r53.1) then (
                          some false)
                        else (
                          some true)))))))))))
theorem l_FnExactSeenValues_ok (a_aL : List Method) (v0_0 : Sv) (a_aLog : List Access) (v1_0 : Sv) (a_aRel : Int) (R : Bool) (hF : l_FnExactSeenValues a_aL a_aLog a_aRel = some R) :
    Fw.Spec Try.prog 3 [v0_0.v, v1_0.v, (.int .i64 a_aRel)] [crd (RdS 48 rd48) v0_0.v a_aL, crd (RdS 51 rd51) v1_0.v a_aLog] (fun _ : Unit => (.bool R)) (fun _ => []) := by
  refine Spec_enter (n := 97) Try.func3 rfl rfl (rs := [.tmp 6]) rfl rfl rfl ?_
  intro H0 F0
  unfold l_FnExactSeenValues at hF
  refine K_region (C_val (V_assign (v := (.bool false)) (.bool _)) ?_)
  refine C_nil (K_region (C_val (V_assign (v := (.int .i64 1048576)) (.int _ _)) ?_))
  refine C_nil (K_region (Cm v0_0.v rfl rfl ?_))
  refine Cm (.int .i64 1048576) rfl rfl ?_
  obtain ⟨r1, hx2, hF⟩ := bind_some hF
  refine C_x0 (.rd .h rfl .nil) (X_callS cf5 (.cons (.tmp rfl rfl) (.cons (.tmp rfl rfl) .nil)) (l_szMethodS_ok a_aL v0_0 1048576 _ hx2)) (fun _ => ?_)
  refine Ca (.int .i64 r1) rfl rfl ?_
  refine C_nil (K_in (K_region (Cm (.int .i64 r1) rfl rfl ?_)))
  refine C_val (V_lss (i := r1) (j := 0) (.tmp rfl rfl) (.int _ _)) ?_
  refine C_nil (CW_cond (b := (decide ((r1 : Int) < 0))) (.tmp rfl rfl) (fun hb85 => ?_) (fun hb85 => ?_))
  · rw [if_pos hb85] at hF
    refine K_region (C_val (V_assign (v := (.bool true)) (.bool _)) ?_)
    refine C_nil (CW_ret ?_)
    obtain rfl := Option.some.inj hF
    exact End_ret () (.tmp rfl rfl .nil) rfl (.sel .nil)
  rw [if_neg (by rw [hb85]; exact Bool.false_ne_true)] at hF
  refine CW_skip (K_region (Cm v1_0.v rfl rfl ?_))
  refine Cm (.int .i64 r1) rfl rfl ?_
  obtain ⟨r4, hx5, hF⟩ := bind_some hF
  refine C_x0 (.rd (.t .h) rfl .nil) (X_callS cf6 (.cons (.tmp rfl rfl) (.cons (.tmp rfl rfl) .nil)) (l_szAccessS_ok a_aLog v1_0 r1 _ hx5)) (fun _ => ?_)
  refine Ca (.int .i64 r4) rfl rfl ?_
  refine C_nil (K_in (K_region (Cm (.int .i64 r4) rfl rfl ?_)))
  refine C_val (V_lss (i := r4) (j := 0) (.tmp rfl rfl) (.int _ _)) ?_
  refine C_nil (CW_cond (b := (decide ((r4 : Int) < 0))) (.tmp rfl rfl) (fun hb84 => ?_) (fun hb84 => ?_))
  · rw [if_pos hb84] at hF
    refine K_region (C_val (V_assign (v := (.bool true)) (.bool _)) ?_)
    refine C_nil (CW_ret ?_)
    obtain rfl := Option.some.inj hF
    exact End_ret () (.tmp rfl rfl .nil) rfl (.sel .nil)
  rw [if_neg (by rw [hb84]; exact Bool.false_ne_true)] at hF
  refine CW_skip (K_region (Cm v0_0.v rfl rfl ?_))
  obtain ⟨r7, hx8, hF⟩ := bind_some hF
  refine C_x1 (.rd .h rfl .nil) (XC_ent (post' := fun p9 : Sv × List Nat => [crd (RdS 55 rd55) p9.1.v r7]) (fun p9 => (.frz .h frz_own (.sel (.rd .h rfl .nil)))) (X_callS cf8 (.cons (.tmp rfl rfl) .nil) (l_toMethodS_ok a_aL v0_0 _ hx8))) (fun p9 => ?_)
  refine Cm v1_0.v rfl rfl ?_
  obtain ⟨r10, hx11, hF⟩ := bind_some hF
  refine C_x1 (.rd (.t (.t .h)) rfl .nil) (XC_ent (post' := fun p12 : Sv × List Nat => [crd (RdS 53 rd53) p12.1.v r10]) (fun p12 => (.frz .h frz_own (.sel (.rd .h rfl .nil)))) (X_callS cf9 (.cons (.tmp rfl rfl) .nil) (l_toAccessS_ok a_aLog v1_0 _ hx11))) (fun p12 => ?_)
  refine Cm (.int .i64 a_aRel) rfl rfl ?_
  obtain ⟨r13, hx14, hF⟩ := bind_some hF
  refine C_x1 (.rd (.t .h) rfl (.rd .h rfl .nil)) (X_callS cf7 (.cons (.tmp rfl rfl) (.cons (.tmp rfl rfl) (.cons (.tmp rfl rfl) .nil))) (s_SeenValues_ok r7 p9.1 r10 p12.1 a_aRel _ hx14)) (fun p15 => ?_)
  refine Ca p15.v rfl rfl ?_
  refine C_nil (K_region (Cm v0_0.v rfl rfl ?_))
  obtain ⟨r16, hx17, hF⟩ := bind_some hF
  refine C_x1 (.rd (.t (.t (.t .h))) rfl .nil) (X_callS cf8 (.cons (.tmp rfl rfl) .nil) (l_toMethodS_ok a_aL v0_0 _ hx17)) (fun p18 => ?_)
  refine Ca p18.1.v rfl rfl ?_
  refine C_nil (K_region (Cm v1_0.v rfl rfl ?_))
  obtain ⟨r19, hx20, hF⟩ := bind_some hF
  refine C_x1 (.rd (.t (.t (.t (.t (.t .h))))) rfl .nil) (X_callS cf9 (.cons (.tmp rfl rfl) .nil) (l_toAccessS_ok a_aLog v1_0 _ hx20)) (fun p21 => ?_)
  refine Ca p21.1.v rfl rfl ?_
  refine C_nil (K_region (Cm p18.1.v rfl rfl ?_))
  refine Cm p21.1.v rfl rfl ?_
  refine Cm (.int .i64 a_aRel) rfl rfl ?_
  obtain ⟨r22, hx23, hF⟩ := bind_some hF
  refine C_x3 (.cons .h (.cons .h .nil)) (XC_borL (pre := []) (.cons frz_own (.cons frz_own .nil)) (fun _ => (.cons .nil)) (X_callS cf10 (.cons (.tmp rfl rfl) (.cons (.tmp rfl rfl) (.cons (.tmp rfl rfl) .nil))) (i_SeenValues_ok r16 p18.1 r19 p21.1 a_aRel _ hx23))) (fun p24 => ?_)
  refine Ca p24.1.v rfl rfl ?_
  refine C_nil (K_in (K_region (Cm p24.1.v rfl rfl ?_)))
  refine Cm p15.v rfl rfl ?_
  obtain ⟨r25, hx26, hF⟩ := bind_some hF
  refine C_x1 (.cons (.t (.t .h)) (.rd (.t (.t .h)) rfl .nil)) (XC_borL (pre := _) (.cons frz_own .nil) (fun _ => .nil) (X_callS cf11 (.cons (.tmp rfl rfl) (.cons (.tmp rfl rfl) .nil)) (l_eqIntS_ok r22 p24.1 r13 p15 _ hx26))) (fun _ => ?_)
  refine C_val (V_not (b := r25) (.tmp rfl rfl)) ?_
  refine C_nil (CW_cond (b := (!r25)) (.tmp rfl rfl) (fun hb83 => ?_) (fun hb83 => ?_))
  · rw [if_pos hb83] at hF
    refine K_region (C_val (V_assign (v := (.bool false)) (.bool _)) ?_)
    refine C_nil (CW_ret ?_)
    obtain rfl := Option.some.inj hF
    exact End_ret () (.tmp rfl rfl .nil) rfl (.sel .nil)
  rw [if_neg (by rw [hb83]; exact Bool.false_ne_true)] at hF
  refine CW_skip (K_in (K_region (Cm p18.1.v rfl rfl ?_)))
  refine Cm v0_0.v rfl rfl ?_
  obtain ⟨r28, hx29, hF⟩ := bind_some hF
  refine C_x1 (.rd (.t (.t (.t (.t (.t (.t .h)))))) rfl .nil) (X_callS cf8 (.cons (.tmp rfl rfl) .nil) (l_toMethodS_ok a_aL v0_0 _ hx29)) (fun p30 => ?_)
  obtain ⟨r31, hx32, hF⟩ := bind_some hF
  refine C_x2 (.cons .h (.cons (.t (.t .h)) .nil)) (XC_borL (pre := []) (.cons frz_own (.cons frz_own .nil)) (fun _ => .nil) (X_callS cf12 (.cons (.tmp rfl rfl) (.cons (.tmp rfl rfl) .nil)) (l_eqMethodS_ok r16 p18.1 r28 p30.1 _ hx32))) (fun _ => ?_)
  refine C_val (V_not (b := r31) (.tmp rfl rfl)) ?_
  refine C_nil (CW_cond (b := (!r31)) (.tmp rfl rfl) (fun hb82 => ?_) (fun hb82 => ?_))
  · rw [if_pos hb82] at hF
    refine K_region (C_val (V_assign (v := (.bool false)) (.bool _)) ?_)
    refine C_nil (CW_ret ?_)
    obtain rfl := Option.some.inj hF
    exact End_ret () (.tmp rfl rfl .nil) rfl (.sel .nil)
  rw [if_neg (by rw [hb82]; exact Bool.false_ne_true)] at hF
  refine CW_skip (K_in (K_region (Cm p21.1.v rfl rfl ?_)))
  refine Cm v1_0.v rfl rfl ?_
  obtain ⟨r34, hx35, hF⟩ := bind_some hF
  refine C_x1 (.rd (.t (.t (.t (.t (.t (.t (.t (.t .h)))))))) rfl .nil) (X_callS cf9 (.cons (.tmp rfl rfl) .nil) (l_toAccessS_ok a_aLog v1_0 _ hx35)) (fun p36 => ?_)
  obtain ⟨r37, hx38, hF⟩ := bind_some hF
  refine C_x2 (.cons .h (.cons (.t (.t (.t .h))) .nil)) (XC_borL (pre := []) (.cons frz_own (.cons frz_own .nil)) (fun _ => .nil) (X_callS cf13 (.cons (.tmp rfl rfl) (.cons (.tmp rfl rfl) .nil)) (l_eqAccessS_ok r19 p21.1 r34 p36.1 _ hx38))) (fun _ => ?_)
  refine C_val (V_not (b := r37) (.tmp rfl rfl)) ?_
  refine C_nil (CW_cond (b := (!r37)) (.tmp rfl rfl) (fun hb81 => ?_) (fun hb81 => ?_))
  · rw [if_pos hb81] at hF
    refine K_region (C_val (V_assign (v := (.bool false)) (.bool _)) ?_)
    refine C_nil (CW_ret ?_)
    obtain rfl := Option.some.inj hF
    exact End_ret () (.tmp rfl rfl .nil) rfl (.sel .nil)
  rw [if_neg (by rw [hb81]; exact Bool.false_ne_true)] at hF
  refine CW_skip (K_region (C_val (V_assign (v := (.int .i64 1)) (.int _ _)) ?_))
  refine C_nil (K_region (Cm p18.1.v rfl rfl ?_))
  refine Cm (.int .i64 1) rfl rfl ?_
  obtain ⟨r40, hx41, hF⟩ := bind_some hF
  refine C_x1 (.cons (.t (.t (.t .h))) .nil) (X_callS cf14 (.cons (.tmp rfl rfl) (.cons (.tmp rfl rfl) .nil)) (l_markMethodS_ok r16 p18.1 p18.2 1 _ hx41)) (fun p42 => ?_)
  refine Ca (.int .i64 r40.1) rfl rfl ?_
  refine C_nil (K_region (Cm p21.1.v rfl rfl ?_))
  refine Cm (.int .i64 r40.1) rfl rfl ?_
  obtain ⟨r43, hx44, hF⟩ := bind_some hF
  refine C_x1 (.cons (.t (.t .h)) .nil) (X_callS cf15 (.cons (.tmp rfl rfl) (.cons (.tmp rfl rfl) .nil)) (l_markAccessS_ok r19 p21.1 p21.2 r40.1 _ hx44)) (fun p45 => ?_)
  refine Ca (.int .i64 r43.1) rfl rfl ?_
  refine C_nil (K_in ?_)
  obtain ⟨o46, hio46, hO47⟩ := bind_some hF
  refine K_region (C_cut (fun f' cs' => ∃ (c52 : Bool) (g : Fr), c52 = o46 ∧ f' = updL g [(0, v0_0.v), (1, v1_0.v), (2, (.int .i64 a_aRel)), (8, p15.v), (11, p24.1.v), (67, (.bool c52))] ∧ Ent cs' [crd (RdS 48 rd48) v0_0.v a_aL, crd (RdS 51 rd51) v1_0.v a_aLog, crd (RdS 3 rdInt) p15.v r13, cown (OwnS 3 (roE rdInt)) p24.2 p24.1.v r22]) ?_ ?_)
  · replace hF := hio46
    refine Cm (.int .i64 r43.1) rfl rfl ?_
    refine C_val (V_lss (i := r43.1) (j := 0) (.tmp rfl rfl) (.int _ _)) ?_
    refine Cm (.bool (decide ((r43.1 : Int) < 0))) rfl rfl ?_
    rcases Bool.eq_false_or_eq_true (decide ((r43.1 : Int) < 0)) with hg48 | hg48
    · rw [hg48]
      try rw [hg48] at hF; dsimp only [cond_true, cond_false] at hF
      iterate 4 refine C_off (t := 62) rfl rfl rfl ?_
      refine C_val (V_pick (b := true) (u := (.bool true)) (v := undef) (.tmp rfl rfl) (.bool _) (.tmp rfl rfl)) ?_
      refine C_nil ?_
      obtain rfl := Option.some.inj hF
      exact ⟨_, _, rfl, (EqL.cons rfl (EqL.cons rfl (EqL.cons rfl (EqL.cons rfl (EqL.cons rfl (EqL.cons rfl (EqL.nil))))))).eq, (.sel (.rd (.t (.t (.t (.t (.t (.t (.t (.t .h)))))))) rfl (.rd (.t (.t (.t (.t (.t (.t (.t (.t (.t .h))))))))) rfl (.rd (.t (.t (.t (.t (.t .h))))) rfl (.cons (.t (.t (.t (.t .h)))) .nil)))))⟩
    rw [hg48]
    try rw [hg48] at hF; dsimp only [cond_true, cond_false] at hF
    refine C_on (t := 62) rfl rfl rfl ?_
    refine Cm p24.1.v rfl rfl ?_
    refine C_on (t := 62) rfl rfl rfl ?_
    refine Cm p15.v rfl rfl ?_
    refine C_on (t := 62) rfl rfl rfl ?_
    obtain ⟨r49, hx50, hF⟩ := bind_some hF
    refine C_x1 (.cons (.t (.t (.t (.t .h)))) (.rd (.t (.t (.t (.t .h)))) rfl .nil)) (XC_borL (pre := _) (.cons frz_own .nil) (fun _ => .nil) (X_callS cf11 (.cons (.tmp rfl rfl) (.cons (.tmp rfl rfl) .nil)) (l_eqIntS_ok r22 p24.1 r13 p15 _ hx50))) (fun _ => ?_)
    refine C_on (t := 62) rfl rfl rfl ?_
    refine C_val (V_not (b := r49) (.tmp rfl rfl)) ?_
    refine C_val (V_pick (b := false) (u := (.bool true)) (v := (.bool (!r49))) (.tmp rfl rfl) (.bool _) (.tmp rfl rfl)) ?_
    refine C_nil ?_
    obtain rfl := Option.some.inj hF
    exact ⟨_, _, rfl, (EqL.cons rfl (EqL.cons rfl (EqL.cons rfl (EqL.cons rfl (EqL.cons rfl (EqL.cons rfl (EqL.nil))))))).eq, (.sel (.rd (.t (.t (.t (.t (.t (.t (.t (.t .h)))))))) rfl (.rd (.t (.t (.t (.t (.t (.t (.t (.t (.t .h))))))))) rfl (.rd (.t (.t (.t (.t (.t .h))))) rfl (.cons .h .nil)))))⟩
  rintro _ _ ⟨c52, g80, rfl, rfl, hE⟩
  replace hF := hO47
  clear hO47
  try dsimp only at hF
  refine K_ent hE ?_
  refine CW_cond (b := c52) (.tmp rfl rfl) (fun hb79 => ?_) (fun hb79 => ?_)
  · rw [if_pos hb79] at hF
    refine K_region (C_val (V_assign (v := (.bool false)) (.bool _)) ?_)
    refine C_nil (CW_ret ?_)
    obtain rfl := Option.some.inj hF
    exact End_ret () (.tmp rfl rfl .nil) rfl (.sel .nil)
  rw [if_neg (by rw [hb79]; exact Bool.false_ne_true)] at hF
  refine CW_skip (K_region (C_val (V_assign (v := (.int .i64 1)) (.int _ _)) ?_))
  refine C_nil (K_region (Cm p24.1.v rfl rfl ?_))
  refine Cm (.int .i64 1) rfl rfl ?_
  obtain ⟨r53, hx54, hF⟩ := bind_some hF
  refine C_x1 (.cons (.t (.t (.t .h))) .nil) (X_callS cf16 (.cons (.tmp rfl rfl) (.cons (.tmp rfl rfl) .nil)) (l_markIntS_ok r22 p24.1 p24.2 1 _ hx54)) (fun p55 => ?_)
  refine Ca (.int .i64 r53.1) rfl rfl ?_
  refine C_nil (K_region (C_val (V_assign (v := (.int .i64 1)) (.int _ _)) ?_))
  refine C_nil (K_region (Cm p24.1.v rfl rfl ?_))
  refine Cm (.int .i64 1) rfl rfl ?_
  obtain ⟨r56, hx57, hF⟩ := bind_some hF
  refine C_x1 (.cons .h .nil) (XC_borL (pre := []) (.cons frz_own .nil) (fun _ => .nil) (X_callS cf17 (.cons (.tmp rfl rfl) (.cons (.tmp rfl rfl) .nil)) (l_heldIntS_ok r53.2 p24.1 1 _ hx57))) (fun _ => ?_)
  refine Ca (.int .i64 r56) rfl rfl ?_
  refine C_nil (K_in (K_region (Cm (.int .i64 r56) rfl rfl ?_)))
  refine C_val (V_lss (i := r56) (j := 0) (.tmp rfl rfl) (.int _ _)) ?_
  refine C_nil (CW_cond (b := (decide ((r56 : Int) < 0))) (.tmp rfl rfl) (fun hb78 => ?_) (fun hb78 => ?_))
  · rw [if_pos hb78] at hF
    refine K_region (C_val (V_assign (v := (.bool false)) (.bool _)) ?_)
    refine C_nil (CW_ret ?_)
    obtain rfl := Option.some.inj hF
    exact End_ret () (.tmp rfl rfl .nil) rfl (.sel .nil)
  rw [if_neg (by rw [hb78]; exact Bool.false_ne_true)] at hF
  refine CW_skip (K_in (K_region (Cm (.int .i64 r56) rfl rfl ?_)))
  refine Cm (.int .i64 r53.1) rfl rfl ?_
  refine C_val (V_neq (i := r56) (j := r53.1) (.tmp rfl rfl) (.tmp rfl rfl)) ?_
  refine C_nil (CW_cond (b := ((r56 : Int) != r53.1)) (.tmp rfl rfl) (fun hb77 => ?_) (fun hb77 => ?_))
  · rw [if_pos hb77] at hF
    refine K_region (C_val (V_assign (v := (.bool false)) (.bool _)) ?_)
    refine C_nil (CW_ret ?_)
    obtain rfl := Option.some.inj hF
    exact End_ret () (.tmp rfl rfl .nil) rfl (.sel .nil)
  rw [if_neg (by rw [hb77]; exact Bool.false_ne_true)] at hF
  refine CW_skip (K_region (Cm v0_0.v rfl rfl ?_))
  obtain ⟨r59, hx60, hF⟩ := bind_some hF
  refine C_x1 (.rd (.t .h) rfl .nil) (X_callS cf8 (.cons (.tmp rfl rfl) .nil) (l_toMethodS_ok a_aL v0_0 _ hx60)) (fun p61 => ?_)
  refine Cm v1_0.v rfl rfl ?_
  obtain ⟨r62, hx63, hF⟩ := bind_some hF
  refine C_x1 (.rd (.t (.t (.t .h))) rfl .nil) (X_callS cf9 (.cons (.tmp rfl rfl) .nil) (l_toAccessS_ok a_aLog v1_0 _ hx63)) (fun p64 => ?_)
  refine Cm (.int .i64 a_aRel) rfl rfl ?_
  obtain ⟨r65, hx66, hF⟩ := bind_some hF
  refine C_x3 (.cons .h (.cons .h .nil)) (XC_borL (pre := []) (.cons frz_own (.cons frz_own .nil)) (fun _ => (.cons .nil)) (X_callS cf10 (.cons (.tmp rfl rfl) (.cons (.tmp rfl rfl) (.cons (.tmp rfl rfl) .nil))) (i_SeenValues_ok r59 p61.1 r62 p64.1 a_aRel _ hx66))) (fun p67 => ?_)
  refine Ca p67.1.v rfl rfl ?_
  refine C_nil (K_in (K_region (Cm p67.1.v rfl rfl ?_)))
  refine Cm p15.v rfl rfl ?_
  obtain ⟨r68, hx69, hF⟩ := bind_some hF
  refine C_x1 (.cons (.t (.t .h)) (.rd (.t (.t (.t (.t (.t .h))))) rfl .nil)) (XC_borL (pre := _) (.cons frz_own .nil) (fun _ => .nil) (X_callS cf11 (.cons (.tmp rfl rfl) (.cons (.tmp rfl rfl) .nil)) (l_eqIntS_ok r65 p67.1 r13 p15 _ hx69))) (fun _ => ?_)
  refine C_val (V_not (b := r68) (.tmp rfl rfl)) ?_
  refine C_nil (CW_cond (b := (!r68)) (.tmp rfl rfl) (fun hb76 => ?_) (fun hb76 => ?_))
  · rw [if_pos hb76] at hF
    refine K_region (C_val (V_assign (v := (.bool false)) (.bool _)) ?_)
    refine C_nil (CW_ret ?_)
    obtain rfl := Option.some.inj hF
    exact End_ret () (.tmp rfl rfl .nil) rfl (.sel .nil)
  rw [if_neg (by rw [hb76]; exact Bool.false_ne_true)] at hF
  refine CW_skip (K_region (C_val (V_assign (v := (.int .i64 1)) (.int _ _)) ?_))
  refine C_nil (K_region (Cm p24.1.v rfl rfl ?_))
  refine Cm (.int .i64 1) rfl rfl ?_
  obtain ⟨r71, hx72, hF⟩ := bind_some hF
  refine C_x1 (.cons (.t (.t (.t .h))) .nil) (XC_borL (pre := []) (.cons frz_own .nil) (fun _ => .nil) (X_callS cf17 (.cons (.tmp rfl rfl) (.cons (.tmp rfl rfl) .nil)) (l_heldIntS_ok r53.2 p24.1 1 _ hx72))) (fun _ => ?_)
  refine Ca (.int .i64 r71) rfl rfl ?_
  refine C_nil (K_in (K_region (Cm (.int .i64 r71) rfl rfl ?_)))
  refine C_val (V_lss (i := r71) (j := 0) (.tmp rfl rfl) (.int _ _)) ?_
  refine C_nil (CW_cond (b := (decide ((r71 : Int) < 0))) (.tmp rfl rfl) (fun hb75 => ?_) (fun hb75 => ?_))
  · rw [if_pos hb75] at hF
    refine K_region (C_val (V_assign (v := (.bool false)) (.bool _)) ?_)
    refine C_nil (CW_ret ?_)
    obtain rfl := Option.some.inj hF
    exact End_ret () (.tmp rfl rfl .nil) rfl (.sel .nil)
  rw [if_neg (by rw [hb75]; exact Bool.false_ne_true)] at hF
  refine CW_skip (K_in (K_region (Cm (.int .i64 r71) rfl rfl ?_)))
  refine Cm (.int .i64 r53.1) rfl rfl ?_
  refine C_val (V_neq (i := r71) (j := r53.1) (.tmp rfl rfl) (.tmp rfl rfl)) ?_
  refine C_nil (CW_cond (b := ((r71 : Int) != r53.1)) (.tmp rfl rfl) (fun hb74 => ?_) (fun hb74 => ?_))
  · rw [if_pos hb74] at hF
    refine K_region (C_val (V_assign (v := (.bool false)) (.bool _)) ?_)
    refine C_nil (CW_ret ?_)
    obtain rfl := Option.some.inj hF
    exact End_ret () (.tmp rfl rfl .nil) rfl (.sel .nil)
  rw [if_neg (by rw [hb74]; exact Bool.false_ne_true)] at hF
  refine CW_skip (K_region (C_val (V_assign (v := (.bool true)) (.bool _)) ?_))
  refine C_nil (CW_ret ?_)
  obtain rfl := Option.some.inj hF
  exact End_ret () (.tmp rfl rfl .nil) rfl (.sel .nil)

end Go.Proofs.Ytmjhcoelkbcmkab
