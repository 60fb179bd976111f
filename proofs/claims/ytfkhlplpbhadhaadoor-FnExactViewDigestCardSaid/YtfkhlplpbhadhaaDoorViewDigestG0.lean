/-
  Functions of the program as Lean functions, and that the calls return what these say: part 1. No conditions.
-/
import Derived.Test.YtfkhlplpbhadhaaDoorFcViewDigest
import Derived.Shelf.Strings.OnBuilder
import Derived.Shelf.Strconv.Itoa3
import Derived.Test.YtfkhlplpbhadhaaDoorProg
import Derived.KernelRfl
set_option maxRecDepth 100000
set_option maxHeartbeats 1000000
set_option linter.unusedVariables false
namespace Go.Proofs.YtfkhlplpbhadhaaDoor
open Go Go.Fw

instance : LaidP Tryd.prog := ⟨fun w => Lib.TabIs Tryd.prog w "internal/strconv.uint64pow10" .u64 Lib.pow10Tab⟩

structure Access where
  Method : Int
  Values : List Int
instance cf5 : ICF Tryd.prog 5 := ⟨fun _ _ => Tryd.call5 _ _⟩
instance sl22 : ISL Tryd.prog 22 33 := ⟨by unfold SL; kernel_rfl⟩
def rd33 (H : AHeap) (v : Value) (a : Access) : Prop := ∃ v0 : Sv, v = .agg [(.int .i64 a.Method), v0.v].toArray ∧ (RdS 3 rdInt) H v0.v a.Values
instance : Mono rd33 := ⟨fun h hi => by
  obtain ⟨v0, h, h0⟩ := h
  exact ⟨v0, h, Mono.up h0 hi⟩⟩
instance : Cells rd33 2 := ⟨fun h => by
  obtain ⟨v0, rfl, h0⟩ := h
  exact ⟨rfl, rfl⟩⟩
instance ty33 : ITY Tryd.prog 33 2 32 (.agg [(.int .i64 0), (.slice none 0 0)].toArray) := ⟨by unfold TY; kernel_rfl⟩
def ul33_0_33 (a : Access) (p : Sv) : List Value := [(.int .i64 a.Method), p.v]
theorem la33_0_33 {a : Access} : ∀ H e, rd33 H e a → ∃ i : Sv, 0 + 2 ≤ e.cells.size ∧ (e.cells.toList.drop 0).take 2 = ul33_0_33 a i ∧ ∀ c ∈ ([crd (RdS 3 rdInt) i.v a.Values] : List Comp), c.P H ∧ c.F = [] := by
  intro H e h
  obtain ⟨v0, rfl, h0⟩ := h
  refine ⟨v0, Nat.le_of_ble_eq_true rfl, rfl, fun c hc => by
    simp only [List.mem_cons, List.not_mem_nil, or_false] at hc
    rcases hc with rfl
    · exact ⟨h0, rfl⟩
⟩
instance ag33 : IAG Tryd.prog 33 true := ⟨by unfold AG; kernel_rfl⟩
instance cf12 : ICF Tryd.prog 12 := ⟨fun _ _ => Tryd.call12 _ _⟩
instance fd33_1 : IFD Tryd.prog 33 1 1 := ⟨by unfold FD; kernel_rfl⟩
instance ag31 : IAG Tryd.prog 31 false := ⟨by unfold AG; kernel_rfl⟩
instance cf18 : ICF Tryd.prog 18 := ⟨fun _ _ => Tryd.call18 _ _⟩
instance sl31 : ISL Tryd.prog 31 3 := ⟨by unfold SL; kernel_rfl⟩
instance cf7 : ICF Tryd.prog 7 := ⟨fun _ _ => Tryd.call7 _ _⟩
instance sl25 : ISL Tryd.prog 25 35 := ⟨by unfold SL; kernel_rfl⟩
instance ty35 : ITY Tryd.prog 35 2 32 (.agg [(.int .i64 0), (.slice none 0 0)].toArray) := ⟨by unfold TY; kernel_rfl⟩
def rd35 (H : AHeap) (v : Value) (a : Access) : Prop := ∃ v0 : Sv, v = .agg [(.int .i64 a.Method), v0.v].toArray ∧ (RdS 3 rdInt) H v0.v a.Values
instance : Mono rd35 := ⟨fun h hi => by
  obtain ⟨v0, h, h0⟩ := h
  exact ⟨v0, h, Mono.up h0 hi⟩⟩
instance : Cells rd35 2 := ⟨fun h => by
  obtain ⟨v0, rfl, h0⟩ := h
  exact ⟨rfl, rfl⟩⟩
def ow35 : ORel Access := fun F H v a => ∃ (v0 : Sv) (F0 : List Nat), v = .agg [(.int .i64 a.Method), v0.v].toArray ∧ F0 = F ∧ (OwnS 3 (roE rdInt)) F0 H v0.v a.Values
instance : Keep ow35 := ⟨fun h hi hg => by
  obtain ⟨v0, F0, rfl, rfl, h0⟩ := h
  exact ⟨v0, F0, rfl, rfl, Keep.keep h0 hi (fun k hk => hg k (by simp [hk]))⟩⟩
instance : Local ow35 := ⟨fun h hg => by
  obtain ⟨v0, F0, rfl, rfl, h0⟩ := h
  exact ⟨v0, F0, rfl, rfl, Local.keep h0 (fun k hk => hg k (by simp [hk]))⟩⟩
instance : Owns ow35 := ⟨fun h k hk => by
  obtain ⟨v0, F0, rfl, rfl, h0⟩ := h
  exact Owns.owns h0 k hk
⟩
instance : OCells ow35 2 := ⟨fun h => by
  obtain ⟨v0, F0, rfl, rfl, h0⟩ := h
  exact ⟨rfl, rfl⟩⟩
instance : Frz ow35 rd35 := ⟨fun h hg => by
  obtain ⟨v0, F0, rfl, rfl, h0⟩ := h
  exact ⟨v0, rfl, Frz.frz h0 (fun k hk => hg k (by simp [hk]))⟩⟩
instance cf14 : ICF Tryd.prog 14 := ⟨fun _ _ => Tryd.call14 _ _⟩
instance fd33_0 : IFD Tryd.prog 33 0 0 := ⟨by unfold FD; kernel_rfl⟩
instance ag3 : IAG Tryd.prog 3 false := ⟨by unfold AG; kernel_rfl⟩
instance fd35_0 : IFD Tryd.prog 35 0 0 := ⟨by unfold FD; kernel_rfl⟩
instance ty3 : ITY Tryd.prog 3 1 8 (.int .i64 0) := ⟨by unfold TY; kernel_rfl⟩
instance cf22 : ICF Tryd.prog 22 := ⟨fun _ _ => Tryd.call22 _ _⟩
theorem ls3_0 {a : Int} : ∀ H e, rdInt H e a → e.cells.toList[0]? = some (.int .i64 a) := by
  intro H e h
  subst h
  rfl
instance fd35_1 : IFD Tryd.prog 35 1 1 := ⟨by unfold FD; kernel_rfl⟩
instance ty31 : ITY Tryd.prog 31 1 24 (.slice none 0 0) := ⟨by unfold TY; kernel_rfl⟩
instance ag35 : IAG Tryd.prog 35 true := ⟨by unfold AG; kernel_rfl⟩
theorem mk35 {a : Access} {v0 : Sv} {F0 : List Nat} : Mk ow35 F0 (.agg [(.int .i64 a.Method), v0.v].toArray) a [cown (OwnS 3 (roE rdInt)) F0 v0.v a.Values] :=
  ⟨fun H h => ⟨v0, F0, rfl, rfl, h (cown (OwnS 3 (roE rdInt)) F0 v0.v a.Values) (by simp)⟩, by simp [cown]⟩
instance cf10 : ICF Tryd.prog 10 := ⟨fun _ _ => Tryd.call10 _ _⟩
instance cf6 : ICF Tryd.prog 6 := ⟨fun _ _ => Tryd.call6 _ _⟩
def ul35_0_35 (a : Access) (p : Sv) : List Value := [(.int .i64 a.Method), p.v]
theorem la35_0_35 {a : Access} : ∀ H e, rd35 H e a → ∃ i : Sv, 0 + 2 ≤ e.cells.size ∧ (e.cells.toList.drop 0).take 2 = ul35_0_35 a i ∧ ∀ c ∈ ([crd (RdS 3 rdInt) i.v a.Values] : List Comp), c.P H ∧ c.F = [] := by
  intro H e h
  obtain ⟨v0, rfl, h0⟩ := h
  refine ⟨v0, Nat.le_of_ble_eq_true rfl, rfl, fun c hc => by
    simp only [List.mem_cons, List.not_mem_nil, or_false] at hc
    rcases hc with rfl
    · exact ⟨h0, rfl⟩
⟩
instance cf13 : ICF Tryd.prog 13 := ⟨fun _ _ => Tryd.call13 _ _⟩
instance cf19 : ICF Tryd.prog 19 := ⟨fun _ _ => Tryd.call19 _ _⟩
theorem mixed : Tryd.prog.follows .mixedOrders = true := by kernel_rfl
instance cf20 : ICF Tryd.prog 20 := ⟨fun _ _ => Tryd.call20 _ _⟩
theorem ik3 : IK Tryd.prog 3 .i64 := by unfold IK; kernel_rfl
theorem ik5 : IK Tryd.prog 5 .u8 := by unfold IK; kernel_rfl
instance sl48 : ISL Tryd.prog 48 5 := ⟨by unfold SL; kernel_rfl⟩
instance ty5 : ITY Tryd.prog 5 1 1 (.int .u8 0) := ⟨by unfold TY; kernel_rfl⟩
theorem str9 : Tryd.prog.underlying 9 = some .string := by kernel_rfl
instance cf21 : ICF Tryd.prog 21 := ⟨fun _ _ => Tryd.call21 _ _⟩
theorem st9 : Fw.ST Tryd.prog 9 := by unfold Fw.ST; kernel_rfl
instance cf11 : ICF Tryd.prog 11 := ⟨fun _ _ => Tryd.call11 _ _⟩
instance cf8 : ICF Tryd.prog 8 := ⟨fun _ _ => Tryd.call8 _ _⟩
instance sl37 : ISL Tryd.prog 37 9 := ⟨by unfold SL; kernel_rfl⟩
instance ty9 : ITY Tryd.prog 9 1 16 (.string ⟨[].toArray⟩) := ⟨by unfold TY; kernel_rfl⟩
instance cf16 : ICF Tryd.prog 16 := ⟨fun _ _ => Tryd.call16 _ _⟩
def lays156_ren : Go.Shelf.Ren := ⟨fun | 156 => 16 | 165 => 27 | 166 => 28 | 169 => 29 | 240 => 35 | 241 => 36 | 276 => 39 | 277 => 40 | n => n, fun | 31 => 37 | 9 => 9 | 3 => 3 | 4 => 4 | 0 => 0 | 20 => 20 | 72 => 50 | 76 => 54 | 70 => 47 | 37 => 48 | 75 => 53 | 127 => 60 | 164 => 62 | 5 => 5 | 80 => 56 | n => n, fun | n => n⟩
theorem lays156 : Go.Proofs.Lays.n156 Tryd.prog lays156_ren := {
  mixed := by kernel_rfl
  f156 := Tryd.func16.trans (congrArg some (by kernel_rfl))
  f165 := Tryd.func27.trans (congrArg some (by kernel_rfl))
  f166 := Tryd.func28.trans (congrArg some (by kernel_rfl))
  f169 := Tryd.func29.trans (congrArg some (by kernel_rfl))
  f240 := Tryd.func35.trans (congrArg some (by kernel_rfl))
  f241 := Tryd.func36.trans (congrArg some (by kernel_rfl))
  f276 := Tryd.func39.trans (congrArg some (by kernel_rfl))
  f277 := Tryd.func40.trans (congrArg some (by kernel_rfl))
  t0 := Tryd.underlying0
  a0 := Tryd.isAgg0
  z0 := Tryd.sizeOf0
  v0 := Tryd.zeroValue0
  t3 := Tryd.underlying3
  a3 := Tryd.isAgg3
  z3 := Tryd.sizeOf3
  v3 := Tryd.zeroValue3
  t4 := Tryd.underlying4
  a4 := Tryd.isAgg4
  z4 := Tryd.sizeOf4
  v4 := Tryd.zeroValue4
  t9 := Tryd.underlying9
  a9 := Tryd.isAgg9
  z9 := Tryd.sizeOf9
  v9 := Tryd.zeroValue9
  t20 := Tryd.underlying20
  a20 := Tryd.isAgg20
  z20 := Tryd.sizeOf20
  v20 := Tryd.zeroValue20
  t31 := Tryd.underlying37
  a31 := Tryd.isAgg37
  z31 := Tryd.sizeOf37
  v31 := Tryd.zeroValue37
  t37 := Tryd.underlying48
  a37 := Tryd.isAgg48
  z37 := Tryd.sizeOf48
  v37 := Tryd.zeroValue48
  t70 := Tryd.underlying47
  a70 := Tryd.isAgg47
  z70 := Tryd.sizeOf47
  v70 := Tryd.zeroValue47
  t72 := Tryd.underlying50
  a72 := Tryd.isAgg50
  z72 := Tryd.sizeOf50
  v72 := Tryd.zeroValue50
  t75 := Tryd.underlying53
  a75 := Tryd.isAgg53
  z75 := Tryd.sizeOf53
  v75 := Tryd.zeroValue53
  t76 := Tryd.underlying54
  a76 := Tryd.isAgg54
  z76 := Tryd.sizeOf54
  v76 := Tryd.zeroValue54
  t127 := Tryd.underlying60
  a127 := Tryd.isAgg60
  z127 := Tryd.sizeOf60
  v127 := Tryd.zeroValue60
  t164 := Tryd.underlying62
  a164 := Tryd.isAgg62
  z164 := Tryd.sizeOf62
  v164 := Tryd.zeroValue62 }
theorem extra : Go.Proofs.Builder.Extra Tryd.prog lays156_ren := {
  sizeBuilder := by kernel_rfl
  liesBuilder := by kernel_rfl
  t5 := Tryd.underlying5
  a5 := Tryd.isAgg5
  z5 := Tryd.sizeOf5
  v5 := Tryd.zeroValue5
  infoByte := by kernel_rfl
  cellsByte := by kernel_rfl
  sizeByte := by kernel_rfl
  neB5 := by decide }
instance cf15 : ICF Tryd.prog 15 := ⟨fun _ _ => Tryd.call15 _ _⟩
instance cf23 : ICF Tryd.prog 23 := ⟨fun _ _ => Tryd.call23 _ _⟩
instance cf24 : ICF Tryd.prog 24 := ⟨fun _ _ => Tryd.call24 _ _⟩
instance cf31 : ICF Tryd.prog 31 := ⟨fun _ _ => Tryd.call31 _ _⟩
instance cf37 : ICF Tryd.prog 37 := ⟨fun _ _ => Tryd.call37 _ _⟩
instance cf32 : ICF Tryd.prog 32 := ⟨fun _ _ => Tryd.call32 _ _⟩
instance cf33 : ICF Tryd.prog 33 := ⟨fun _ _ => Tryd.call33 _ _⟩
instance cf25 : ICF Tryd.prog 25 := ⟨fun _ _ => Tryd.call25 _ _⟩
instance cf34 : ICF Tryd.prog 34 := ⟨fun _ _ => Tryd.call34 _ _⟩
def laysM171_ren : Go.Shelf.Ren := ⟨fun | 171 => 34 | 243 => 38 | 246 => 41 | 283 => 42 | 284 => 43 | 285 => 44 | 286 => 45 | 129 => 47 | 317 => 46 | 318 => 48 | 319 => 49 | 320 => 50 | 337 => 51 | 338 => 52 | n => n, fun | 3 => 3 | 9 => 9 | 2 => 2 | 4 => 4 | 171 => 66 | 0 => 0 | 53 => 67 | 37 => 48 | 5 => 5 | 173 => 70 | 212 => 74 | 51 => 75 | 20 => 20 | 213 => 76 | 46 => 77 | 232 => 80 | 233 => 81 | n => n, fun | 17 => 1 | 18 => 2 | 19 => 3 | n => n⟩
theorem laysM171 : Go.Proofs.LaysM.n171 Tryd.prog laysM171_ren := {
  mixed := by kernel_rfl
  f129 := Tryd.func47.trans (congrArg some (by kernel_rfl))
  f171 := Tryd.func34.trans (congrArg some (by kernel_rfl))
  f243 := Tryd.func38.trans (congrArg some (by kernel_rfl))
  f246 := Tryd.func41.trans (congrArg some (by kernel_rfl))
  f283 := Tryd.func42.trans (congrArg some (by kernel_rfl))
  f284 := Tryd.func43.trans (congrArg some (by kernel_rfl))
  f285 := Tryd.func44.trans (congrArg some (by kernel_rfl))
  f286 := Tryd.func45.trans (congrArg some (by kernel_rfl))
  f317 := Tryd.func46.trans (congrArg some (by kernel_rfl))
  f318 := Tryd.func48.trans (congrArg some (by kernel_rfl))
  f319 := Tryd.func49.trans (congrArg some (by kernel_rfl))
  f320 := Tryd.func50.trans (congrArg some (by kernel_rfl))
  f337 := Tryd.func51.trans (congrArg some (by kernel_rfl))
  f338 := Tryd.func52.trans (congrArg some (by kernel_rfl))
  t0 := Tryd.underlying0
  a0 := Tryd.isAgg0
  z0 := Tryd.sizeOf0
  v0 := Tryd.zeroValue0
  t2 := Tryd.underlying2
  a2 := Tryd.isAgg2
  z2 := Tryd.sizeOf2
  v2 := Tryd.zeroValue2
  t3 := Tryd.underlying3
  a3 := Tryd.isAgg3
  z3 := Tryd.sizeOf3
  v3 := Tryd.zeroValue3
  t4 := Tryd.underlying4
  a4 := Tryd.isAgg4
  z4 := Tryd.sizeOf4
  v4 := Tryd.zeroValue4
  t5 := Tryd.underlying5
  a5 := Tryd.isAgg5
  z5 := Tryd.sizeOf5
  v5 := Tryd.zeroValue5
  t9 := Tryd.underlying9
  a9 := Tryd.isAgg9
  z9 := Tryd.sizeOf9
  v9 := Tryd.zeroValue9
  t20 := Tryd.underlying20
  a20 := Tryd.isAgg20
  z20 := Tryd.sizeOf20
  v20 := Tryd.zeroValue20
  t37 := Tryd.underlying48
  a37 := Tryd.isAgg48
  z37 := Tryd.sizeOf48
  v37 := Tryd.zeroValue48
  t46 := Tryd.underlying77
  a46 := Tryd.isAgg77
  z46 := Tryd.sizeOf77
  v46 := Tryd.zeroValue77
  t51 := Tryd.underlying75
  a51 := Tryd.isAgg75
  z51 := Tryd.sizeOf75
  v51 := Tryd.zeroValue75
  t53 := Tryd.underlying67
  a53 := Tryd.isAgg67
  z53 := Tryd.sizeOf67
  v53 := Tryd.zeroValue67
  t171 := Tryd.underlying66
  a171 := Tryd.isAgg66
  z171 := Tryd.sizeOf66
  v171 := Tryd.zeroValue66
  t173 := Tryd.underlying70
  a173 := Tryd.isAgg70
  z173 := Tryd.sizeOf70
  v173 := Tryd.zeroValue70
  t212 := Tryd.underlying74
  a212 := Tryd.isAgg74
  z212 := Tryd.sizeOf74
  v212 := Tryd.zeroValue74
  t213 := Tryd.underlying76
  a213 := Tryd.isAgg76
  z213 := Tryd.sizeOf76
  t232 := Tryd.underlying80
  a232 := Tryd.isAgg80
  z232 := Tryd.sizeOf80
  v232 := Tryd.zeroValue80
  t233 := Tryd.underlying81
  a233 := Tryd.isAgg81
  z233 := Tryd.sizeOf81
  v233 := Tryd.zeroValue81
  g17 := by kernel_rfl
  g18 := by kernel_rfl
  g19 := by kernel_rfl
  i0 := by kernel_rfl
  i2 := by kernel_rfl
  i3 := by kernel_rfl
  i4 := by kernel_rfl
  i5 := by kernel_rfl
  i9 := by kernel_rfl
  i20 := by kernel_rfl
  i37 := by kernel_rfl
  i46 := by kernel_rfl
  i51 := by kernel_rfl
  i53 := by kernel_rfl
  i171 := by kernel_rfl
  i173 := by kernel_rfl
  i212 := by kernel_rfl
  i232 := by kernel_rfl
  i233 := by kernel_rfl
  m17 := by kernel_rfl
  m18 := by kernel_rfl
  m19 := by kernel_rfl }
instance cf26 : ICF Tryd.prog 26 := ⟨fun _ _ => Tryd.call26 _ _⟩
theorem ni37 : NotInt Tryd.prog 37 := .inr ⟨9, by kernel_rfl⟩
instance cf9 : ICF Tryd.prog 9 := ⟨fun _ _ => Tryd.call9 _ _⟩
instance cf17 : ICF Tryd.prog 17 := ⟨fun _ _ => Tryd.call17 _ _⟩
instance cf30 : ICF Tryd.prog 30 := ⟨fun _ _ => Tryd.call30 _ _⟩
theorem fa33_0 : fieldAt Tryd.prog 33 0 = some (3, 0, 1) := by kernel_rfl
theorem fa33_1 : fieldAt Tryd.prog 33 1 = some (31, 1, 1) := by kernel_rfl
def wf33 (a : Access) : Prop := wfInt a.Method ∧ (wfSl wfInt) a.Values
theorem sh33 : ∀ H v a, rd33 H v a → isAgV v = aggT Tryd.prog 33 := by
  intro H v a h
  obtain ⟨v1, rfl, _⟩ := h
  kernel_rfl
theorem op33 : Opn Tryd.prog 33 rd33 wf33 := by
  intro T enc w fuel cs x h hw ρ H hr hF
  have hl := opn_len fa33_0 h (n := 2) ty33.h.sz.cells
  obtain ⟨ρ0, H0, av0, a0, r0, f0, u0, i0, v0, q0, w0⟩ := opn_field fa33_0 h hw (Opn.int (by kernel_rfl)) hr hF
  obtain ⟨ρ1, H1, av1, a1, r1, f1, u1, i1, v1, q1, w1⟩ := opn_field fa33_1 h hw (Opn.slice (s := 1) (by kernel_rfl) (by kernel_rfl) (by decide) (Nat.lt_of_lt_of_le (by decide) (Nat.le_of_eq (show 8 = _ from by kernel_rfl))) (Opn.int (by kernel_rfl))) r0 f0
  obtain rfl : av0 = (.int .i64 a0) := q0
  replace v0 := v0.up u1
  obtain ⟨sa1, sm1, rfl⟩ := RdS.len q1
  replace v1 := v1.one rfl
  have hv := RelVs.field (o := 0) v0 (RelVs.field (o := 1) v1 (RelVs.end hl))
  rw [List.drop_zero] at hv
  refine ⟨ρ1, H1, (.agg [(.int .i64 a0), (.slice sa1 a1.length sm1)].toArray : Value), ({ Method := a0, Values := a1 } : Access), r1, f1, (u0.trans u1), (i0.trans i1), ?_, ?_, w0, w1⟩
  · exact hv
  · exact ⟨⟨sa1, _, sm1⟩, rfl, q1⟩

/-! laws.szIntS -/
def l_szIntS (a_a : List Int) (a_left : Int) : Option (Int) :=
  if (decide (((IntKind.i64.wrap (a_left - (a_a.length : Int))) : Int) < 0)) then (
    some (-1))
  else (
    some (IntKind.i64.wrap (a_left - (a_a.length : Int))))
theorem l_szIntS_ok (a_a : List Int) (v0_0 : Sv) (a_left : Int) (R : Int) (hF : l_szIntS a_a a_left = some R) :
    Fw.Spec Tryd.prog 18 [v0_0.v, (.int .i64 a_left)] [crd (RdS 3 rdInt) v0_0.v a_a] (fun _ : Unit => (.int .i64 R)) (fun _ => []) := by
  refine Spec_enter (n := 12) Tryd.func18 rfl rfl (rs := [.tmp 4]) rfl rfl rfl ?_
  intro H0 F0
  unfold l_szIntS at hF
  iterate 15 refine au ?_
  refine Cc (fun hb1 => ?_) (fun hb1 => ?_)
  · rw [if_pos hb1] at hF
    iterate 4 refine au ?_
    cases hF
    exact Er ()
  rw [if_neg (nt hb1)] at hF
  iterate 6 refine au ?_
  cases hF
  exact Er ()

/-! laws.szAccess -/
def l_szAccess (a_a : Access) (a_left : Int) : Option (Int) :=
  (l_szIntS a_a.Values a_left).bind fun r2 =>
  if (decide ((r2 : Int) < 0)) then (
    some (-1))
  else (
    some r2)
theorem l_szAccess_ok (a_a : Access) (v0_1 : Sv) (a_left : Int) (R : Int) (hF : l_szAccess a_a a_left = some R) :
    Fw.Spec Tryd.prog 12 [(.agg [(.int .i64 a_a.Method), v0_1.v].toArray), (.int .i64 a_left)] [crd (RdS 3 rdInt) v0_1.v a_a.Values] (fun _ : Unit => (.int .i64 R)) (fun _ => []) := by
  refine Spec_enter (n := 12) Tryd.func12 rfl rfl (rs := [.tmp 4]) rfl rfl rfl ?_
  intro H0 F0
  unfold l_szAccess at hF
  refine au ?_
  refine AbR (fun k1 => ?_)
  iterate 6 refine au ?_
  obtain ⟨r2, hx3, hF⟩ := bind_some hF
  refine Cx0 (l_szIntS_ok _ _ _ _ hx3) (fun _ => ?_)
  iterate 7 refine au ?_
  refine Cc (fun hb5 => ?_) (fun hb5 => ?_)
  · rw [if_pos hb5] at hF
    iterate 4 refine au ?_
    cases hF
    exact Er ()
  rw [if_neg (nt hb5)] at hF
  iterate 6 refine au ?_
  cases hF
  exact Er ()

/-! laws.szAccessS -/
def l_szAccessS_L1 : List Access → Nat → Int → Option (Int)
  | [], k5, c1 => some c1
  | x7 :: rest6, k5, c1 => (l_szAccess x7 c1).bind fun r17 =>
    if (decide ((r17 : Int) < 0)) then (
      some (-1))
    else (
      l_szAccessS_L1 rest6 (k5 + 1) r17)
def l_szAccessS (a_a : List Access) (a_left : Int) : Option (Int) :=
  if (decide (((IntKind.i64.wrap (a_left - (a_a.length : Int))) : Int) < 0)) then (
    some (-1))
  else (
    l_szAccessS_L1 a_a 0 (IntKind.i64.wrap (a_left - (a_a.length : Int))))
theorem l_szAccessS_ok (a_a : List Access) (v0_0 : Sv) (a_left : Int) (R : Int) (hF : l_szAccessS a_a a_left = some R) :
    Fw.Spec Tryd.prog 5 [v0_0.v, (.int .i64 a_left)] [crd (RdS 33 rd33) v0_0.v a_a] (fun _ : Unit => (.int .i64 R)) (fun _ => []) := by
  refine Spec_enter (n := 27) Tryd.func5 rfl rfl (rs := [.tmp 4]) rfl rfl rfl ?_
  intro H0 F0
  unfold l_szAccessS at hF
  iterate 15 refine au ?_
  refine Cc (fun hb22 => ?_) (fun hb22 => ?_)
  · rw [if_pos hb22] at hF
    iterate 4 refine au ?_
    cases hF
    exact Er ()
  rw [if_neg (nt hb22)] at hF
  iterate 5 refine au ?_
  refine CW_block (CW_loop (m := a_a.length) (fun m3 f' cs' => ∃ (g : Fr) (k5 : Nat) (rest6 : List Access) (c1 : Int), m3 = rest6.length ∧ f' = updL g [(0, v0_0.v), (1, (.int .i64 c1)), (5, (.int .i64 (k5 : Int)))] ∧ List.drop k5 a_a = rest6 ∧ Ent cs' [crd (RdS 33 rd33) v0_0.v a_a] ∧ l_szAccessS_L1 rest6 k5 c1 = some R) ⟨_, 0, _, _, rfl, eqA, rfl, entA, hF⟩ ?_)
  clear hF
  rintro m3 _ _ ⟨g4, k5, rest6, c1, rfl, rfl, hd8, hE, hF⟩
  refine K_ent hE ?_
  clear hE
  refine K_pure (c := crd (RdS 33 rd33) v0_0.v a_a) .h crd_bound (fun hbd13 => ?_)
  rcases rest6 with _ | ⟨x7, rest6⟩
  · have hk9 := List.drop_eq_nil_iff.1 hd8
    rw [l_szAccessS_L1] at hF
    iterate 7 refine au ?_
    refine CdF ?_
    iterate 9 refine au ?_
    cases hF
    exact Er ()
  obtain ⟨hk9, hx10, hd11⟩ := drop_cons hd8
  rw [l_szAccessS_L1] at hF
  iterate 7 refine au ?_
  refine CdT ?_
  iterate 5 refine au ?_
  refine Ai hx10 (fun k14 j15 => ?_)
  refine AlA1 (ul33_0_33 x7) la33_0_33 (fun p16 => ?_)
  refine au ?_
  obtain ⟨r17, hx18, hF⟩ := bind_some hF
  refine Cx0 (l_szAccess_ok _ _ _ _ hx18) (fun _ => ?_)
  iterate 6 refine au ?_
  refine Cc (fun hb21 => ?_) (fun hb21 => ?_)
  · rw [if_pos hb21] at hF
    iterate 4 refine au ?_
    cases hF
    exact Er ()
  rw [if_neg (nt hb21)] at hF
  iterate 6 refine au ?_
  rw [wk k5]
  exact ⟨_, Nat.lt_succ_self _, _, k5 + 1, rest6, _, rfl, eqA, hd11, entA, hF⟩

/-! laws.toIntS -/
def l_toIntS_L1 : List Int → Nat → (List Int) → Option ((List Int))
  | [], k32, c27 => some c27
  | x34 :: rest33, k32, c27 => (chk (decide (0 ≤ (k32 : Int)) && decide ((k32 : Int) < (c27.length : Int)))).bind fun u46 =>
    (some (c27.set ((k32 : Int)).toNat x34)).bind fun z48 =>
    l_toIntS_L1 rest33 (k32 + 1) z48
def l_toIntS (a_a : List Int) : Option ((List Int)) :=
  (mkz (a_a.length : Int) (0 : Int)).bind fun z1 =>
  l_toIntS_L1 a_a 0 z1
theorem l_toIntS_ok (a_a : List Int) (v0_0 : Sv) (R : (List Int)) (hF : l_toIntS a_a = some R) :
    Fw.Spec Tryd.prog 22 [v0_0.v] [crd (RdS 3 rdInt) v0_0.v a_a] (fun p : Sv × List Nat => p.1.v) (fun p => [cown (OwnS 3 (roE rdInt)) p.2 p.1.v R]) := by
  refine Spec_enter (n := 22) Tryd.func22 rfl rfl (rs := [.tmp 2]) rfl rfl rfl ?_
  intro H0 F0
  unfold l_toIntS at hF
  iterate 6 refine au ?_
  obtain ⟨z1, hx2, hF⟩ := bind_some hF
  have hm3 := mkz_some hx2
  refine C_new rfl (N_makeSlice (g := true) (c := (a_a.length : Int)) sl31.h ty3.h rfl rfl (by decide) (.tmp rfl rfl) hm3.2.1 hm3.2.2) (fun k4 => ?_)
  refine Cv1 (.cons .h .nil) (own_make (Ro := (roE rdInt)) (E := 3) (a := (0 : Int)) hx2 (fun _ => ⟨rfl, rfl⟩)) ?_
  iterate 6 refine au ?_
  refine CW_block (CW_loop (m := a_a.length) (fun m30 f' cs' => ∃ (g : Fr) (k32 : Nat) (rest33 : List Int) (c27 : List Int) (F28 : List Nat), m30 = rest33.length ∧ f' = updL g [(0, v0_0.v), (3, (.slice (some ⟨k4, 0, none⟩) (a_a.length : Int).toNat 1)), (4, (.int .i64 (k32 : Int)))] ∧ List.drop k32 a_a = rest33 ∧ Ent cs' [crd (RdS 3 rdInt) v0_0.v a_a, cown (OwnS 3 (roE rdInt)) F28 (.slice (some ⟨k4, 0, none⟩) (a_a.length : Int).toNat 1) c27] ∧ l_toIntS_L1 rest33 k32 c27 = some R) ⟨_, 0, _, _, [k4], rfl, eqA, rfl, entA, hF⟩ ?_)
  clear hF
  rintro m30 _ _ ⟨g31, k32, rest33, c27, F28, rfl, rfl, hd35, hE, hF⟩
  refine K_ent hE ?_
  clear hE
  refine K_pure (c := crd (RdS 3 rdInt) v0_0.v a_a) .h crd_bound (fun hbd40 => ?_)
  rcases rest33 with _ | ⟨x34, rest33⟩
  · have hk36 := List.drop_eq_nil_iff.1 hd35
    rw [l_toIntS_L1] at hF
    iterate 7 refine au ?_
    refine CdF ?_
    iterate 9 refine au ?_
    cases hF
    exact Er (⟨(some ⟨k4, 0, none⟩), (a_a.length : Int).toNat, 1⟩, F28)
  obtain ⟨hk36, hx37, hd38⟩ := drop_cons hd35
  rw [l_toIntS_L1] at hF
  iterate 7 refine au ?_
  refine CdT ?_
  iterate 7 refine au ?_
  refine Ai hx37 (fun k41 j42 => ?_)
  refine Al ls3_0 ?_
  obtain ⟨u46, hx47, hF⟩ := bind_some hF
  have hi45 := chk_some hx47
  refine C_idxO sl31.h ty3.h.sz (.tmp rfl rfl) (.tmp rfl rfl) (.t (.t .h)) hi45 (fun k43 hk44 => ?_)
  obtain ⟨z48, hx49, hF⟩ := bind_some hF
  replace hx49 := Option.some.inj hx49
  refine C_x1 (.cons (.t (.t .h)) .nil) (X_storeO (Ro := (roE rdInt)) (a := x34) (i := (k32 : Int)) ty3.h.sz rfl (.tmp rfl rfl) (.tmp rfl rfl) hk44 hi45 (Mk_pure (fun _ => rfl)) (fun _ _ _ _ h => by obtain ⟨-, h⟩ := h; cases h; rfl)) (fun F50 => ?_)
  rw [hx49]
  iterate 6 refine au ?_
  rw [wk k32]
  exact ⟨_, Nat.lt_succ_self _, _, k32 + 1, rest33, _, F50, rfl, eqA, hd38, entA, hF⟩

/-! laws.toAccess -/
def l_toAccess (a_a : Access) : Option (Access) :=
  (l_toIntS a_a.Values).bind fun r4 =>
  some ({ Method := a_a.Method, Values := r4 } : Access)
theorem l_toAccess_ok (a_a : Access) (v0_1 : Sv) (R : Access) (hF : l_toAccess a_a = some R) :
    Fw.Spec Tryd.prog 14 [(.agg [(.int .i64 a_a.Method), v0_1.v].toArray)] [crd (RdS 3 rdInt) v0_1.v a_a.Values] (fun p : Sv × List Nat => (.agg [(.int .i64 R.Method), p.1.v].toArray)) (fun p => [cown (OwnS 3 (roE rdInt)) p.2 p.1.v R.Values]) := by
  refine Spec_enter (n := 12) Tryd.func14 rfl rfl (rs := [.cell 2 35]) rfl rfl rfl ?_
  intro H0 F0
  unfold l_toAccess at hF
  refine au ?_
  refine AbR (fun k1 => ?_)
  refine AnW (fun k2 => ?_)
  iterate 2 refine au ?_
  refine AnW (fun k3 => ?_)
  iterate 5 refine au ?_
  refine As (.agg [(.int .i64 a_a.Method), (.slice none 0 0)].toArray) ?_
  iterate 4 refine au ?_
  obtain ⟨r4, hx5, hF⟩ := bind_some hF
  refine Cx1 (l_toIntS_ok _ _ _ hx5) (fun p6 => ?_)
  refine au ?_
  refine As (.agg [(.int .i64 a_a.Method), p6.1.v].toArray) ?_
  iterate 3 refine au ?_
  refine As (.agg [(.int .i64 a_a.Method), p6.1.v].toArray) ?_
  iterate 2 refine au ?_
  cases hF
  exact Er (p6.1, p6.2)

/-! laws.toAccessS -/
def l_toAccessS_L1 : List Access → Nat → (List Access) → Option ((List Access))
  | [], k36, c31 => some c31
  | x38 :: rest37, k36, c31 => (l_toAccess x38).bind fun r48 =>
    (chk (decide (0 ≤ (k36 : Int)) && decide ((k36 : Int) < (c31.length : Int)))).bind fun u54 =>
    (some (c31.set ((k36 : Int)).toNat r48)).bind fun z56 =>
    l_toAccessS_L1 rest37 (k36 + 1) z56
def l_toAccessS (a_a : List Access) : Option ((List Access)) :=
  (mkz (a_a.length : Int) (({ Method := 0, Values := [] } : Access) : Access)).bind fun z1 =>
  l_toAccessS_L1 a_a 0 z1
theorem l_toAccessS_ok (a_a : List Access) (v0_0 : Sv) (R : (List Access)) (hF : l_toAccessS a_a = some R) :
    Fw.Spec Tryd.prog 7 [v0_0.v] [crd (RdS 33 rd33) v0_0.v a_a] (fun p : Sv × List Nat => p.1.v) (fun p => [cown (OwnS 35 ow35) p.2 p.1.v R]) := by
  refine Spec_enter (n := 23) Tryd.func7 rfl rfl (rs := [.tmp 2]) rfl rfl rfl ?_
  intro H0 F0
  unfold l_toAccessS at hF
  iterate 6 refine au ?_
  obtain ⟨z1, hx2, hF⟩ := bind_some hF
  have hm3 := mkz_some hx2
  refine C_new rfl (N_makeSlice (g := true) (c := (a_a.length : Int)) sl25.h ty35.h rfl rfl (by decide) (.tmp rfl rfl) hm3.2.1 hm3.2.2) (fun k4 => ?_)
  refine Cv1 (.cons .h .nil) (own_make (Ro := ow35) (E := 35) (a := (({ Method := 0, Values := [] } : Access) : Access)) hx2 (fun _ => ⟨⟨none, 0, 0⟩, [], rfl, rfl, .inl ⟨rfl, rfl, rfl⟩⟩)) ?_
  iterate 6 refine au ?_
  refine CW_block (CW_loop (m := a_a.length) (fun m34 f' cs' => ∃ (g : Fr) (k36 : Nat) (rest37 : List Access) (c31 : List Access) (F32 : List Nat), m34 = rest37.length ∧ f' = updL g [(0, v0_0.v), (3, (.slice (some ⟨k4, 0, none⟩) (a_a.length : Int).toNat 1)), (4, (.int .i64 (k36 : Int)))] ∧ List.drop k36 a_a = rest37 ∧ Ent cs' [crd (RdS 33 rd33) v0_0.v a_a, cown (OwnS 35 ow35) F32 (.slice (some ⟨k4, 0, none⟩) (a_a.length : Int).toNat 1) c31] ∧ l_toAccessS_L1 rest37 k36 c31 = some R) ⟨_, 0, _, _, [k4], rfl, eqA, rfl, entA, hF⟩ ?_)
  clear hF
  rintro m34 _ _ ⟨g35, k36, rest37, c31, F32, rfl, rfl, hd39, hE, hF⟩
  refine K_ent hE ?_
  clear hE
  refine K_pure (c := crd (RdS 33 rd33) v0_0.v a_a) .h crd_bound (fun hbd44 => ?_)
  rcases rest37 with _ | ⟨x38, rest37⟩
  · have hk40 := List.drop_eq_nil_iff.1 hd39
    rw [l_toAccessS_L1] at hF
    iterate 7 refine au ?_
    refine CdF ?_
    iterate 9 refine au ?_
    cases hF
    exact Er (⟨(some ⟨k4, 0, none⟩), (a_a.length : Int).toNat, 1⟩, F32)
  obtain ⟨hk40, hx41, hd42⟩ := drop_cons hd39
  rw [l_toAccessS_L1] at hF
  iterate 7 refine au ?_
  refine CdT ?_
  iterate 7 refine au ?_
  refine Ai hx41 (fun k45 j46 => ?_)
  refine AlA1 (ul33_0_33 x38) la33_0_33 (fun p47 => ?_)
  obtain ⟨r48, hx49, hF⟩ := bind_some hF
  refine Cx1 (l_toAccess_ok _ _ _ hx49) (fun p50 => ?_)
  obtain ⟨u54, hx55, hF⟩ := bind_some hF
  have hi53 := chk_some hx55
  refine C_idxO sl25.h ty35.h.sz (.tmp rfl rfl) (.tmp rfl rfl) (.t (.t (.t (.t .h)))) hi53 (fun k51 hk52 => ?_)
  obtain ⟨z56, hx57, hF⟩ := bind_some hF
  replace hx57 := Option.some.inj hx57
  refine C_x1 (.cons (.t (.t (.t (.t .h)))) (.cons .h .nil)) (X_storeO (Ro := ow35) (a := r48) (i := (k36 : Int)) ty35.h.sz rfl (.tmp rfl rfl) (.tmp rfl rfl) hk52 hi53 mk35 (fun _ _ _ _ h => by obtain ⟨_, _, rfl, rfl, _⟩ := h; rfl)) (fun F58 => ?_)
  rw [hx57]
  iterate 6 refine au ?_
  rw [wk k36]
  exact ⟨_, Nat.lt_succ_self _, _, k36 + 1, rest37, _, F58, rfl, eqA, hd42, entA, hF⟩

/-! spec.l1In -/
def s_l1In (a_x : Int) (a_low : Int) (a_high : Int) : Option (Bool) :=
  some ((decide ((a_low : Int) ≤ a_x)) && (decide ((a_x : Int) ≤ a_high)))
theorem s_l1In_ok (a_x : Int) (a_low : Int) (a_high : Int) (R : Bool) (hF : s_l1In a_x a_low a_high = some R) :
    Fw.Spec Tryd.prog 19 [(.int .i64 a_x), (.int .i64 a_low), (.int .i64 a_high)] [] (fun _ : Unit => (.bool R)) (fun _ => []) := by
  refine Spec_enter (n := 15) Tryd.func19 rfl rfl (rs := [.tmp 6]) rfl rfl rfl ?_
  intro H0 F0
  unfold s_l1In at hF
  iterate 4 refine au ?_
  refine C_cut (fun f' cs' => ∃ (g : Fr), f' = updL g [(6, (.bool ((decide ((a_low : Int) ≤ a_x)) && (decide ((a_x : Int) ≤ a_high)))))] ∧ Ent cs' []) ?_ ?_
  · iterate 4 refine au ?_
    rcases Bool.eq_false_or_eq_true (decide ((a_low : Int) ≤ a_x)) with hg1 | hg1
    · rw [hg1]
      try rw [hg1] at hF; dsimp only [cond_true, cond_false] at hF
      iterate 9 refine au ?_
      exact ⟨_, eqA, entA⟩
    rw [hg1]
    try rw [hg1] at hF; dsimp only [cond_true, cond_false] at hF
    iterate 6 refine au ?_
    exact ⟨_, eqA, entA⟩
  rintro _ _ ⟨g2, rfl, hE⟩
  refine K_ent hE ?_
  refine au ?_
  cases hF
  exact Er ()

/-! spec.FormatInt -/
def s_FormatInt_L1 : Nat → Int → (List UInt8) → Option ((List UInt8))
  | 0, _, _ => none
  | m5 + 1, c3, c4 => if ((c3 : Int) != 0) then (
      if (decide (((Int.tmod c3 10) : Int) < 0)) then (
        (cat [(u8of (IntKind.i64.wrap (48 + (IntKind.i64.wrap (-(Int.tmod c3 10))))))] c4).bind fun x14 =>
        s_FormatInt_L1 m5 (IntKind.i64.wrap (Int.tdiv c3 10)) x14)
      else (
        (cat [(u8of (IntKind.i64.wrap (48 + (Int.tmod c3 10))))] c4).bind fun x19 =>
        s_FormatInt_L1 m5 (IntKind.i64.wrap (Int.tdiv c3 10)) x19))
    else (
      some c4)
def s_FormatInt (fuel : Nat) (a_n : Int) : Option ((List UInt8)) :=
  if ((a_n : Int) == 0) then (
    some [48])
  else (
    (s_FormatInt_L1 fuel a_n []).bind fun o1 =>
    match o1 with
    | c25 => if (decide ((a_n : Int) < 0)) then (
        (cat [45] c25).bind fun x26 =>
        some x26)
      else (
        some c25))
theorem s_FormatInt_ok (fuel : Nat) (a_n : Int) (R : (List UInt8)) (hF : s_FormatInt fuel a_n = some R) :
    Fw.Spec Tryd.prog 20 [(.int .i64 a_n)] [] (fun _ : Unit => (sv R)) (fun _ => []) := by
  refine Spec_enter (n := 31) Tryd.func20 rfl rfl (rs := [.tmp 2]) rfl rfl rfl ?_
  intro H0 F0
  unfold s_FormatInt at hF
  iterate 8 refine au ?_
  refine Cc (fun hb32 => ?_) (fun hb32 => ?_)
  · rw [if_pos hb32] at hF
    iterate 4 refine au ?_
    cases hF
    exact Er ()
  rw [if_neg (nt hb32)] at hF
  iterate 9 refine au ?_
  obtain ⟨o1, hio1, hO2⟩ := bind_some hF
  refine K_cut (fun f' cs' => ∃ (c25 : List UInt8) (g : Fr), c25 = o1 ∧ f' = updL g [(3, (sv c25)), (4, (.bool (decide ((a_n : Int) < 0))))] ∧ Ent cs' []) ?_ ?_
  · replace hF := hio1
    refine CW_block (CW_loop (m := fuel) (fun m5 f' cs' => ∃ (g : Fr) (c3 : Int) (c4 : List UInt8), f' = updL g [(0, (.int .i64 c3)), (3, (sv c4)), (4, (.bool (decide ((a_n : Int) < 0))))] ∧ Ent cs' [] ∧ s_FormatInt_L1 m5 c3 c4 = some o1) ⟨_, _, _, eqA, entA, hF⟩ ?_)
    clear hF
    rintro m5 _ _ ⟨g6, c3, c4, rfl, hE, hF⟩
    refine K_ent hE ?_
    clear hE
    rcases m5 with _ | m5
    · rw [s_FormatInt_L1] at hF
      exact absurd hF (by simp)
    rw [s_FormatInt_L1] at hF
    iterate 5 refine au ?_
    refine Cc (fun hb24 => ?_) (fun hb24 => ?_)
    · rw [if_pos hb24] at hF
      refine au ?_
      refine CW_block (K_region (Cm (.int .i64 c3) rfl rfl ?_))
      refine C_val (V_rem (i := c3) (j := 10) (.tmp rfl rfl) (.int _ _) (by decide)) ?_
      iterate 7 refine au ?_
      refine Cc (fun hb23 => ?_) (fun hb23 => ?_)
      · rw [if_pos hb23] at hF
        iterate 2 refine au ?_
        refine C_val (V_neg (i := (Int.tmod c3 10)) (.tmp rfl rfl)) ?_
        iterate 5 refine au ?_
        refine C_val (V_convU8 (i := (IntKind.i64.wrap (48 + (IntKind.i64.wrap (-(Int.tmod c3 10)))))) ik3 ik5 (.tmp rfl rfl)) ?_
        refine C_new rfl (N_buildSliceT (g := true) sl48.h ty5.h (.cons (.tmp rfl rfl) .nil) (vs := [(.int .u8 ((u8of (IntKind.i64.wrap (48 + (IntKind.i64.wrap (-(Int.tmod c3 10)))))).toNat : Int))]) rfl rfl rfl (by intro v hv; simp at hv; rcases hv with rfl <;> rfl)) (fun k13 => ?_)
        refine Cv1 (.cons .h .nil) (own_lit (Ro := (roE rdU8)) (E := 5) (F := ([] ++ [])) (xs := ([(u8of (IntKind.i64.wrap (48 + (IntKind.i64.wrap (-(Int.tmod c3 10))))))] : List UInt8)) (MkL_cons (Mk_pure (fun _ => rfl)) MkL_nil apps) rfl rfl) ?_
        refine C_at .h (fun hp => V_bytes1 (u := (u8of (IntKind.i64.wrap (48 + (IntKind.i64.wrap (-(Int.tmod c3 10))))))) sl48.h ik5 str9 ty5.h.sz (.tmp rfl rfl) hp) ?_
        refine au ?_
        obtain ⟨x14, hx15, hF⟩ := bind_some hF
        obtain ⟨hq17, hz16⟩ := cat_some hx15
        refine C_val (V_concatN (s := [(u8of (IntKind.i64.wrap (48 + (IntKind.i64.wrap (-(Int.tmod c3 10))))))]) (t := c4) (u := x14) (.tmp rfl rfl) (.tmp rfl rfl) hx15) ?_
        iterate 4 refine au ?_
        refine C_val (V_quo (i := c3) (j := 10) (.tmp rfl rfl) (.int _ _) (by decide)) ?_
        iterate 2 refine au ?_
        exact ⟨m5, Nat.lt_succ_self _, _, _, _, eqA, entA, hF⟩
      rw [if_neg (nt hb23)] at hF
      iterate 4 refine au ?_
      refine C_val (V_convU8 (i := (IntKind.i64.wrap (48 + (Int.tmod c3 10)))) ik3 ik5 (.tmp rfl rfl)) ?_
      refine C_new rfl (N_buildSliceT (g := true) sl48.h ty5.h (.cons (.tmp rfl rfl) .nil) (vs := [(.int .u8 ((u8of (IntKind.i64.wrap (48 + (Int.tmod c3 10)))).toNat : Int))]) rfl rfl rfl (by intro v hv; simp at hv; rcases hv with rfl <;> rfl)) (fun k18 => ?_)
      refine Cv1 (.cons .h .nil) (own_lit (Ro := (roE rdU8)) (E := 5) (F := ([] ++ [])) (xs := ([(u8of (IntKind.i64.wrap (48 + (Int.tmod c3 10))))] : List UInt8)) (MkL_cons (Mk_pure (fun _ => rfl)) MkL_nil apps) rfl rfl) ?_
      refine C_at .h (fun hp => V_bytes1 (u := (u8of (IntKind.i64.wrap (48 + (Int.tmod c3 10))))) sl48.h ik5 str9 ty5.h.sz (.tmp rfl rfl) hp) ?_
      refine au ?_
      obtain ⟨x19, hx20, hF⟩ := bind_some hF
      obtain ⟨hq22, hz21⟩ := cat_some hx20
      refine C_val (V_concatN (s := [(u8of (IntKind.i64.wrap (48 + (Int.tmod c3 10))))]) (t := c4) (u := x19) (.tmp rfl rfl) (.tmp rfl rfl) hx20) ?_
      iterate 4 refine au ?_
      refine C_val (V_quo (i := c3) (j := 10) (.tmp rfl rfl) (.int _ _) (by decide)) ?_
      iterate 2 refine au ?_
      exact ⟨m5, Nat.lt_succ_self _, _, _, _, eqA, entA, hF⟩
    rw [if_neg (nt hb24)] at hF
    iterate 4 refine au ?_
    cases hF
    exact ⟨_, _, rfl, eqA, entA⟩
  rintro _ _ ⟨c25, g31, rfl, rfl, hE⟩
  replace hF := hO2
  clear hO2
  try dsimp only at hF
  refine K_ent hE ?_
  iterate 4 refine au ?_
  refine Cc (fun hb30 => ?_) (fun hb30 => ?_)
  · rw [if_pos hb30] at hF
    iterate 2 refine au ?_
    obtain ⟨x26, hx27, hF⟩ := bind_some hF
    obtain ⟨hq29, hz28⟩ := cat_some hx27
    refine C_val (V_concatN (s := [45]) (t := c25) (u := x26) (.sv _) (.tmp rfl rfl) hx27) ?_
    iterate 3 refine au ?_
    cases hF
    exact Er ()
  rw [if_neg (nt hb30)] at hF
  iterate 6 refine au ?_
  cases hF
  exact Er ()

/-! spec.l2List -/
def s_l2List_L1 (fuel : Nat) : List Int → Nat → (List UInt8) → Option ((List UInt8))
  | [], k5, c1 => some c1
  | x7 :: rest6, k5, c1 => (if (decide ((0 : Int) < (k5 : Int))) then (
        (cat c1 [44]).bind fun x16 =>
        (s_FormatInt fuel x7).bind fun r22 =>
        (cat x16 r22).bind fun x25 =>
        some x25)
      else (
        (s_FormatInt fuel x7).bind fun r31 =>
        (cat c1 r31).bind fun x34 =>
        some x34)).bind fun o14 =>
    match o14 with
    | c39 => s_l2List_L1 fuel rest6 (k5 + 1) c39
def s_l2List (fuel : Nat) (a_l : List Int) : Option ((List UInt8)) :=
  s_l2List_L1 fuel a_l 0 []
theorem s_l2List_ok (fuel : Nat) (a_l : List Int) (v0_0 : Sv) (R : (List UInt8)) (hF : s_l2List fuel a_l = some R) :
    Fw.Spec Tryd.prog 21 [v0_0.v] [crd (RdS 3 rdInt) v0_0.v a_l] (fun _ : Unit => (sv R)) (fun _ => []) := by
  refine Spec_enter (n := 23) Tryd.func21 rfl rfl (rs := [.tmp 2]) rfl rfl rfl ?_
  intro H0 F0
  unfold s_l2List at hF
  iterate 10 refine au ?_
  refine CW_block (CW_loop (m := a_l.length) (fun m3 f' cs' => ∃ (g : Fr) (k5 : Nat) (rest6 : List Int) (c1 : List UInt8), m3 = rest6.length ∧ f' = updL g [(0, v0_0.v), (3, (sv c1)), (4, (.int .i64 (k5 : Int)))] ∧ List.drop k5 a_l = rest6 ∧ Ent cs' [crd (RdS 3 rdInt) v0_0.v a_l] ∧ s_l2List_L1 fuel rest6 k5 c1 = some R) ⟨_, 0, _, _, rfl, eqA, rfl, entA, hF⟩ ?_)
  clear hF
  rintro m3 _ _ ⟨g4, k5, rest6, c1, rfl, rfl, hd8, hE, hF⟩
  refine K_ent hE ?_
  clear hE
  refine K_pure (c := crd (RdS 3 rdInt) v0_0.v a_l) .h crd_bound (fun hbd13 => ?_)
  rcases rest6 with _ | ⟨x7, rest6⟩
  · have hk9 := List.drop_eq_nil_iff.1 hd8
    rw [s_l2List_L1] at hF
    iterate 7 refine au ?_
    refine CdF ?_
    iterate 9 refine au ?_
    cases hF
    exact Er ()
  obtain ⟨hk9, hx10, hd11⟩ := drop_cons hd8
  rw [s_l2List_L1] at hF
  iterate 7 refine au ?_
  refine CdT ?_
  refine au ?_
  obtain ⟨o14, hio14, hO15⟩ := bind_some hF
  refine K_cut (fun f' cs' => ∃ (c39 : List UInt8) (g : Fr), c39 = o14 ∧ f' = updL g [(0, v0_0.v), (3, (sv c39)), (4, (.int .i64 (k5 : Int)))] ∧ Ent cs' [crd (RdS 3 rdInt) v0_0.v a_l]) ?_ ?_
  · replace hF := hio14
    refine CW_block (K_in (K_region (Cm (.int .i64 (k5 : Int)) rfl rfl ?_)))
    iterate 2 refine au ?_
    refine Cc (fun hb38 => ?_) (fun hb38 => ?_)
    · rw [if_pos hb38] at hF
      iterate 2 refine au ?_
      obtain ⟨x16, hx17, hF⟩ := bind_some hF
      obtain ⟨hq19, hz18⟩ := cat_some hx17
      refine C_val (V_concatN (s := c1) (t := [44]) (u := x16) (.tmp rfl rfl) (.sv _) hx17) ?_
      iterate 6 refine au ?_
      refine Ai hx10 (fun k20 j21 => ?_)
      refine Al ls3_0 ?_
      obtain ⟨r22, hx23, hF⟩ := bind_some hF
      refine Cx0 (s_FormatInt_ok _ _ _ hx23) (fun _ => ?_)
      obtain ⟨x25, hx26, hF⟩ := bind_some hF
      obtain ⟨hq28, hz27⟩ := cat_some hx26
      refine C_val (V_concatN (s := x16) (t := r22) (u := x25) (.tmp rfl rfl) (.tmp rfl rfl) hx26) ?_
      iterate 2 refine au ?_
      cases hF
      exact ⟨_, _, rfl, eqA, entA⟩
    rw [if_neg (nt hb38)] at hF
    iterate 5 refine au ?_
    refine Ai hx10 (fun k29 j30 => ?_)
    refine Al ls3_0 ?_
    obtain ⟨r31, hx32, hF⟩ := bind_some hF
    refine Cx0 (s_FormatInt_ok _ _ _ hx32) (fun _ => ?_)
    obtain ⟨x34, hx35, hF⟩ := bind_some hF
    obtain ⟨hq37, hz36⟩ := cat_some hx35
    refine C_val (V_concatN (s := c1) (t := r31) (u := x34) (.tmp rfl rfl) (.tmp rfl rfl) hx35) ?_
    iterate 2 refine au ?_
    cases hF
    exact ⟨_, _, rfl, eqA, entA⟩
  rintro _ _ ⟨c39, g41, rfl, rfl, hE⟩
  replace hF := hO15
  clear hO15
  try dsimp only at hF
  refine K_ent hE ?_
  iterate 5 refine au ?_
  rw [wk k5]
  exact ⟨_, Nat.lt_succ_self _, _, k5 + 1, rest6, _, rfl, eqA, hd11, entA, hF⟩

/-! spec.FormatAccess -/
def s_FormatAccess_L1 (a_a : Access) (fuel : Nat) : List Int → Nat → Option ((List UInt8))
  | [], k12 => (s_FormatInt fuel a_a.Method).bind fun r21 =>
    (cat [109] r21).bind fun x24 =>
    (cat x24 [40]).bind fun x28 =>
    (s_l2List fuel a_a.Values).bind fun r32 =>
    (cat x28 r32).bind fun x35 =>
    (cat x35 [41]).bind fun x39 =>
    some x39
  | x14 :: rest13, k12 => (s_l1In x14 0 9).bind fun r45 =>
    if (!r45) then (
      some [])
    else (
      s_FormatAccess_L1 a_a fuel rest13 (k12 + 1))
def s_FormatAccess (fuel : Nat) (a_a : Access) : Option ((List UInt8)) :=
  ((s_l1In a_a.Method 0 4).bind fun r4 =>
    bif (!r4) then (some true)
    else (some (decide ((3 : Int) < (a_a.Values.length : Int))))).bind fun o2 =>
  match o2 with
  | c8 => if c8 then (
      some [])
    else (
      s_FormatAccess_L1 a_a fuel a_a.Values 0)
theorem s_FormatAccess_ok (fuel : Nat) (a_a : Access) (v0_1 : Sv) (R : (List UInt8)) (hF : s_FormatAccess fuel a_a = some R) :
    Fw.Spec Tryd.prog 13 [(.agg [(.int .i64 a_a.Method), v0_1.v].toArray)] [crd (RdS 3 rdInt) v0_1.v a_a.Values] (fun _ : Unit => (sv R)) (fun _ => []) := by
  refine Spec_enter (n := 38) Tryd.func13 rfl rfl (rs := [.tmp 2]) rfl rfl rfl ?_
  intro H0 F0
  unfold s_FormatAccess at hF
  refine au ?_
  refine AbR (fun k1 => ?_)
  iterate 3 refine au ?_
  obtain ⟨o2, hio2, hO3⟩ := bind_some hF
  refine au ?_
  refine C_cut (fun f' cs' => ∃ (c8 : Bool) (g : Fr), c8 = o2 ∧ f' = updL g [(1, (.pointer (some ⟨k1, 0, some 0⟩))), (13, (.bool c8))] ∧ Ent cs' [cboR k1 35 (.agg [(.int .i64 a_a.Method), v0_1.v].toArray), crd (RdS 3 rdInt) v0_1.v a_a.Values]) ?_ ?_
  · replace hF := hio2
    iterate 2 refine au ?_
    obtain ⟨r4, hx5, hF⟩ := bind_some hF
    refine Cx0 (s_l1In_ok _ _ _ _ hx5) (fun _ => ?_)
    iterate 2 refine au ?_
    rcases Bool.eq_false_or_eq_true (!r4) with hg7 | hg7
    · rw [hg7]
      try rw [hg7] at hF; dsimp only [cond_true, cond_false] at hF
      iterate 6 refine au ?_
      cases hF
      exact ⟨_, _, rfl, eqA, entA⟩
    rw [hg7]
    try rw [hg7] at hF; dsimp only [cond_true, cond_false] at hF
    iterate 10 refine au ?_
    cases hF
    exact ⟨_, _, rfl, eqA, entA⟩
  rintro _ _ ⟨c8, g51, rfl, rfl, hE⟩
  replace hF := hO3
  clear hO3
  try dsimp only at hF
  refine K_ent hE ?_
  refine Cc (fun hb50 => ?_) (fun hb50 => ?_)
  · rw [if_pos hb50] at hF
    iterate 4 refine au ?_
    cases hF
    exact Er ()
  rw [if_neg (nt hb50)] at hF
  iterate 5 refine au ?_
  refine CW_block (CW_loop (m := a_a.Values.length) (fun m10 f' cs' => ∃ (g : Fr) (k12 : Nat) (rest13 : List Int), m10 = rest13.length ∧ f' = updL g [(1, (.pointer (some ⟨k1, 0, some 0⟩))), (3, (.int .i64 (k12 : Int)))] ∧ List.drop k12 a_a.Values = rest13 ∧ Ent cs' [cboR k1 35 (.agg [(.int .i64 a_a.Method), v0_1.v].toArray), crd (RdS 3 rdInt) v0_1.v a_a.Values] ∧ s_FormatAccess_L1 a_a fuel rest13 k12 = some R) ⟨_, 0, _, rfl, eqA, rfl, entA, hF⟩ ?_)
  clear hF
  rintro m10 _ _ ⟨g11, k12, rest13, rfl, rfl, hd15, hE, hF⟩
  refine K_ent hE ?_
  clear hE
  refine K_pure (c := crd (RdS 3 rdInt) v0_1.v a_a.Values) (.t .h) crd_bound (fun hbd20 => ?_)
  rcases rest13 with _ | ⟨x14, rest13⟩
  · have hk16 := List.drop_eq_nil_iff.1 hd15
    rw [s_FormatAccess_L1] at hF
    iterate 8 refine au ?_
    refine CdF ?_
    iterate 4 refine au ?_
    refine K_draw [0, 1, 5, 6, 2, 3, 4, 7, 8, 9, 10] [0, 1, 3, 7, 15, 0, 32, 103, 255, 511, 1023] [2, 7] mixed (by decide +kernel) ?_
    iterate 4 refine du ?_
    obtain ⟨r21, hx22, hF⟩ := bind_some hF
    refine Dx0 (s_FormatInt_ok _ _ _ hx22) (fun _ => ?_)
    obtain ⟨x24, hx25, hF⟩ := bind_some hF
    obtain ⟨hq27, hz26⟩ := cat_some hx25
    refine D_val rfl .no (fun ha => V_concatN (s := [109]) (t := r21) (u := x24) (EN ha (.sv _) rfl) (EN ha (.tmp rfl rfl) rfl) hx25) ?_
    obtain ⟨x28, hx29, hF⟩ := bind_some hF
    obtain ⟨hq31, hz30⟩ := cat_some hx29
    refine D_val rfl .no (fun ha => V_concatN (s := x24) (t := [40]) (u := x28) (EN ha (.tmp rfl rfl) rfl) (EN ha (.sv _) rfl) hx29) ?_
    obtain ⟨r32, hx33, hF⟩ := bind_some hF
    refine Dx0 (s_l2List_ok _ _ _ _ hx33) (fun _ => ?_)
    obtain ⟨x35, hx36, hF⟩ := bind_some hF
    obtain ⟨hq38, hz37⟩ := cat_some hx36
    refine D_val rfl .no (fun ha => V_concatN (s := x28) (t := r32) (u := x35) (EN ha (.tmp rfl rfl) rfl) (EN ha (.tmp rfl rfl) rfl) hx36) ?_
    obtain ⟨x39, hx40, hF⟩ := bind_some hF
    obtain ⟨hq42, hz41⟩ := cat_some hx40
    refine D_val rfl .no (fun ha => V_concatN (s := x35) (t := [41]) (u := x39) (EN ha (.tmp rfl rfl) rfl) (EN ha (.sv _) rfl) hx40) ?_
    iterate 2 refine du ?_
    refine au ?_
    cases hF
    exact Er ()
  obtain ⟨hk16, hx17, hd18⟩ := drop_cons hd15
  rw [s_FormatAccess_L1] at hF
  iterate 8 refine au ?_
  refine CdT ?_
  iterate 6 refine au ?_
  refine Ai hx17 (fun k43 j44 => ?_)
  refine Al ls3_0 ?_
  obtain ⟨r45, hx46, hF⟩ := bind_some hF
  refine Cx0 (s_l1In_ok _ _ _ _ hx46) (fun _ => ?_)
  iterate 2 refine au ?_
  refine Cc (fun hb49 => ?_) (fun hb49 => ?_)
  · rw [if_pos hb49] at hF
    iterate 4 refine au ?_
    cases hF
    exact Er ()
  rw [if_neg (nt hb49)] at hF
  iterate 6 refine au ?_
  rw [wk k12]
  exact ⟨_, Nat.lt_succ_self _, _, k12 + 1, rest13, rfl, eqA, hd18, entA, hF⟩

/-! spec.FormatLog -/
def s_FormatLog_L1 (fuel : Nat) : List Access → Nat → (List UInt8) → Option ((List UInt8))
  | [], k5, c1 => if (c1 == []) then (
      some [110, 111, 110, 101])
    else (
      some c1)
  | x7 :: rest6, k5, c1 => (((s_FormatAccess fuel x7).bind fun r20 =>
      if (r20 == []) then (
        some (.inl []))
      else (
        if (decide ((0 : Int) < (k5 : Int))) then (
          (cat c1 [32]).bind fun x23 =>
          (cat x23 r20).bind fun x27 =>
          some (.inr x27))
        else (
          (cat c1 r20).bind fun x31 =>
          some (.inr x31)))) : Option (Sum ((List UInt8)) ((List UInt8)))).bind fun o15 =>
    match o15 with
    | .inl r => some r
    | .inr c37 => s_FormatLog_L1 fuel rest6 (k5 + 1) c37
def s_FormatLog (fuel : Nat) (a_log : List Access) : Option ((List UInt8)) :=
  s_FormatLog_L1 fuel a_log 0 []
theorem s_FormatLog_ok (fuel : Nat) (a_log : List Access) (v0_0 : Sv) (R : (List UInt8)) (hF : s_FormatLog fuel a_log = some R) :
    Fw.Spec Tryd.prog 6 [v0_0.v] [crd (RdS 35 rd35) v0_0.v a_log] (fun _ : Unit => (sv R)) (fun _ => []) := by
  refine Spec_enter (n := 29) Tryd.func6 rfl rfl (rs := [.tmp 2]) rfl rfl rfl ?_
  intro H0 F0
  unfold s_FormatLog at hF
  iterate 10 refine au ?_
  refine CW_block (CW_loop (m := a_log.length) (fun m3 f' cs' => ∃ (g : Fr) (k5 : Nat) (rest6 : List Access) (c1 : List UInt8), m3 = rest6.length ∧ f' = updL g [(0, v0_0.v), (3, (sv c1)), (4, (.int .i64 (k5 : Int)))] ∧ List.drop k5 a_log = rest6 ∧ Ent cs' [crd (RdS 35 rd35) v0_0.v a_log] ∧ s_FormatLog_L1 fuel rest6 k5 c1 = some R) ⟨_, 0, _, _, rfl, eqA, rfl, entA, hF⟩ ?_)
  clear hF
  rintro m3 _ _ ⟨g4, k5, rest6, c1, rfl, rfl, hd8, hE, hF⟩
  refine K_ent hE ?_
  clear hE
  refine K_pure (c := crd (RdS 35 rd35) v0_0.v a_log) .h crd_bound (fun hbd13 => ?_)
  rcases rest6 with _ | ⟨x7, rest6⟩
  · have hk9 := List.drop_eq_nil_iff.1 hd8
    rw [s_FormatLog_L1] at hF
    iterate 7 refine au ?_
    refine CdF ?_
    iterate 7 refine au ?_
    refine C_val (V_eqT (s := c1) (t := []) (.tmp rfl rfl) (.sv _)) ?_
    refine au ?_
    refine Cc (fun hb14 => ?_) (fun hb14 => ?_)
    · rw [if_pos hb14] at hF
      iterate 4 refine au ?_
      cases hF
      exact Er ()
    rw [if_neg (nt hb14)] at hF
    iterate 6 refine au ?_
    cases hF
    exact Er ()
  obtain ⟨hk9, hx10, hd11⟩ := drop_cons hd8
  rw [s_FormatLog_L1] at hF
  iterate 7 refine au ?_
  refine CdT ?_
  refine au ?_
  obtain ⟨o15, hio15, hO16⟩ := bind_some hF
  refine K_cut (fun f' cs' => ∃ (c37 : List UInt8) (g : Fr), o15 = .inr c37 ∧ f' = updL g [(0, v0_0.v), (3, (sv c37)), (4, (.int .i64 (k5 : Int)))] ∧ Ent cs' [crd (RdS 35 rd35) v0_0.v a_log]) ?_ ?_
  · replace hF := hio15
    refine CW_block (K_region (Cm v0_0.v rfl rfl ?_))
    refine au ?_
    refine Ai hx10 (fun k17 j18 => ?_)
    refine AlA1 (ul35_0_35 x7) la35_0_35 (fun p19 => ?_)
    obtain ⟨r20, hx21, hF⟩ := bind_some hF
    refine Cx0 (s_FormatAccess_ok _ _ _ _ hx21) (fun _ => ?_)
    iterate 5 refine au ?_
    refine C_val (V_eqT (s := r20) (t := []) (.tmp rfl rfl) (.sv _)) ?_
    refine au ?_
    refine Cc (fun hb36 => ?_) (fun hb36 => ?_)
    · rw [if_pos hb36] at hF
      iterate 4 refine au ?_
      cases hF
      replace hF := hO16
      try dsimp only at hF
      cases hF
      exact Er ()
    rw [if_neg (nt hb36)] at hF
    iterate 6 refine au ?_
    refine Cc (fun hb35 => ?_) (fun hb35 => ?_)
    · rw [if_pos hb35] at hF
      iterate 2 refine au ?_
      obtain ⟨x23, hx24, hF⟩ := bind_some hF
      obtain ⟨hq26, hz25⟩ := cat_some hx24
      refine C_val (V_concatN (s := c1) (t := [32]) (u := x23) (.tmp rfl rfl) (.sv _) hx24) ?_
      iterate 5 refine au ?_
      obtain ⟨x27, hx28, hF⟩ := bind_some hF
      obtain ⟨hq30, hz29⟩ := cat_some hx28
      refine C_val (V_concatN (s := x23) (t := r20) (u := x27) (.tmp rfl rfl) (.tmp rfl rfl) hx28) ?_
      iterate 2 refine au ?_
      cases hF
      exact ⟨_, _, rfl, eqA, entA⟩
    rw [if_neg (nt hb35)] at hF
    iterate 4 refine au ?_
    obtain ⟨x31, hx32, hF⟩ := bind_some hF
    obtain ⟨hq34, hz33⟩ := cat_some hx32
    refine C_val (V_concatN (s := c1) (t := r20) (u := x31) (.tmp rfl rfl) (.tmp rfl rfl) hx32) ?_
    iterate 2 refine au ?_
    cases hF
    exact ⟨_, _, rfl, eqA, entA⟩
  rintro _ _ ⟨c37, g39, rfl, rfl, hE⟩
  replace hF := hO16
  clear hO16
  try dsimp only at hF
  refine K_ent hE ?_
  iterate 5 refine au ?_
  rw [wk k5]
  exact ⟨_, Nat.lt_succ_self _, _, k5 + 1, rest6, _, rfl, eqA, hd11, entA, hF⟩

/-! spec.ViewDigest -/
def s_ViewDigest_L1 (r1 : (List UInt8)) : Nat → Int → Int → Option (Int)
  | 0, _, _ => none
  | m6 + 1, c4, c5 => if (decide ((c5 : Int) < (r1.length : Int))) then (
      (ix r1 c5).bind fun u14 =>
      s_ViewDigest_L1 r1 m6 (Int.tmod (IntKind.i64.wrap ((IntKind.i64.wrap (c4 * 257)) + (u14.toNat : Int))) 1000003) (IntKind.i64.wrap (c5 + 1)))
    else (
      some c4)
def s_ViewDigest (fuel : Nat) (a_log : List Access) : Option (Int) :=
  (s_FormatLog fuel a_log).bind fun r1 =>
  s_ViewDigest_L1 r1 (((r1.length : Int) - 0).toNat + 2) 1 0
theorem s_ViewDigest_ok (fuel : Nat) (a_log : List Access) (v0_0 : Sv) (R : Int) (hF : s_ViewDigest fuel a_log = some R) :
    Fw.Spec Tryd.prog 10 [v0_0.v] [crd (RdS 35 rd35) v0_0.v a_log] (fun _ : Unit => (.int .i64 R)) (fun _ => []) := by
  refine Spec_enter (n := 23) Tryd.func10 rfl rfl (rs := [.tmp 2]) rfl rfl rfl ?_
  intro H0 F0
  unfold s_ViewDigest at hF
  iterate 5 refine au ?_
  obtain ⟨r1, hx2, hF⟩ := bind_some hF
  refine Cx0 (s_FormatLog_ok _ _ _ _ hx2) (fun _ => ?_)
  iterate 9 refine au ?_
  refine CW_block (CW_loop (m := (((r1.length : Int) - 0).toNat + 2)) (fun m6 f' cs' => ∃ (g : Fr) (c4 : Int) (c5 : Int), f' = updL g [(3, (sv r1)), (4, (.int .i64 c4)), (5, (.int .i64 c5))] ∧ Ent cs' [] ∧ s_ViewDigest_L1 r1 m6 c4 c5 = some R) ⟨_, _, _, eqA, entA, hF⟩ ?_)
  clear hF
  rintro m6 _ _ ⟨g7, c4, c5, rfl, hE, hF⟩
  refine K_ent hE ?_
  clear hE
  rcases m6 with _ | m6
  · rw [s_ViewDigest_L1] at hF
    exact absurd hF (by simp)
  rw [s_ViewDigest_L1] at hF
  iterate 4 refine au ?_
  refine C_val (V_lenStr (s := r1) st9 (.tmp rfl rfl)) ?_
  iterate 2 refine au ?_
  refine Cc (fun hb18 => ?_) (fun hb18 => ?_)
  · rw [if_pos hb18] at hF
    iterate 7 refine au ?_
    obtain ⟨u14, hx15, hF⟩ := bind_some hF
    obtain ⟨hp16, hx17⟩ := ix_some hx15
    refine C_val (V_indexT (u := u14) st9 (.tmp rfl rfl) (.tmp rfl rfl) hp16 hx17) ?_
    refine C_val (V_convFromU8 (u := u14) ik5 ik3 (.tmp rfl rfl)) ?_
    refine au ?_
    refine C_val (V_rem (i := (IntKind.i64.wrap ((IntKind.i64.wrap (c4 * 257)) + (u14.toNat : Int)))) (j := 1000003) (.tmp rfl rfl) (.int _ _) (by decide)) ?_
    iterate 7 refine au ?_
    exact ⟨m6, Nat.lt_succ_self _, _, _, _, eqA, entA, hF⟩
  rw [if_neg (nt hb18)] at hF
  iterate 9 refine au ?_
  cases hF
  exact Er ()

/-! strings.Join -/
def g_strings_Join (a_e : List (List UInt8)) (a_sep : List UInt8) : Option (List UInt8) :=
  if a_e.length < 4294967296 ∧ (Lib.join a_e a_sep).length < 4294967296 then some (Lib.join a_e a_sep) else none
theorem g_strings_Join_ok (a_e : List (List UInt8)) (v0_0 : Sv) (a_sep : List UInt8) (R : List UInt8) (hF : g_strings_Join a_e a_sep = some R) :
    Fw.Spec Tryd.prog 16 [v0_0.v, sv a_sep] [crd (RdS 9 rdStr) v0_0.v a_e] (fun _ : Unit => (sv R)) (fun _ => []) := by
  unfold g_strings_Join at hF
  split at hF
  · rename_i h
    cases hF
    exact Spec_join ty9.h.sz (Go.Proofs.Any.strings_Join_none lays156 extra) (Go.Proofs.Any.strings_Join lays156 extra) h.1 h.2
  · simp at hF

/-! impl.within -/
def i_within (a_n : Int) (a_low : Int) (a_high : Int) : Option (Bool) :=
  some ((decide ((a_low : Int) ≤ a_n)) && (decide ((a_n : Int) ≤ a_high)))
theorem i_within_ok (a_n : Int) (a_low : Int) (a_high : Int) (R : Bool) (hF : i_within a_n a_low a_high = some R) :
    Fw.Spec Tryd.prog 23 [(.int .i64 a_n), (.int .i64 a_low), (.int .i64 a_high)] [] (fun _ : Unit => (.bool R)) (fun _ => []) := by
  refine Spec_enter (n := 15) Tryd.func23 rfl rfl (rs := [.tmp 6]) rfl rfl rfl ?_
  intro H0 F0
  unfold i_within at hF
  iterate 4 refine au ?_
  refine C_cut (fun f' cs' => ∃ (g : Fr), f' = updL g [(6, (.bool ((decide ((a_low : Int) ≤ a_n)) && (decide ((a_n : Int) ≤ a_high)))))] ∧ Ent cs' []) ?_ ?_
  · iterate 4 refine au ?_
    rcases Bool.eq_false_or_eq_true (decide ((a_low : Int) ≤ a_n)) with hg1 | hg1
    · rw [hg1]
      try rw [hg1] at hF; dsimp only [cond_true, cond_false] at hF
      iterate 9 refine au ?_
      exact ⟨_, eqA, entA⟩
    rw [hg1]
    try rw [hg1] at hF; dsimp only [cond_true, cond_false] at hF
    iterate 6 refine au ?_
    exact ⟨_, eqA, entA⟩
  rintro _ _ ⟨g2, rfl, hE⟩
  refine K_ent hE ?_
  refine au ?_
  cases hF
  exact Er ()

/-! impl.isValue -/
def i_isValue (a_n : Int) : Option (Bool) :=
  (i_within a_n 0 9).bind fun r1 =>
  some r1
theorem i_isValue_ok (a_n : Int) (R : Bool) (hF : i_isValue a_n = some R) :
    Fw.Spec Tryd.prog 33 [(.int .i64 a_n)] [] (fun _ : Unit => (.bool R)) (fun _ => []) := by
  refine Spec_enter (n := 5) Tryd.func33 rfl rfl (rs := [.tmp 2]) rfl rfl rfl ?_
  intro H0 F0
  unfold i_isValue at hF
  iterate 5 refine au ?_
  obtain ⟨r1, hx2, hF⟩ := bind_some hF
  refine Cx0 (i_within_ok _ _ _ _ hx2) (fun _ => ?_)
  iterate 3 refine au ?_
  cases hF
  exact Er ()

/-! impl.areValues$1 -/
def i_areValues_1 (a_n : Int) : Option (Bool) :=
  (i_isValue a_n).bind fun r1 =>
  some (!r1)
theorem i_areValues_1_ok (a_n : Int) (R : Bool) (hF : i_areValues_1 a_n = some R) :
    Fw.Spec Tryd.prog 32 [(.int .i64 a_n)] [] (fun _ : Unit => (.bool R)) (fun _ => []) := by
  refine Spec_enter (n := 6) Tryd.func32 rfl rfl (rs := [.tmp 2]) rfl rfl rfl ?_
  intro H0 F0
  unfold i_areValues_1 at hF
  iterate 5 refine au ?_
  obtain ⟨r1, hx2, hF⟩ := bind_some hF
  refine Cx0 (i_isValue_ok _ _ hx2) (fun _ => ?_)
  iterate 4 refine au ?_
  cases hF
  exact Er ()

/-! slices.IndexFunc[[]int,int] -/
def g_slices_IndexFunc_int_int_iareValues1_L1 : List Int → Nat → Option (Int)
  | [], k4 => some (-1)
  | x6 :: rest5, k4 => (i_areValues_1 x6).bind fun r15 =>
    if r15 then (
      some (k4 : Int))
    else (
      g_slices_IndexFunc_int_int_iareValues1_L1 rest5 (k4 + 1))
def g_slices_IndexFunc_int_int_iareValues1 (a_s : List Int) : Option (Int) :=
  g_slices_IndexFunc_int_int_iareValues1_L1 a_s 0
theorem g_slices_IndexFunc_int_int_iareValues1_ok (a_s : List Int) (v0_0 : Sv) (R : Int) (hF : g_slices_IndexFunc_int_int_iareValues1 a_s = some R) :
    Fw.Spec Tryd.prog 37 [v0_0.v, (.func (.func 32) [].toArray [].toArray)] [crd (RdS 3 rdInt) v0_0.v a_s] (fun _ : Unit => (.int .i64 R)) (fun _ => []) := by
  refine Spec_enter (n := 19) Tryd.func37 rfl rfl (rs := [.tmp 4]) rfl rfl rfl ?_
  intro H0 F0
  unfold g_slices_IndexFunc_int_int_iareValues1 at hF
  iterate 9 refine au ?_
  refine CW_block (CW_loop (m := a_s.length) (fun m2 f' cs' => ∃ (g : Fr) (k4 : Nat) (rest5 : List Int), m2 = rest5.length ∧ f' = updL g [(0, v0_0.v), (1, (.func (.func 32) [].toArray [].toArray)), (7, (.int .i64 (a_s.length : Int))), (8, (.int .i64 (k4 : Int)))] ∧ List.drop k4 a_s = rest5 ∧ Ent cs' [crd (RdS 3 rdInt) v0_0.v a_s] ∧ g_slices_IndexFunc_int_int_iareValues1_L1 rest5 k4 = some R) ⟨_, 0, _, rfl, eqA, rfl, entA, hF⟩ ?_)
  clear hF
  rintro m2 _ _ ⟨g3, k4, rest5, rfl, rfl, hd7, hE, hF⟩
  refine K_ent hE ?_
  clear hE
  refine K_pure (c := crd (RdS 3 rdInt) v0_0.v a_s) .h crd_bound (fun hbd12 => ?_)
  rcases rest5 with _ | ⟨x6, rest5⟩
  · have hk8 := List.drop_eq_nil_iff.1 hd7
    rw [g_slices_IndexFunc_int_int_iareValues1_L1] at hF
    iterate 4 refine au ?_
    refine CdF ?_
    iterate 8 refine au ?_
    cases hF
    exact Er ()
  obtain ⟨hk8, hx9, hd10⟩ := drop_cons hd7
  rw [g_slices_IndexFunc_int_int_iareValues1_L1] at hF
  iterate 4 refine au ?_
  refine CdT ?_
  iterate 10 refine au ?_
  refine Ai hx9 (fun k13 j14 => ?_)
  refine Al ls3_0 ?_
  obtain ⟨r15, hx16, hF⟩ := bind_some hF
  refine C_x0 .nil (X_callCS cf32.h (.tmp rfl rfl) (.cons (.tmp rfl rfl) .nil) (i_areValues_1_ok x6 _ hx16)) (fun _ => ?_)
  refine au ?_
  refine Cc (fun hb19 => ?_) (fun hb19 => ?_)
  · rw [if_pos hb19] at hF
    iterate 5 refine au ?_
    cases hF
    exact Er ()
  rw [if_neg (nt hb19)] at hF
  iterate 5 refine au ?_
  rw [wk k4]
  exact ⟨_, Nat.lt_succ_self _, _, k4 + 1, rest5, rfl, eqA, hd10, entA, hF⟩

/-! slices.ContainsFunc[[]int,int] -/
def g_slices_ContainsFunc_int_int_iareValues1 (a_s : List Int) : Option (Bool) :=
  (g_slices_IndexFunc_int_int_iareValues1 a_s).bind fun r1 =>
  some (decide ((0 : Int) ≤ r1))
theorem g_slices_ContainsFunc_int_int_iareValues1_ok (a_s : List Int) (v0_0 : Sv) (R : Bool) (hF : g_slices_ContainsFunc_int_int_iareValues1 a_s = some R) :
    Fw.Spec Tryd.prog 31 [v0_0.v, (.func (.func 32) [].toArray [].toArray)] [crd (RdS 3 rdInt) v0_0.v a_s] (fun _ : Unit => (.bool R)) (fun _ => []) := by
  refine Spec_enter (n := 9) Tryd.func31 rfl rfl (rs := [.tmp 4]) rfl rfl rfl ?_
  intro H0 F0
  unfold g_slices_ContainsFunc_int_int_iareValues1 at hF
  iterate 6 refine au ?_
  obtain ⟨r1, hx2, hF⟩ := bind_some hF
  refine Cx0 (g_slices_IndexFunc_int_int_iareValues1_ok _ _ _ hx2) (fun _ => ?_)
  iterate 4 refine au ?_
  cases hF
  exact Er ()

/-! impl.areValues -/
def i_areValues (a_l : List Int) : Option (Bool) :=
  (g_slices_ContainsFunc_int_int_iareValues1 a_l).bind fun r1 =>
  some (!r1)
theorem i_areValues_ok (a_l : List Int) (v0_0 : Sv) (R : Bool) (hF : i_areValues a_l = some R) :
    Fw.Spec Tryd.prog 24 [v0_0.v] [crd (RdS 3 rdInt) v0_0.v a_l] (fun _ : Unit => (.bool R)) (fun _ => []) := by
  refine Spec_enter (n := 6) Tryd.func24 rfl rfl (rs := [.tmp 2]) rfl rfl rfl ?_
  intro H0 F0
  unfold i_areValues at hF
  iterate 5 refine au ?_
  obtain ⟨r1, hx2, hF⟩ := bind_some hF
  refine Cx0 (g_slices_ContainsFunc_int_int_iareValues1_ok _ _ _ hx2) (fun _ => ?_)
  iterate 4 refine au ?_
  cases hF
  exact Er ()

/-! strconv.Itoa -/
def g_strconv_Itoa (a_n : Int) : Option (List UInt8) :=
  if -9223372036854775808 ≤ a_n ∧ a_n ≤ 9223372036854775807 then some (Lib.itoa a_n) else none
theorem g_strconv_Itoa_ok (a_n : Int) (R : List UInt8) (hF : g_strconv_Itoa a_n = some R) :
    Fw.Spec Tryd.prog 34 [.int .i64 a_n] [] (fun _ : Unit => (sv R)) (fun _ => []) := by
  unfold g_strconv_Itoa at hF
  split at hF
  · rename_i h
    cases hF
    exact Spec_itoa fun w hv => Go.Proofs.Any.strconv_Itoa laysM171 a_n h.1 h.2 w (Vok.var (fun _ h => h) hv.choose_spec)
  · simp at hF

/-! impl.FormatInt -/
def i_FormatInt (a_n : Int) : Option ((List UInt8)) :=
  (g_strconv_Itoa a_n).bind fun r1 =>
  some r1
theorem i_FormatInt_ok (a_n : Int) (R : (List UInt8)) (hF : i_FormatInt a_n = some R) :
    Fw.Spec Tryd.prog 25 [(.int .i64 a_n)] [] (fun _ : Unit => (sv R)) (fun _ => []) := by
  refine Spec_enter (n := 5) Tryd.func25 rfl rfl (rs := [.tmp 2]) rfl rfl rfl ?_
  intro H0 F0
  unfold i_FormatInt at hF
  iterate 5 refine au ?_
  obtain ⟨r1, hx2, hF⟩ := bind_some hF
  refine Cx0 (g_strconv_Itoa_ok _ _ hx2) (fun _ => ?_)
  iterate 3 refine au ?_
  cases hF
  exact Er ()

/-! impl.joined -/
def i_joined_L1 (a_by : List UInt8) : List Int → Nat → (List (List UInt8)) → Option ((List UInt8))
  | [], k8, c2 => (g_strings_Join c2 a_by).bind fun r17 =>
    some r17
  | x10 :: rest9, k8, c2 => (i_FormatInt x10).bind fun r22 =>
    (app c2 ([r22] : List (List UInt8))).bind fun z26 =>
    i_joined_L1 a_by rest9 (k8 + 1) z26
def i_joined (a_l : List Int) (a_by : List UInt8) : Option ((List UInt8)) :=
  i_joined_L1 a_by a_l 0 ([] : List (List UInt8))
theorem i_joined_ok (a_l : List Int) (v0_0 : Sv) (a_by : List UInt8) (R : (List UInt8)) (hF : i_joined a_l a_by = some R) :
    Fw.Spec Tryd.prog 26 [v0_0.v, (sv a_by)] [crd (RdS 3 rdInt) v0_0.v a_l] (fun _ : Unit => (sv R)) (fun _ => []) := by
  refine Spec_enter (n := 24) Tryd.func26 rfl rfl (rs := [.tmp 4]) rfl rfl rfl ?_
  intro H0 F0
  unfold i_joined at hF
  iterate 4 refine au ?_
  refine C_new rfl (N_buildSliceT (g := true) sl37.h ty9.h .nil (vs := []) rfl rfl rfl (by simp)) (fun k1 => ?_)
  refine Cv1 (.cons .h .nil) (own_lit (Ro := (roE rdStr)) (E := 9) (F := []) (xs := ([] : List (List UInt8))) MkL_nil rfl rfl) ?_
  iterate 8 refine au ?_
  refine CW_block (CW_loop (m := a_l.length) (fun m6 f' cs' => ∃ (g : Fr) (k8 : Nat) (rest9 : List Int) (c2 : List (List UInt8)) (v3 : Sv) (F4 : List Nat), m6 = rest9.length ∧ f' = updL g [(1, (sv a_by)), (5, v3.v), (9, v0_0.v), (10, (.int .i64 (a_l.length : Int))), (11, (.int .i64 (k8 : Int)))] ∧ List.drop k8 a_l = rest9 ∧ Ent cs' [cown (OwnS 9 (roE rdStr)) F4 v3.v c2, crd (RdS 3 rdInt) v0_0.v a_l] ∧ i_joined_L1 a_by rest9 k8 c2 = some R) ⟨_, 0, _, _, ⟨(some ⟨k1, 0, none⟩), 0, 1⟩, (k1 :: []), rfl, eqA, rfl, entA, hF⟩ ?_)
  clear hF
  rintro m6 _ _ ⟨g7, k8, rest9, c2, v3, F4, rfl, rfl, hd11, hE, hF⟩
  refine K_ent hE ?_
  clear hE
  refine K_pure (c := crd (RdS 3 rdInt) v0_0.v a_l) (.t .h) crd_bound (fun hbd16 => ?_)
  rcases rest9 with _ | ⟨x10, rest9⟩
  · have hk12 := List.drop_eq_nil_iff.1 hd11
    rw [i_joined_L1] at hF
    iterate 4 refine au ?_
    refine CdF ?_
    iterate 7 refine au ?_
    obtain ⟨r17, hx18, hF⟩ := bind_some hF
    refine C_x1 (.cons .h .nil) (XC_borL (pre := []) (.cons frz_own .nil) (fun _ => .nil) (X_callS cf16.h (.cons (.tmp rfl rfl) (.cons (.tmp rfl rfl) .nil)) (g_strings_Join_ok c2 v3 a_by _ hx18))) (fun _ => ?_)
    iterate 3 refine au ?_
    cases hF
    exact Er ()
  obtain ⟨hk12, hx13, hd14⟩ := drop_cons hd11
  rw [i_joined_L1] at hF
  iterate 4 refine au ?_
  refine CdT ?_
  iterate 3 refine au ?_
  refine Ai hx13 (fun k20 j21 => ?_)
  refine Al ls3_0 ?_
  iterate 5 refine au ?_
  obtain ⟨r22, hx23, hF⟩ := bind_some hF
  refine Cx0 (i_FormatInt_ok _ _ hx23) (fun _ => ?_)
  refine C_new rfl (N_buildSliceT (g := true) sl37.h ty9.h (.cons (.tmp rfl rfl) .nil) (vs := [(sv r22)]) rfl rfl rfl (by intro v hv; simp at hv; rcases hv with rfl <;> rfl)) (fun k25 => ?_)
  refine Cv1 (.cons .h .nil) (own_lit (Ro := (roE rdStr)) (E := 9) (F := ([] ++ [])) (xs := ([r22] : List (List UInt8))) (MkL_cons (Mk_pure (fun _ => rfl)) MkL_nil apps) rfl rfl) ?_
  obtain ⟨z26, hx27, hF⟩ := bind_some hF
  refine C_x1 (.cons (.t (.t .h)) (.cons .h .nil)) (X_appendO (Ro := (roE rdStr)) sl37.h ni37 ty9.h rfl rfl rfl (.tmp rfl rfl) (.tmp rfl rfl) hx27 src_own) (fun p28 => ?_)
  iterate 6 refine au ?_
  rw [wk k8]
  exact ⟨_, Nat.lt_succ_self _, _, k8 + 1, rest9, _, p28.1, p28.2, rfl, eqA, hd14, entA, hF⟩

/-! impl.FormatAccess -/
def i_FormatAccess (a_a : Access) : Option ((List UInt8)) :=
  ((i_within a_a.Method 0 4).bind fun r4 =>
    bif (!r4) then (some true)
    else (bif (decide ((3 : Int) < (a_a.Values.length : Int))) then (some true)
      else ((i_areValues a_a.Values).bind fun r9 =>
        some (!r9)))).bind fun o2 =>
  match o2 with
  | c12 => if c12 then (
      some [])
    else (
      (i_FormatInt a_a.Method).bind fun r13 =>
      (cat [109] r13).bind fun x16 =>
      (cat x16 [40]).bind fun x20 =>
      (i_joined a_a.Values [44]).bind fun r24 =>
      (cat x20 r24).bind fun x27 =>
      (cat x27 [41]).bind fun x31 =>
      some x31)
theorem i_FormatAccess_ok (a_a : Access) (v0_1 : Sv) (R : (List UInt8)) (hF : i_FormatAccess a_a = some R) :
    Fw.Spec Tryd.prog 15 [(.agg [(.int .i64 a_a.Method), v0_1.v].toArray)] [crd (RdS 3 rdInt) v0_1.v a_a.Values] (fun _ : Unit => (sv R)) (fun _ => []) := by
  refine Spec_enter (n := 29) Tryd.func15 rfl rfl (rs := [.tmp 2]) rfl rfl rfl ?_
  intro H0 F0
  unfold i_FormatAccess at hF
  refine au ?_
  refine AbR (fun k1 => ?_)
  iterate 3 refine au ?_
  obtain ⟨o2, hio2, hO3⟩ := bind_some hF
  refine au ?_
  refine C_cut (fun f' cs' => ∃ (c12 : Bool) (g : Fr), c12 = o2 ∧ f' = updL g [(1, (.pointer (some ⟨k1, 0, some 0⟩))), (18, (.bool c12))] ∧ Ent cs' [cboR k1 35 (.agg [(.int .i64 a_a.Method), v0_1.v].toArray), crd (RdS 3 rdInt) v0_1.v a_a.Values]) ?_ ?_
  · replace hF := hio2
    iterate 2 refine au ?_
    obtain ⟨r4, hx5, hF⟩ := bind_some hF
    refine Cx0 (i_within_ok _ _ _ _ hx5) (fun _ => ?_)
    iterate 2 refine au ?_
    rcases Bool.eq_false_or_eq_true (!r4) with hg7 | hg7
    · rw [hg7]
      try rw [hg7] at hF; dsimp only [cond_true, cond_false] at hF
      iterate 12 refine au ?_
      cases hF
      exact ⟨_, _, rfl, eqA, entA⟩
    rw [hg7]
    try rw [hg7] at hF; dsimp only [cond_true, cond_false] at hF
    iterate 10 refine au ?_
    rcases Bool.eq_false_or_eq_true (decide ((3 : Int) < (a_a.Values.length : Int))) with hg8 | hg8
    · rw [hg8]
      try rw [hg8] at hF; dsimp only [cond_true, cond_false] at hF
      iterate 6 refine au ?_
      cases hF
      exact ⟨_, _, rfl, eqA, entA⟩
    rw [hg8]
    try rw [hg8] at hF; dsimp only [cond_true, cond_false] at hF
    iterate 5 refine au ?_
    obtain ⟨r9, hx10, hF⟩ := bind_some hF
    refine Cx0 (i_areValues_ok _ _ _ hx10) (fun _ => ?_)
    iterate 4 refine au ?_
    cases hF
    exact ⟨_, _, rfl, eqA, entA⟩
  rintro _ _ ⟨c12, g36, rfl, rfl, hE⟩
  replace hF := hO3
  clear hO3
  try dsimp only at hF
  refine K_ent hE ?_
  refine Cc (fun hb35 => ?_) (fun hb35 => ?_)
  · rw [if_pos hb35] at hF
    iterate 4 refine au ?_
    cases hF
    exact Er ()
  rw [if_neg (nt hb35)] at hF
  refine au ?_
  refine K_draw [0, 1, 5, 6, 2, 3, 4, 7, 8, 9, 10] [0, 1, 3, 7, 15, 0, 32, 103, 255, 511, 1023] [2, 7] mixed (by decide +kernel) ?_
  iterate 4 refine du ?_
  obtain ⟨r13, hx14, hF⟩ := bind_some hF
  refine Dx0 (i_FormatInt_ok _ _ hx14) (fun _ => ?_)
  obtain ⟨x16, hx17, hF⟩ := bind_some hF
  obtain ⟨hq19, hz18⟩ := cat_some hx17
  refine D_val rfl .no (fun ha => V_concatN (s := [109]) (t := r13) (u := x16) (EN ha (.sv _) rfl) (EN ha (.tmp rfl rfl) rfl) hx17) ?_
  obtain ⟨x20, hx21, hF⟩ := bind_some hF
  obtain ⟨hq23, hz22⟩ := cat_some hx21
  refine D_val rfl .no (fun ha => V_concatN (s := x16) (t := [40]) (u := x20) (EN ha (.tmp rfl rfl) rfl) (EN ha (.sv _) rfl) hx21) ?_
  obtain ⟨r24, hx25, hF⟩ := bind_some hF
  refine Dx0 (i_joined_ok _ _ _ _ hx25) (fun _ => ?_)
  obtain ⟨x27, hx28, hF⟩ := bind_some hF
  obtain ⟨hq30, hz29⟩ := cat_some hx28
  refine D_val rfl .no (fun ha => V_concatN (s := x20) (t := r24) (u := x27) (EN ha (.tmp rfl rfl) rfl) (EN ha (.tmp rfl rfl) rfl) hx28) ?_
  obtain ⟨x31, hx32, hF⟩ := bind_some hF
  obtain ⟨hq34, hz33⟩ := cat_some hx32
  refine D_val rfl .no (fun ha => V_concatN (s := x27) (t := [41]) (u := x31) (EN ha (.tmp rfl rfl) rfl) (EN ha (.sv _) rfl) hx32) ?_
  iterate 2 refine du ?_
  refine au ?_
  cases hF
  exact Er ()

/-! impl.FormatLog -/
def i_FormatLog_L1 : List Access → Nat → (List (List UInt8)) → Option ((List UInt8))
  | [], k8, c2 => (g_strings_Join c2 [32]).bind fun r17 =>
    some r17
  | x10 :: rest9, k8, c2 => (i_FormatAccess x10).bind fun r24 =>
    if (r24 == []) then (
      some [])
    else (
      (app c2 ([r24] : List (List UInt8))).bind fun z28 =>
      i_FormatLog_L1 rest9 (k8 + 1) z28)
def i_FormatLog (a_log : List Access) : Option ((List UInt8)) :=
  if (((a_log.length : Int) : Int) == 0) then (
    some [110, 111, 110, 101])
  else (
    i_FormatLog_L1 a_log 0 ([] : List (List UInt8)))
theorem i_FormatLog_ok (a_log : List Access) (v0_0 : Sv) (R : (List UInt8)) (hF : i_FormatLog a_log = some R) :
    Fw.Spec Tryd.prog 8 [v0_0.v] [crd (RdS 35 rd35) v0_0.v a_log] (fun _ : Unit => (sv R)) (fun _ => []) := by
  refine Spec_enter (n := 28) Tryd.func8 rfl rfl (rs := [.tmp 2]) rfl rfl rfl ?_
  intro H0 F0
  unfold i_FormatLog at hF
  iterate 9 refine au ?_
  refine Cc (fun hb33 => ?_) (fun hb33 => ?_)
  · rw [if_pos hb33] at hF
    iterate 4 refine au ?_
    cases hF
    exact Er ()
  rw [if_neg (nt hb33)] at hF
  iterate 2 refine au ?_
  refine C_new rfl (N_buildSliceT (g := true) sl37.h ty9.h .nil (vs := []) rfl rfl rfl (by simp)) (fun k1 => ?_)
  refine Cv1 (.cons .h .nil) (own_lit (Ro := (roE rdStr)) (E := 9) (F := []) (xs := ([] : List (List UInt8))) MkL_nil rfl rfl) ?_
  iterate 8 refine au ?_
  refine CW_block (CW_loop (m := a_log.length) (fun m6 f' cs' => ∃ (g : Fr) (k8 : Nat) (rest9 : List Access) (c2 : List (List UInt8)) (v3 : Sv) (F4 : List Nat), m6 = rest9.length ∧ f' = updL g [(3, v3.v), (11, v0_0.v), (12, (.int .i64 (a_log.length : Int))), (13, (.int .i64 (k8 : Int)))] ∧ List.drop k8 a_log = rest9 ∧ Ent cs' [cown (OwnS 9 (roE rdStr)) F4 v3.v c2, crd (RdS 35 rd35) v0_0.v a_log] ∧ i_FormatLog_L1 rest9 k8 c2 = some R) ⟨_, 0, _, _, ⟨(some ⟨k1, 0, none⟩), 0, 1⟩, (k1 :: []), rfl, eqA, rfl, entA, hF⟩ ?_)
  clear hF
  rintro m6 _ _ ⟨g7, k8, rest9, c2, v3, F4, rfl, rfl, hd11, hE, hF⟩
  refine K_ent hE ?_
  clear hE
  refine K_pure (c := crd (RdS 35 rd35) v0_0.v a_log) (.t .h) crd_bound (fun hbd16 => ?_)
  rcases rest9 with _ | ⟨x10, rest9⟩
  · have hk12 := List.drop_eq_nil_iff.1 hd11
    rw [i_FormatLog_L1] at hF
    iterate 4 refine au ?_
    refine CdF ?_
    iterate 6 refine au ?_
    obtain ⟨r17, hx18, hF⟩ := bind_some hF
    refine C_x1 (.cons .h .nil) (XC_borL (pre := []) (.cons frz_own .nil) (fun _ => .nil) (X_callS cf16.h (.cons (.tmp rfl rfl) (.cons (.sv _) .nil)) (g_strings_Join_ok c2 v3 [32] _ hx18))) (fun _ => ?_)
    iterate 3 refine au ?_
    cases hF
    exact Er ()
  obtain ⟨hk12, hx13, hd14⟩ := drop_cons hd11
  rw [i_FormatLog_L1] at hF
  iterate 4 refine au ?_
  refine CdT ?_
  iterate 3 refine au ?_
  refine Ai hx13 (fun k20 j21 => ?_)
  refine AlA1 (ul35_0_35 x10) la35_0_35 (fun p22 => ?_)
  refine AnW (fun k23 => ?_)
  refine As (.agg [(.int .i64 x10.Method), p22.v].toArray) ?_
  iterate 3 refine au ?_
  obtain ⟨r24, hx25, hF⟩ := bind_some hF
  refine Cx0 (i_FormatAccess_ok _ _ _ hx25) (fun _ => ?_)
  iterate 5 refine au ?_
  refine C_val (V_eqT (s := r24) (t := []) (.tmp rfl rfl) (.sv _)) ?_
  refine au ?_
  refine Cc (fun hb32 => ?_) (fun hb32 => ?_)
  · rw [if_pos hb32] at hF
    iterate 4 refine au ?_
    cases hF
    exact Er ()
  rw [if_neg (nt hb32)] at hF
  iterate 4 refine au ?_
  refine C_new rfl (N_buildSliceT (g := true) sl37.h ty9.h (.cons (.tmp rfl rfl) .nil) (vs := [(sv r24)]) rfl rfl rfl (by intro v hv; simp at hv; rcases hv with rfl <;> rfl)) (fun k27 => ?_)
  refine Cv1 (.cons .h .nil) (own_lit (Ro := (roE rdStr)) (E := 9) (F := ([] ++ [])) (xs := ([r24] : List (List UInt8))) (MkL_cons (Mk_pure (fun _ => rfl)) MkL_nil apps) rfl rfl) ?_
  obtain ⟨z28, hx29, hF⟩ := bind_some hF
  refine C_x1 (.cons (.t (.t (.t (.t .h)))) (.cons .h .nil)) (X_appendO (Ro := (roE rdStr)) sl37.h ni37 ty9.h rfl rfl rfl (.tmp rfl rfl) (.tmp rfl rfl) hx29 src_own) (fun p30 => ?_)
  iterate 6 refine au ?_
  rw [wk k8]
  exact ⟨_, Nat.lt_succ_self _, _, k8 + 1, rest9, _, p30.1, p30.2, rfl, eqA, hd14, entA, hF⟩

/-! impl.ViewDigest -/
def i_ViewDigest_L1 (r1 : (List UInt8)) : Nat → Int → Int → Option (Int)
  | 0, _, _ => none
  | m6 + 1, c4, c5 => if (decide ((c5 : Int) < (r1.length : Int))) then (
      (ix r1 c5).bind fun u14 =>
      i_ViewDigest_L1 r1 m6 (Int.tmod (IntKind.i64.wrap ((IntKind.i64.wrap (257 * c4)) + (u14.toNat : Int))) 1000003) (IntKind.i64.wrap (c5 + 1)))
    else (
      some c4)
def i_ViewDigest (a_log : List Access) : Option (Int) :=
  (i_FormatLog a_log).bind fun r1 =>
  i_ViewDigest_L1 r1 (((r1.length : Int) - 0).toNat + 2) 1 0
theorem i_ViewDigest_ok (a_log : List Access) (v0_0 : Sv) (R : Int) (hF : i_ViewDigest a_log = some R) :
    Fw.Spec Tryd.prog 11 [v0_0.v] [crd (RdS 35 rd35) v0_0.v a_log] (fun _ : Unit => (.int .i64 R)) (fun _ => []) := by
  refine Spec_enter (n := 23) Tryd.func11 rfl rfl (rs := [.tmp 2]) rfl rfl rfl ?_
  intro H0 F0
  unfold i_ViewDigest at hF
  iterate 8 refine au ?_
  obtain ⟨r1, hx2, hF⟩ := bind_some hF
  refine Cx0 (i_FormatLog_ok _ _ _ hx2) (fun _ => ?_)
  iterate 5 refine au ?_
  refine C_val (V_lenStr (s := r1) st9 (.tmp rfl rfl)) ?_
  iterate 2 refine au ?_
  refine CW_block (CW_loop (m := (((r1.length : Int) - 0).toNat + 2)) (fun m6 f' cs' => ∃ (g : Fr) (c4 : Int) (c5 : Int), f' = updL g [(3, (.int .i64 c4)), (4, (sv r1)), (9, (.int .i64 (r1.length : Int))), (10, (.int .i64 c5))] ∧ Ent cs' [] ∧ i_ViewDigest_L1 r1 m6 c4 c5 = some R) ⟨_, _, _, eqA, entA, hF⟩ ?_)
  clear hF
  rintro m6 _ _ ⟨g7, c4, c5, rfl, hE, hF⟩
  refine K_ent hE ?_
  clear hE
  rcases m6 with _ | m6
  · rw [i_ViewDigest_L1] at hF
    exact absurd hF (by simp)
  rw [i_ViewDigest_L1] at hF
  iterate 4 refine au ?_
  refine Cc (fun hb18 => ?_) (fun hb18 => ?_)
  · rw [if_pos hb18] at hF
    iterate 11 refine au ?_
    obtain ⟨u14, hx15, hF⟩ := bind_some hF
    obtain ⟨hp16, hx17⟩ := ix_some hx15
    refine C_val (V_indexT (u := u14) st9 (.tmp rfl rfl) (.tmp rfl rfl) hp16 hx17) ?_
    refine C_val (V_convFromU8 (u := u14) ik5 ik3 (.tmp rfl rfl)) ?_
    refine au ?_
    refine C_val (V_rem (i := (IntKind.i64.wrap ((IntKind.i64.wrap (257 * c4)) + (u14.toNat : Int)))) (j := 1000003) (.tmp rfl rfl) (.int _ _) (by decide)) ?_
    iterate 6 refine au ?_
    exact ⟨m6, Nat.lt_succ_self _, _, _, _, eqA, entA, hF⟩
  rw [if_neg (nt hb18)] at hF
  iterate 9 refine au ?_
  cases hF
  exact Er ()

/-! laws.eqIntS -/
def l_eqIntS_L1 (a_b : List Int) : List Int → Nat → Option (Bool)
  | [], k4 => some true
  | x6 :: rest5, k4 => (ix a_b (k4 : Int)).bind fun x15 =>
    if ((x6 : Int) != x15) then (
      some false)
    else (
      l_eqIntS_L1 a_b rest5 (k4 + 1))
def l_eqIntS (a_a : List Int) (a_b : List Int) : Option (Bool) :=
  if (((a_a.length : Int) : Int) != (a_b.length : Int)) then (
    some false)
  else (
    l_eqIntS_L1 a_b a_a 0)
theorem l_eqIntS_ok (a_a : List Int) (v0_0 : Sv) (a_b : List Int) (v1_0 : Sv) (R : Bool) (hF : l_eqIntS a_a a_b = some R) :
    Fw.Spec Tryd.prog 30 [v0_0.v, v1_0.v] [crd (RdS 3 rdInt) v0_0.v a_a, crd (RdS 3 rdInt) v1_0.v a_b] (fun _ : Unit => (.bool R)) (fun _ => []) := by
  refine Spec_enter (n := 26) Tryd.func30 rfl rfl (rs := [.tmp 4]) rfl rfl rfl ?_
  intro H0 F0
  unfold l_eqIntS at hF
  iterate 11 refine au ?_
  refine Cc (fun hb23 => ?_) (fun hb23 => ?_)
  · rw [if_pos hb23] at hF
    iterate 4 refine au ?_
    cases hF
    exact Er ()
  rw [if_neg (nt hb23)] at hF
  iterate 5 refine au ?_
  refine CW_block (CW_loop (m := a_a.length) (fun m2 f' cs' => ∃ (g : Fr) (k4 : Nat) (rest5 : List Int), m2 = rest5.length ∧ f' = updL g [(0, v0_0.v), (1, v1_0.v), (5, (.int .i64 (k4 : Int)))] ∧ List.drop k4 a_a = rest5 ∧ Ent cs' [crd (RdS 3 rdInt) v0_0.v a_a, crd (RdS 3 rdInt) v1_0.v a_b] ∧ l_eqIntS_L1 a_b rest5 k4 = some R) ⟨_, 0, _, rfl, eqA, rfl, entA, hF⟩ ?_)
  clear hF
  rintro m2 _ _ ⟨g3, k4, rest5, rfl, rfl, hd7, hE, hF⟩
  refine K_ent hE ?_
  clear hE
  refine K_pure (c := crd (RdS 3 rdInt) v0_0.v a_a) .h crd_bound (fun hbd12 => ?_)
  rcases rest5 with _ | ⟨x6, rest5⟩
  · have hk8 := List.drop_eq_nil_iff.1 hd7
    rw [l_eqIntS_L1] at hF
    iterate 7 refine au ?_
    refine CdF ?_
    iterate 8 refine au ?_
    cases hF
    exact Er ()
  obtain ⟨hk8, hx9, hd10⟩ := drop_cons hd7
  rw [l_eqIntS_L1] at hF
  iterate 7 refine au ?_
  refine CdT ?_
  iterate 2 refine au ?_
  refine K_draw [0, 1, 2, 3, 4, 5, 6, 7, 8] [0, 0, 3, 7, 0, 0, 48, 112, 255] [] mixed (by decide +kernel) ?_
  iterate 2 refine du ?_
  refine Di hx9 (fun k13 j14 => ?_)
  refine Dl ls3_0 ?_
  iterate 2 refine du ?_
  obtain ⟨x15, hx16, hF⟩ := bind_some hF
  obtain ⟨hp17, hx18⟩ := ix_some hx16
  refine Di hx18 (fun k19 j20 => ?_)
  refine Dl ls3_0 ?_
  iterate 2 refine du ?_
  refine Cc (fun hb22 => ?_) (fun hb22 => ?_)
  · rw [if_pos hb22] at hF
    iterate 4 refine au ?_
    cases hF
    exact Er ()
  rw [if_neg (nt hb22)] at hF
  iterate 6 refine au ?_
  rw [wk k4]
  exact ⟨_, Nat.lt_succ_self _, _, k4 + 1, rest5, rfl, eqA, hd10, entA, hF⟩

/-! laws.eqAccess -/
def l_eqAccess (a_a : Access) (a_b : Access) : Option (Bool) :=
  if ((a_a.Method : Int) != a_b.Method) then (
    some false)
  else (
    (l_eqIntS a_a.Values a_b.Values).bind fun r3 =>
    if (!r3) then (
      some false)
    else (
      some true))
theorem l_eqAccess_ok (a_a : Access) (v0_1 : Sv) (a_b : Access) (v1_1 : Sv) (R : Bool) (hF : l_eqAccess a_a a_b = some R) :
    Fw.Spec Tryd.prog 17 [(.agg [(.int .i64 a_a.Method), v0_1.v].toArray), (.agg [(.int .i64 a_b.Method), v1_1.v].toArray)] [crd (RdS 3 rdInt) v0_1.v a_a.Values, crd (RdS 3 rdInt) v1_1.v a_b.Values] (fun _ : Unit => (.bool R)) (fun _ => []) := by
  refine Spec_enter (n := 16) Tryd.func17 rfl rfl (rs := [.tmp 4]) rfl rfl rfl ?_
  intro H0 F0
  unfold l_eqAccess at hF
  refine au ?_
  refine AbR (fun k1 => ?_)
  refine AbR (fun k2 => ?_)
  iterate 10 refine au ?_
  refine Cc (fun hb7 => ?_) (fun hb7 => ?_)
  · rw [if_pos hb7] at hF
    iterate 4 refine au ?_
    cases hF
    exact Er ()
  rw [if_neg (nt hb7)] at hF
  iterate 7 refine au ?_
  obtain ⟨r3, hx4, hF⟩ := bind_some hF
  refine Cx0 (l_eqIntS_ok _ _ _ _ _ hx4) (fun _ => ?_)
  iterate 2 refine au ?_
  refine Cc (fun hb6 => ?_) (fun hb6 => ?_)
  · rw [if_pos hb6] at hF
    iterate 4 refine au ?_
    cases hF
    exact Er ()
  rw [if_neg (nt hb6)] at hF
  iterate 5 refine au ?_
  cases hF
  exact Er ()

/-! laws.eqAccessS -/
def l_eqAccessS_L1 (a_b : List Access) : List Access → Nat → Option (Bool)
  | [], k4 => some true
  | x6 :: rest5, k4 => (ix a_b (k4 : Int)).bind fun x16 =>
    (l_eqAccess x6 x16).bind fun r23 =>
    if (!r23) then (
      some false)
    else (
      l_eqAccessS_L1 a_b rest5 (k4 + 1))
def l_eqAccessS (a_a : List Access) (a_b : List Access) : Option (Bool) :=
  if (((a_a.length : Int) : Int) != (a_b.length : Int)) then (
    some false)
  else (
    l_eqAccessS_L1 a_b a_a 0)
theorem l_eqAccessS_ok (a_a : List Access) (v0_0 : Sv) (a_b : List Access) (v1_0 : Sv) (R : Bool) (hF : l_eqAccessS a_a a_b = some R) :
    Fw.Spec Tryd.prog 9 [v0_0.v, v1_0.v] [crd (RdS 35 rd35) v0_0.v a_a, crd (RdS 35 rd35) v1_0.v a_b] (fun _ : Unit => (.bool R)) (fun _ => []) := by
  refine Spec_enter (n := 27) Tryd.func9 rfl rfl (rs := [.tmp 4]) rfl rfl rfl ?_
  intro H0 F0
  unfold l_eqAccessS at hF
  iterate 11 refine au ?_
  refine Cc (fun hb28 => ?_) (fun hb28 => ?_)
  · rw [if_pos hb28] at hF
    iterate 4 refine au ?_
    cases hF
    exact Er ()
  rw [if_neg (nt hb28)] at hF
  iterate 5 refine au ?_
  refine CW_block (CW_loop (m := a_a.length) (fun m2 f' cs' => ∃ (g : Fr) (k4 : Nat) (rest5 : List Access), m2 = rest5.length ∧ f' = updL g [(0, v0_0.v), (1, v1_0.v), (5, (.int .i64 (k4 : Int)))] ∧ List.drop k4 a_a = rest5 ∧ Ent cs' [crd (RdS 35 rd35) v0_0.v a_a, crd (RdS 35 rd35) v1_0.v a_b] ∧ l_eqAccessS_L1 a_b rest5 k4 = some R) ⟨_, 0, _, rfl, eqA, rfl, entA, hF⟩ ?_)
  clear hF
  rintro m2 _ _ ⟨g3, k4, rest5, rfl, rfl, hd7, hE, hF⟩
  refine K_ent hE ?_
  clear hE
  refine K_pure (c := crd (RdS 35 rd35) v0_0.v a_a) .h crd_bound (fun hbd12 => ?_)
  rcases rest5 with _ | ⟨x6, rest5⟩
  · have hk8 := List.drop_eq_nil_iff.1 hd7
    rw [l_eqAccessS_L1] at hF
    iterate 7 refine au ?_
    refine CdF ?_
    iterate 8 refine au ?_
    cases hF
    exact Er ()
  obtain ⟨hk8, hx9, hd10⟩ := drop_cons hd7
  rw [l_eqAccessS_L1] at hF
  iterate 7 refine au ?_
  refine CdT ?_
  iterate 2 refine au ?_
  refine K_draw [0, 1, 2, 3, 4, 5, 6, 7, 8, 9] [0, 0, 3, 7, 0, 0, 48, 112, 255, 511] [8] mixed (by decide +kernel) ?_
  iterate 2 refine du ?_
  refine Di hx9 (fun k13 j14 => ?_)
  refine DlA1 (ul35_0_35 x6) la35_0_35 (fun p15 => ?_)
  iterate 2 refine du ?_
  obtain ⟨x16, hx17, hF⟩ := bind_some hF
  obtain ⟨hp18, hx19⟩ := ix_some hx17
  refine Di hx19 (fun k20 j21 => ?_)
  refine DlA1 (ul35_0_35 x16) la35_0_35 (fun p22 => ?_)
  obtain ⟨r23, hx24, hF⟩ := bind_some hF
  refine Dx0 (l_eqAccess_ok _ _ _ _ _ hx24) (fun _ => ?_)
  iterate 2 refine du ?_
  refine Cc (fun hb27 => ?_) (fun hb27 => ?_)
  · rw [if_pos hb27] at hF
    iterate 4 refine au ?_
    cases hF
    exact Er ()
  rw [if_neg (nt hb27)] at hF
  iterate 6 refine au ?_
  rw [wk k4]
  exact ⟨_, Nat.lt_succ_self _, _, k4 + 1, rest5, rfl, eqA, hd10, entA, hF⟩

/-! laws.FnExactViewDigest -/
def l_FnExactViewDigest (fuel : Nat) (a_aLog : List Access) : Option (Bool) :=
  (l_szAccessS a_aLog 1048576).bind fun r1 =>
  if (decide ((r1 : Int) < 0)) then (
    some true)
  else (
    (l_toAccessS a_aLog).bind fun r4 =>
    (s_ViewDigest fuel r4).bind fun r7 =>
    (l_toAccessS a_aLog).bind fun r10 =>
    (i_ViewDigest r10).bind fun r13 =>
    if ((r13 : Int) != r7) then (
      some false)
    else (
      (l_toAccessS a_aLog).bind fun r16 =>
      (l_eqAccessS r10 r16).bind fun r19 =>
      if (!r19) then (
        some false)
      else (
        some true)))
theorem l_FnExactViewDigest_ok (fuel : Nat) (a_aLog : List Access) (v0_0 : Sv) (R : Bool) (hF : l_FnExactViewDigest fuel a_aLog = some R) :
    Fw.Spec Tryd.prog 4 [v0_0.v] [crd (RdS 33 rd33) v0_0.v a_aLog] (fun _ : Unit => (.bool R)) (fun _ => []) := by
  refine Spec_enter (n := 27) Tryd.func4 rfl rfl (rs := [.tmp 2]) rfl rfl rfl ?_
  intro H0 F0
  unfold l_FnExactViewDigest at hF
  iterate 9 refine au ?_
  obtain ⟨r1, hx2, hF⟩ := bind_some hF
  refine Cx0 (l_szAccessS_ok _ _ _ _ hx2) (fun _ => ?_)
  iterate 7 refine au ?_
  refine Cc (fun hb24 => ?_) (fun hb24 => ?_)
  · rw [if_pos hb24] at hF
    iterate 4 refine au ?_
    cases hF
    exact Er ()
  rw [if_neg (nt hb24)] at hF
  iterate 3 refine au ?_
  obtain ⟨r4, hx5, hF⟩ := bind_some hF
  refine Cx1 (l_toAccessS_ok _ _ _ hx5) (fun p6 => ?_)
  obtain ⟨r7, hx8, hF⟩ := bind_some hF
  refine C_x1 (.cons .h .nil) (XC_borL (pre := []) (.cons frz_own .nil) (fun _ => .nil) (X_callS cf10.h (.cons (.tmp rfl rfl) .nil) (s_ViewDigest_ok fuel r4 p6.1 _ hx8))) (fun _ => ?_)
  iterate 4 refine au ?_
  obtain ⟨r10, hx11, hF⟩ := bind_some hF
  refine Cx1 (l_toAccessS_ok _ _ _ hx11) (fun p12 => ?_)
  iterate 4 refine au ?_
  obtain ⟨r13, hx14, hF⟩ := bind_some hF
  refine C_x1 (.cons .h .nil) (XC_borL (pre := []) (.cons frz_own .nil) (fun _ => .nil) (X_callS cf11.h (.cons (.tmp rfl rfl) .nil) (i_ViewDigest_ok r10 p12.1 _ hx14))) (fun _ => ?_)
  iterate 8 refine au ?_
  refine Cc (fun hb23 => ?_) (fun hb23 => ?_)
  · rw [if_pos hb23] at hF
    iterate 4 refine au ?_
    cases hF
    exact Er ()
  rw [if_neg (nt hb23)] at hF
  iterate 5 refine au ?_
  obtain ⟨r16, hx17, hF⟩ := bind_some hF
  refine Cx1 (l_toAccessS_ok _ _ _ hx17) (fun p18 => ?_)
  obtain ⟨r19, hx20, hF⟩ := bind_some hF
  refine C_x2 (.cons .h (.cons .h .nil)) (XC_borL (pre := []) (.cons frz_own (.cons frz_own .nil)) (fun _ => .nil) (X_callS cf9.h (.cons (.tmp rfl rfl) (.cons (.tmp rfl rfl) .nil)) (l_eqAccessS_ok r10 p12.1 r16 p18.1 _ hx20))) (fun _ => ?_)
  iterate 2 refine au ?_
  refine Cc (fun hb22 => ?_) (fun hb22 => ?_)
  · rw [if_pos hb22] at hF
    iterate 4 refine au ?_
    cases hF
    exact Er ()
  rw [if_neg (nt hb22)] at hF
  iterate 5 refine au ?_
  cases hF
  exact Er ()

end Go.Proofs.YtfkhlplpbhadhaaDoor
