/-
  A framework: readings, small rules, plain laws. No conditions.
-/
import Derived.Test.YtndckmfbndmkhaaGreatFb
import Derived.Deep.Slices
import Derived.ChangeArms
import Derived.SizedLaws
import Derived.Laws.Small
import Derived.WalkSpells
import Derived.Laws.Slices
import Derived.Sort.Grow
import Derived.Lib.SlicesCompact
import Derived.Lib.AppendZerosOnto
import Derived.Lib.Overlaps
import Derived.Laws.Externs
/-
 The bridge: what the arguments of a row's function read as, as data.
-/
namespace Go.Fw
open Go Go.RowKit Go.WideShapes Go.ChangeShapes Go.ChangeAt
def Frn (ρ : Rho) : Prop := ∀ k L, ρ k = some (some L) → L.own = false
def Opn {α : Type} (P : Program) [LaidP P] (t : TypeId) (R : AHeap → Value → α → Prop) (W : α → Prop) : Prop :=
 ∀ {T : Type} (enc : TypeId × Value → T) (w : World) (fuel : Nat) (cs : List Value) (x : DataW T × List MemPlace),
   DataW.trod enc P w 0 (fun _ => true) true fuel t cs = some x → (∀ n ∈ x.1.weights P t, n ≤ reachBytes) →
   ∀ (ρ : Rho) (H : AHeap), Rel P ρ H w → Frn ρ → ∃ (ρ' : Rho) (H' : AHeap) (av : Value) (a : α), Rel P ρ' H' w ∧ Frn ρ' ∧ Up ρ ρ' ∧ Imm H H' ∧ RelVs ρ' av.cells.toList cs ∧ R H' av a ∧ W a
theorem Rel.nil (P : Program) [LaidP P] (w : World) (hV : LaidP.V P w) : Rel P (fun _ => none) [] w := ⟨by simp, by simp, by simp, by simp, ⟨w, hV, Nat.le_refl _, fun _ _ => rfl, by simp⟩⟩
theorem Frn.nil : Frn (fun _ => none) := fun _ _ h => by simp at h
section
variable {P : Program} [LaidP P] {ρ : Rho} {H : AHeap} {w : World}
theorem up_new {ρ : Rho} {H : AHeap} (h : Rel P ρ H w) (o : Option Loc) : Up ρ (bind1 ρ H.length o) := by
 intro k
 by_cases e : k = H.length
 · subst e; exact .inl (h.dom _ (Nat.le_refl _))
 · exact .inr (.inl (bind1_ne _ _ e))
theorem Rel.foreign {L : Loc} {b : Blk} (h : Rel P ρ H w) (hF : Frn ρ) (hL : L.own = false) (hb : BlkRel P ρ L b w) : Rel P (bind1 ρ H.length (some L)) (H ++ [some b]) w := by
 have hu := up_new h (some L)
 constructor
 · intro k L' hk
   by_cases e : k = H.length
   · subst e
     rw [bind1_self] at hk
     obtain rfl : L = L' := by simpa using hk
     exact ⟨b, by simp, hb.of_same hu rfl⟩
   · rw [bind1_ne _ _ e] at hk
     obtain ⟨b', hb', hr⟩ := h.blk k L' hk
     exact ⟨b', by rw [List.getElem?_append_left (lt_of_get hb')]; exact hb', hr.of_same hu rfl⟩
 · intro k b' hb' hk
   by_cases e : k = H.length
   · subst e; rw [bind1_self] at hk; simp at hk
   · rw [bind1_ne _ _ e] at hk
     have hkl : k < H.length := by
       have := lt_of_get hb'
       simp at this; omega
     rw [List.getElem?_append_left hkl] at hb'
     exact h.alive k b' hb' hk
 · intro k hk
   simp at hk
   rw [bind1_ne _ _ (by omega)]
   exact h.dom k (by omega)
 · intro k k' L1 L2 h1 h2 ho _
   exfalso
   by_cases e : k = H.length
   · subst e; rw [bind1_self] at h1
     obtain rfl : L = L1 := by simpa using h1
     rw [hL] at ho; simp at ho
   · rw [bind1_ne _ _ e] at h1
     rw [hF k L1 h1] at ho; simp at ho
 · refine h.vok.keep (Nat.le_refl _) (fun _ _ _ => rfl) fun k L' hk ho => ?_
   by_cases e : k = H.length
   · subst e; rw [bind1_self] at hk
     obtain rfl : L = L' := by simpa using hk
     rw [hL] at ho; simp at ho
   · rw [bind1_ne _ _ e] at hk; exact .inl hk
theorem Frn.foreign {L : Loc} (hF : Frn ρ) (hL : L.own = false) (n : Nat) : Frn (bind1 ρ n (some L)) := by
 intro k L' hk
 by_cases e : k = n
 · subst e; rw [bind1_self] at hk
   obtain rfl : L = L' := by simpa using hk
   exact hL
 · rw [bind1_ne _ _ e] at hk; exact hF k L' hk
theorem Rel.dead (h : Rel P ρ H w) : Rel P (bind1 ρ H.length none) (H ++ [none]) w := by
 have hu := up_new h none
 constructor
 · intro k L' hk
   by_cases e : k = H.length
   · subst e; rw [bind1_self] at hk; simp at hk
   · rw [bind1_ne _ _ e] at hk
     obtain ⟨b', hb', hr⟩ := h.blk k L' hk
     exact ⟨b', by rw [List.getElem?_append_left (lt_of_get hb')]; exact hb', hr.of_same hu rfl⟩
 · intro k b' hb' hk
   by_cases e : k = H.length
   · subst e; simp at hb'
   · rw [bind1_ne _ _ e] at hk
     have hkl : k < H.length := by
       have := lt_of_get hb'
       simp at this; omega
     rw [List.getElem?_append_left hkl] at hb'
     exact h.alive k b' hb' hk
 · intro k hk
   simp at hk
   rw [bind1_ne _ _ (by omega)]
   exact h.dom k (by omega)
 · intro k k' L1 L2 h1 h2 ho he
   by_cases e : k = H.length
   · subst e; rw [bind1_self] at h1; simp at h1
   · by_cases e' : k' = H.length
     · subst e'; rw [bind1_self] at h2; simp at h2
     · rw [bind1_ne _ _ e] at h1; rw [bind1_ne _ _ e'] at h2
       exact h.inj k k' L1 L2 h1 h2 ho he
 · refine h.vok.keep (Nat.le_refl _) (fun _ _ _ => rfl) fun k L' hk ho => ?_
   by_cases e : k = H.length
   · subst e; rw [bind1_self] at hk; simp at hk
   · rw [bind1_ne _ _ e] at hk; exact .inl hk
theorem Frn.dead (hF : Frn ρ) (n : Nat) : Frn (bind1 ρ n none) := by
 intro k L' hk
 by_cases e : k = n
 · subst e; rw [bind1_self] at hk; simp at hk
 · rw [bind1_ne _ _ e] at hk; exact hF k L' hk
theorem imm_app (H : AHeap) (x : Option Blk) : Imm H (H ++ [x]) := fun k b hk _ => by rw [List.getElem?_append_left (lt_of_get hk)]; exact hk
def wfInt (a : Int) : Prop := -9223372036854775808 ≤ a ∧ a ≤ 9223372036854775807
def wfU8 (_ : UInt8) : Prop := True
def wfAny {α : Type} (_ : α) : Prop := True
def wfStr (a : List UInt8) : Prop := a.length ≤ 140737488351232
def wfSl {α : Type} (W : α → Prop) (a : List α) : Prop := a.length ≤ 140737488351232 ∧ ∀ x ∈ a, W x
theorem Opn.int {t : TypeId} (ht : P.underlying t = some (.int .i64)) : Opn P t rdInt wfInt := by
 intro T enc w fuel cs x h _ ρ H hr hF
 obtain ⟨n, rfl, rfl, hw⟩ := DataW.trod_int ht h
 refine ⟨ρ, H, .int .i64 n, n, hr, hF, Up.refl ρ, Imm.refl H, .cons _ _ _ _ (.int _ _) .nil, rfl, ?_⟩
 simp only [Lit.wf, IntKind.min, IntKind.max, Bool.and_eq_true] at hw
 unfold wfInt
 simpa [IntKind.signed, IntKind.bits] using hw
theorem Opn.u8 {t : TypeId} (ht : P.underlying t = some (.int .u8)) : Opn P t rdU8 wfU8 := by
 intro T enc w fuel cs x h _ ρ H hr hF
 obtain ⟨n, rfl, rfl, hw⟩ := DataW.trod_int ht h
 simp only [Lit.wf, IntKind.min, IntKind.max, Bool.and_eq_true] at hw
 have hw' : 0 ≤ n ∧ n ≤ 255 := by simpa [IntKind.signed, IntKind.bits] using hw
 refine ⟨ρ, H, .int .u8 n, UInt8.ofNat n.toNat, hr, hF, Up.refl ρ, Imm.refl H, .cons _ _ _ _ (.int _ _) .nil, ?_, trivial⟩
 unfold rdU8
 have : ((UInt8.ofNat n.toNat).toNat : Int) = n := by
   simp [UInt8.toNat_ofNat']
   omega
 rw [this]
theorem Opn.bool {t : TypeId} (ht : P.underlying t = some .bool) : Opn P t rdBool wfAny := by
 intro T enc w fuel cs x h _ ρ H hr hF
 obtain ⟨b, rfl, rfl⟩ := DataW.trod_bool ht h
 exact ⟨ρ, H, .bool b, b, hr, hF, Up.refl ρ, Imm.refl H, .cons _ _ _ _ (.bool _) .nil, rfl, trivial⟩
theorem Opn.str {t : TypeId} (ht : P.underlying t = some .string) : Opn P t rdStr wfStr := by
 intro T enc w fuel cs x h hw ρ H hr hF
 obtain ⟨s, rfl, rfl, hs⟩ := DataW.trod_string ht h
 refine ⟨ρ, H, .string s, s.data.toList, hr, hF, Up.refl ρ, Imm.refl H, .cons _ _ _ _ (.string _) .nil, rfl, ?_⟩
 have := hw s.data.toList.length (by simp [DataW.weights])
 exact this
theorem weightsAll_mem {Pg : Program} {T : Type} {e : TypeId} {l : List (DataW T)} {d : DataW T} (hd : d ∈ l) {n : Nat} (hn : n ∈ d.weights Pg e) : n ∈ DataW.weightsAll Pg e l := by
 induction l with
 | nil => simp at hd
 | cons x l ih =>
   simp only [DataW.weightsAll, List.mem_append]
   rcases List.mem_cons.1 hd with rfl | h
   · exact .inl hn
   · exact .inr (ih h)
theorem opn_list {α T : Type} {enc : TypeId × Value → T} {E : TypeId} {R : AHeap → Value → α → Prop} {W : α → Prop} [Mono R] (hE : Opn P E R W) {fuel : Nat} {C : Nat → List Value} {D : Nat → DataW T × List MemPlace} :
   ∀ (len : Nat), (∀ i, i < len → DataW.trod enc P w 0 (fun _ => true) true fuel E (C i) = some (D i) ∧ ∀ n ∈ (D i).1.weights P E, n ≤ reachBytes) → ∀ (ρ : Rho) (H : AHeap), Rel P ρ H w → Frn ρ →
     ∃ (ρ' : Rho) (H' : AHeap) (es : List Value) (as : List α), Rel P ρ' H' w ∧ Frn ρ' ∧ Up ρ ρ' ∧ Imm H H' ∧ es.length = len ∧ as.length = len ∧ (∀ (i : Nat) e, es[i]? = some e → RelVs ρ' e.cells.toList (C i)) ∧
       (∀ (i : Nat) a, as[i]? = some a → ∃ e, es[i]? = some e ∧ R H' e a) ∧ ∀ a ∈ as, W a
 | 0, _, ρ, H, hr, hF => ⟨ρ, H, [], [], hr, hF, Up.refl ρ, Imm.refl H, rfl, rfl, by simp, by simp, by simp⟩
 | len + 1, h, ρ, H, hr, hF => by
   obtain ⟨ρ1, H1, es, as, r1, f1, u1, i1, l1, l2, g1, g2, g3⟩ := opn_list hE len (fun i hi => h i (by omega)) ρ H hr hF
   obtain ⟨t, tw⟩ := h len (by omega)
   obtain ⟨ρ2, H2, e, a, r2, f2, u2, i2, v2, q2, w2⟩ := hE enc w fuel _ _ t tw ρ1 H1 r1 f1
   refine ⟨ρ2, H2, es ++ [e], as ++ [a], r2, f2, u1.trans u2, i1.trans i2, by simp [l1], by simp [l2], ?_, ?_, ?_⟩
   · intro i e' he'
     by_cases hi : i < es.length
     · rw [List.getElem?_append_left hi] at he'
       exact (g1 i e' he').up u2
     · rw [List.getElem?_append_right (by omega)] at he'
       have hi' : i - es.length = 0 := by
         rcases Nat.eq_zero_or_pos (i - es.length) with h | h
         · exact h
         · rw [List.getElem?_eq_none (by simp; omega)] at he'; simp at he'
       rw [hi'] at he'
       obtain rfl : e = e' := by simpa using he'
       obtain rfl : i = len := by omega
       exact v2
   · intro i a' ha'
     by_cases hi : i < as.length
     · rw [List.getElem?_append_left hi] at ha'
       obtain ⟨e', he', hq⟩ := g2 i a' ha'
       exact ⟨e', by rw [List.getElem?_append_left (by omega)]; exact he', Mono.up hq i2⟩
     · rw [List.getElem?_append_right (by omega)] at ha'
       have hi' : i - as.length = 0 := by
         rcases Nat.eq_zero_or_pos (i - as.length) with h | h
         · exact h
         · rw [List.getElem?_eq_none (by simp; omega)] at ha'; simp at ha'
       rw [hi'] at ha'
       obtain rfl : a = a' := by simpa using ha'
       exact ⟨e, by rw [List.getElem?_append_right (by omega), show i - es.length = 0 by omega]; rfl, q2⟩
   · intro a' ha'
     rcases List.mem_append.1 ha' with h | h
     · exact g3 a' h
     · obtain rfl : a' = a := by simpa using h
       exact w2
theorem Opn.slice {α : Type} {t E : TypeId} {R : AHeap → Value → α → Prop} {W : α → Prop} {s : Nat} [Mono R] [Cells R s] (ht : P.underlying t = some (.slice E)) (hs : P.cellsOf E = s) (h0 : 0 < s) (hb : 0 < P.bytesOf E)
   (hE : Opn P E R W) : Opn P t (RdS E R) (wfSl W) := by
 intro T enc w fuel cs x h hw ρ H hr hF
 rcases Deep.open_slice ht h with ⟨rfl, rfl⟩ | ⟨a, len, cap, m, n, D, Pl, rfl, -, hlc, hcm, hm, rfl, hx⟩
 · exact ⟨ρ, H, .slice none 0 0, [], hr, hF, Up.refl ρ, Imm.refl H, .cons _ _ _ _ .nilSlice .nil, .inl ⟨rfl, rfl⟩, by simp [wfSl]⟩
 have hm' : m = cap := by simpa using hm
 subst hm'
 rcases Nat.eq_zero_or_pos len with rfl | hpos
 · refine ⟨_, _, .slice (some ⟨H.length, 0, none⟩) 0 0, [], hr.dead, hF.dead _, up_new hr none, imm_app H none, ?_, .inr (.inr ⟨_, _, _, rfl, rfl⟩), by simp [wfSl]⟩
   exact .cons _ _ _ _ (.sliceDead _ _ _ _ _ _ (bind1_self _ _ _)) .nil
 have hwl : len * P.bytesOf E ≤ reachBytes := by
   have := hw _ (by simp only [DataW.weights, ht]; exact List.mem_cons_self)
   simp only [List.length_map, List.length_range] at this
   exact Nat.le_trans (Nat.mul_le_mul_right _ (by omega)) this
 have hlen : len ≤ 140737488351232 := by
   have h1 : len * 1 ≤ len * P.bytesOf E := Nat.mul_le_mul_left _ hb
   have h2 : reachBytes = 140737488351232 := rfl
   omega
 have hch : ∀ i, ∃ cs', i < len → w.cells? 0 (a.add (i * P.cellsOf E)) (P.cellsOf E) = some cs' ∧ DataW.trod enc P w 0 (fun _ => true) true n E cs' = some (D i, Pl i) := by
   intro i
   by_cases hi : i < len
   · obtain ⟨cs', h1, h2⟩ := hx i (by omega)
     exact ⟨cs', fun _ => ⟨h1, h2⟩⟩
   · exact ⟨[], fun h => absurd h hi⟩
 obtain ⟨C, hC⟩ := Classical.axiomOfChoice hch
 rw [hs] at hC
 obtain ⟨ρ1, H1, es, as, r1, f1, u1, i1, l1, l2, g1, g2, g3⟩ := opn_list (enc := enc) (D := fun i => (D i, Pl i)) hE len (fun i hi => ⟨(hC i hi).2, fun k hk => hw k (by
   simp only [DataW.weights, ht]
   refine List.mem_cons_of_mem _ (List.mem_append_left _ (weightsAll_mem (d := D i) (List.mem_map.2 ⟨i, by simpa using hi, rfl⟩) hk)))⟩) ρ H hr hF
 obtain ⟨-, hl0, hc0⟩ := World.cells?_some (hC 0 hpos).1
 have hcell := hc0 0 h0
 rw [List.getElem?_eq_getElem (by omega)] at hcell
 obtain ⟨ab, ao, asp⟩ := a
 have hsp : asp = none := by simpa [Addr.add] using World.cell?_spot hcell
 subst hsp
 have hobj : ∃ c ct fr, w.heap[ab]? = some (.cells c ct fr) := by
   simp only [World.cell?, Addr.add, Nat.zero_mul, if_true] at hcell
   split at hcell
   · exact ⟨_, _, _, by assumption⟩
   · simp at hcell
 obtain ⟨c, ct, fr, hobj⟩ := hobj
 have hadd : ∀ (o : Nat), Addr.add ⟨ab, ao, none⟩ o = ⟨ab, ao + o, none⟩ := by
   intro o
   exact addr_add _ _ _
 have hCi : ∀ i, i < len → (c.toList.drop (ao + i * s)).take s = C i := by
   intro i hi
   obtain ⟨-, hl, hc⟩ := World.cells?_some (hC i hi).1
   apply List.ext_getElem?
   intro j
   by_cases hj : j < s
   · have := hc j hj
     rw [hadd, show Addr.add ⟨ab, ao + i * s, none⟩ j = ⟨ab, ao + i * s + j, none⟩ from addr_add _ _ _, cell_at hobj] at this
     rw [List.getElem?_take_of_lt hj, List.getElem?_drop, ← this]
     simp
   · rw [List.getElem?_eq_none (by rw [List.length_take]; omega), List.getElem?_eq_none (by omega)]
 have hbr : BlkRel P ρ1 ⟨ab, ao, s, 0, false⟩ ⟨es, E, false, false⟩ w := by
   refine ⟨rfl, hs, c, ct, fr, hobj, fun i e he => ?_, by simp⟩
   have hi : i < len := by
     have : i < es.length := by
       rcases Nat.lt_or_ge i es.length with h | h
       · exact h
       · simp [List.getElem?_eq_none h] at he
     omega
   obtain ⟨e', he', hq⟩ := g2 i _ (List.getElem?_eq_getElem (show i < as.length by omega))
   rw [he] at he'
   obtain rfl : e = e' := by simpa using he'
   exact ⟨(Cells.cells hq).1, by rw [hCi i hi]; exact g1 i e he⟩
 refine ⟨_, _, .slice (some ⟨H1.length, 0, none⟩) len 0, as, r1.foreign f1 rfl hbr, f1.foreign rfl _, u1.trans (up_new r1 _), i1.trans (imm_app _ _), ?_, ?_, by omega, g3⟩
 · refine .cons _ _ _ _ (.slice _ _ _ _ _ _ _ (bind1_self _ _ _) hlc (by simp) (by simp) fun _ => ⟨?_, by simp⟩) .nil
   simp
 · refine .inr (.inl ⟨H1.length, 0, 0, ⟨es, E, false, false⟩, by rw [l2], by simp, rfl, rfl, by simp [l1, l2], by omega, fun j a ha => ?_⟩)
   obtain ⟨e, he, hq⟩ := g2 j a ha
   exact ⟨e, by simpa using he, Mono.up hq (imm_app _ _)⟩
def fieldAt (P : Program) [LaidP P] (t : TypeId) (i : Nat) : Option (TypeId × Nat × Nat) :=
 match P.underlying t with
 | some (.struct fs) => (fs[i]?).map fun f => (f.type, f.offset, P.cellsOf f.type)
 | _ => none
theorem RelVs.field {l l' cs : List Value} {o s : Nat} (h : RelVs ρ l ((cs.drop o).take s)) (h' : RelVs ρ l' (cs.drop (o + s))) : RelVs ρ (l ++ l') (cs.drop o) := by
 have := h.append h'
 rwa [← List.drop_drop, List.take_append_drop] at this
theorem RelVs.one {v : Value} {l : List Value} (h : RelVs ρ v.cells.toList l) (hv : Value.cells v = #[v]) : RelVs ρ [v] l := by rw [hv] at h; exact h
theorem RelVs.end {cs : List Value} {o : Nat} (h : cs.length = o) : RelVs ρ [] (cs.drop o) := by
 rw [List.drop_of_length_le (by omega)]; exact .nil
def isAgV : Value → Bool
 | .agg _ => true
 | _ => false
def aggT (P : Program) [LaidP P] (t : TypeId) : Bool :=
 match P.underlying t with
 | some (.struct _) | some (.array _ _) => true
 | _ => false
theorem okWide_agg {r : Reach} {base : Nat} {t : TypeId} {v : Value} (h : Value.okWide P w r base t v) : isAgV v = aggT P t := by
 unfold Value.okWide at h
 unfold aggT
 split at h
 · obtain ⟨cs, rfl, -⟩ := h; simp_all [isAgV]
 · obtain ⟨cs, rfl, -⟩ := h; simp_all [isAgV]
 · rename_i h1 h2
   have : isAgV v = false := by
     cases v with
     | agg l => unfold Cell.okWide at h; split at h <;> simp_all [Cell.ok]
     | _ => rfl
   rw [this]
   split <;> simp_all
theorem RelV.of_cells {av v : Value} (h : RelVs ρ av.cells.toList v.cells.toList) (hs : isAgV v = isAgV av) : RelV ρ av v := by
 cases av with
 | agg l' =>
   cases v with
   | agg l => have := RelV.agg _ _ h; simpa [Value.cells] using this
   | _ => simp [isAgV] at hs
 | _ =>
   cases v with
   | agg l => simp [isAgV] at hs
   | _ => cases h with | cons _ _ _ _ h _ => exact h
theorem opn_arg {α T : Type} {enc : TypeId × Value → T} {t : TypeId} {ts : List TypeId} {R : AHeap → Value → α → Prop} {W : α → Prop} {vs : List Value} {ds : List (DataW T)} {ps : List MemPlace}
   (h : DataW.TrodAll enc P w 0 (fun _ => true) true (t :: ts) vs ds ps) (hw : ∀ n ∈ DataW.weightsEach P (t :: ts) ds, n ≤ reachBytes) (hE : Opn P t R W) (hsh : ∀ H v a, R H v a → isAgV v = aggT P t) {r : Reach} {base : Nat} (hok : ∀ v, vs[0]? = some v → Value.okWide P w r base t v) (hr : Rel P ρ H w) (hF : Frn ρ) :
   ∃ (v : Value) (vs' : List Value) (d : DataW T) (ds' : List (DataW T)) (q : List MemPlace) (ρ' : Rho) (H' : AHeap) (av : Value) (a : α), vs = v :: vs' ∧ ds = d :: ds' ∧ DataW.TrodAll enc P w 0 (fun _ => true) true ts vs' ds' q ∧
     (∀ n ∈ DataW.weightsEach P ts ds', n ≤ reachBytes) ∧ Rel P ρ' H' w ∧ Frn ρ' ∧ Up ρ ρ' ∧ Imm H H' ∧ RelV ρ' av v ∧ R H' av a ∧ W a := by
 cases vs with
 | nil => cases ds <;> exact h.elim
 | cons v vs =>
   cases ds with
   | nil => exact h.elim
   | cons d ds =>
     obtain ⟨p, q, ⟨fuel, h1⟩, h2, rfl⟩ := h
     obtain ⟨ρ', H', av, a, g1, g2, g3, g4, g5, g6, g7⟩ := hE enc w fuel _ _ h1 (fun n hn => hw n (by simp only [DataW.weightsEach, List.mem_append]; exact .inl hn)) ρ H hr hF
     exact ⟨v, vs, d, ds, q, ρ', H', av, a, rfl, rfl, h2, fun n hn => hw n (by simp only [DataW.weightsEach, List.mem_append]; exact .inr hn), g1, g2, g3, g4, .of_cells g5 (by rw [hsh _ _ _ g6, okWide_agg (hok v rfl)]), g6, g7⟩
theorem arg_at {args : Array Value} {i : Nat} {v : Value} (h : args.toList[i]? = some v) : args[i]? = some v := by simpa using h
theorem opn_none {Pg : Program} {T : Type} {enc : TypeId × Value → T} {vs : List Value} {ds : List (DataW T)} {ps : List MemPlace} (h : DataW.TrodAll enc Pg w 0 (fun _ => true) true [] vs ds ps) : vs = [] ∧ ds = [] := by
 cases vs <;> cases ds <;> first | exact ⟨rfl, rfl⟩ | exact h.elim
end
end Go.Fw
/-
 Small rules for the generator.
-/
set_option linter.unusedVariables false
namespace Go.Fw
open Go
section
variable {P : Program} [LaidP P] {n : Nat} {f : Fr} {H : AHeap} {d : Option Tmp} {x y z : Operand} {T T' T'' E : TypeId} {ps : String} {af : Array Edge} {gd : Option (Nat × Bool)}
theorem N_allocT {g : Bool} {s b : Nat} {zv : Value} (ht : TY P T s b zv) (hv : zv.cells.size = s) (hc : closedB zv = true) : NOp P n ⟨d, .alloc T, T', ps, af, gd⟩ f (fun k => .pointer (some ⟨k, 0, some 0⟩)) ⟨[zv], T, true, g⟩ := by
 obtain ⟨i, hi, -, -, hz⟩ := ht.inv
 exact N_alloc hi hz ht.sz hv hc
theorem N_buildSliceT {g : Bool} {s b' : Nat} {zv : Value} {len : Nat} {parts : List (Nat × Operand)} {vs : List Value} (hT : SL P T E) (ht : TY P E s b' zv) (hxs : EVs n f (parts.map (·.2)) vs)
   (hidx : parts.map (·.1) = List.range' 0 parts.length) (hlen : len = parts.length) (hbig : Nat.ble (len * s) (2 ^ 24) = true) (hv : ∀ v ∈ vs, v.cells.size = s) :
   NOp P n ⟨d, .buildSlice T len parts.toArray, T', ps, af, gd⟩ f (fun k => .slice (some ⟨k, 0, none⟩) len 1) ⟨vs, E, true, g⟩ := by
 obtain ⟨iE, hiE, h1, h2, h3⟩ := ht.inv
 exact N_buildSlice hT ht.sz hiE h3 hxs hidx hlen hbig hv
theorem XC_pre {o : Oper} {base pre rest : List Comp} {ι : Type} {val : ι → Value} {post : ι → List Comp} (hs : SelL base pre rest) (hx : XC P n o f pre val post) : XC P n o f base val post := by
 intro H hc ρ w a K' Q' hr hf hk
 have hc' := hc.take hs
 have hsub : ∀ k ∈ foot pre, k ∈ foot base := by
   intro k hk
   have := (hc'.own k (by simp only [foot, List.flatMap_append, List.mem_append]; exact .inl hk))
   rcases this.1 with h | h
   · exact h
   · omega
 refine hx H hc'.view ρ w a K' Q' hr hf fun f' ρ' H' a' w' h1 h2 h3 h4 => ?_
 obtain ⟨x, e, h5⟩ := h4
 refine hk f' ρ' H' a' w' h1 h2 h3 ⟨x, e, h5.len, h5.imm, fun k hk hn => h5.agr k hk (fun h => hn (hsub k h)), h5.hold, h5.nd, fun k hk => ⟨?_, (h5.own k hk).2⟩⟩
 exact (h5.own k hk).1.imp (hsub k) id
theorem XC_perm {o : Oper} {base pre : List Comp} {ι : Type} {val : ι → Value} {post : ι → List Comp} (hp : base.Perm pre) (hx : XC P n o f pre val post) : XC P n o f base val post := by
 intro H hc ρ w a K' Q' hr hf hk
 have hm : ∀ k, k ∈ foot pre ↔ k ∈ foot base := fun k => (hp.flatMap_right Comp.F).symm.mem_iff
 have hc2 : Ctx H (foot pre) H pre := by
   have h := hc.perm hp
   exact ⟨h.len, h.imm, fun _ _ _ => rfl, h.hold, h.nd, fun k hk => ⟨.inl hk, (h.own k hk).2⟩⟩
 refine hx H hc2 ρ w a K' Q' hr hf fun f' ρ' H' a' w' h1 h2 h3 h4 => ?_
 obtain ⟨x, e, h5⟩ := h4
 refine hk f' ρ' H' a' w' h1 h2 h3 ⟨x, e, h5.len, h5.imm, fun k hk hn => h5.agr k hk (fun h => hn ((hm k).1 h)), h5.hold, h5.nd, fun k hk => ⟨?_, (h5.own k hk).2⟩⟩
 exact (h5.own k hk).1.imp (hm k).1 id
inductive FrzL : List Comp → List Comp → List Comp → Prop
 | nil {pre : List Comp} : FrzL [] pre pre
 | cons {c c' : Comp} {cs pre base : List Comp} [LocC c] (h : FrzC c c') (t : FrzL cs (c' :: pre) base) : FrzL (c :: cs) pre base
theorem FrzL.loc {cl pre base post : List Comp} (h : FrzL cl pre base) (hl : AllLoc post) : AllLoc (cl ++ post) := by
 induction h with
 | nil => exact hl
 | cons _ _ ih => exact .cons ih
theorem XC_borL {o : Oper} {cl pre base : List Comp} {ι : Type} {val : ι → Value} {post : ι → List Comp} (hf : FrzL cl pre base) (hl : ∀ x, AllLoc (post x)) (hx : XC P n o f base val post) : XC P n o f (cl ++ pre) val (fun x => cl ++ post x) := by
 induction hf with
 | nil => exact hx
 | cons h t ih => exact XC_bor h (fun x => t.loc (hl x)) (XC_perm List.perm_middle.symm (ih hx))
end
end Go.Fw
namespace Go.Fw
open Go
theorem Ctx.start (H : AHeap) : Ctx H [] H [] := ⟨Nat.le_refl _, Imm.refl _, fun _ _ _ => rfl, fun c hc => by simp at hc, by simp, fun k hk => by simp at hk⟩
end Go.Fw
/-
 Parts of elements of our own slices: loaded, stored, handed to a callee that turns them.
-/
set_option linter.unusedVariables false
namespace Go.Fw
open Go
theorem undef_inv {ρ : Rho} {c : Value} (h : RelV ρ undef c) : c = undef := by
 generalize hx : undef = x at h
 cases h with
 | tuple a a' h =>
   have : a = [] := by
     have e : (undef : Value) = .tuple #[] := rfl
     rw [e] at hx
     injection hx with hx
     have := congrArg Array.toList hx
     simpa using this.symm
   subst this
   cases h
   rfl
 | _ => simp [undef] at hx
theorem Wanted_undef {n : Nat} {A : Array Oper} {f : Fr} {o : Oper} {j : Nat} {want : Bool} {t : Tmp} (h : o.guard = some (j, want)) (hd : (A[j]?).bind (·.dst) = some t) (hv : f t = undef) (ht : Nat.blt t n = true) : Wanted n A f o false := by
 intro ρ a hf
 have hlt : t < n := by simpa [Nat.blt_eq] using ht
 have hr := hf.get t hlt
 rw [hv] at hr
 have hlt' : t < a.tmps.size := by rw [hf.size]; exact hlt
 have hg : a.tmps[t]? = some (a.tmps.getD t undef) := by
   simp [Array.getD_eq_getD_getElem?, hlt']
 rw [undef_inv hr] at hg
 simp [Region.wanted, h, yielded, hd, hg, undef]
section
variable {P : Program} [LaidP P] {n : Nat} {H0 : AHeap} {F0 : List Nat} {f : Fr} {cs : List Comp} {A : Array Oper} {r : List Oper} {K : Fr → List Comp → Prop} {d : Option Tmp} {op : Op} {T T' E : TypeId} {ps : String} {af : Array Edge} {gd : Option (Nat × Bool)} {x y : Operand}
variable {l : List Oper} {tb as todo : List Nat} {fl : List (Nat × List Nat)} {i : Nat}
theorem C_offU {j : Nat} {t : Tmp} {b : Bool} (hd : (A[j]?).bind (·.dst) = some t) (hv : f t = undef) (ht : Nat.blt t n = true) (h : COps P n H0 F0 A r (put f d undef) cs K) :
   COps P n H0 F0 A (⟨d, op, T, ps, af, some (j, b)⟩ :: r) f cs K := fun H hc => AOps_skip (Wanted_undef rfl hd hv ht) (h H hc)
theorem D_offU (t : Tmp) {j : Nat} {b : Bool} (ho : l[i]? = some ⟨d, op, T, ps, af, some (j, b)⟩) (h1 : (l[j]?).bind (·.dst) = some t) (h2 : f t = undef) (h3 : Nat.blt t n = true) (h : DC P n l tb as H0 F0 K todo fl (put f d undef) cs) :
   DC P n l tb as H0 F0 K (i :: todo) fl f cs :=
 fun H hc => .flt (Ks := []) ho (.inr ⟨rfl, fun f' ha => by
   have hv : f' t = undef := (ha t (named_guard h1)).trans h2
   exact Wanted_undef (o := ⟨d, op, T, ps, af, some (j, b)⟩) rfl (by simpa using h1) hv h3⟩) ((h H hc).cov fun p hp => by
   rcases List.mem_cons.1 hp with h | h
   · exact .inr (by rw [h])
   · exact .inl h)
variable {α β : Type} {Ro : ORel α} {Rf : ORel β}
structure Part (Ro : ORel α) (off : Nat) (Rf : ORel β) (get : α → β) (set : α → β → α) : Prop where
 split : ∀ {F : List Nat} {H : AHeap} {e : Value} {a : α}, Ro F H e a → ∃ (w : Sv) (Fa Fw Fb : List Nat), e.cells.toList[off]? = some w.v ∧ F = Fa ++ Fw ++ Fb ∧ Rf Fw H w.v (get a) ∧
   ∀ {H' : AHeap} {Fw' : List Nat} {d' : β}, Imm H H' → (∀ k, k ∈ Fa ∨ k ∈ Fb → H'[k]? = H[k]?) → Rf Fw' H' w.v d' → Ro (Fa ++ Fw' ++ Fb) H' e (set a d')
def OwnA (E : TypeId) (Ro : ORel α) (i off : Nat) (w : Value) : ORel (List α) := fun F H v xs => OwnS E Ro F H v xs ∧ ∃ k b e, F.head? = some k ∧ idOf v = some k ∧ H[k]? = some (some b) ∧ b.elems[i]? = some e ∧ e.cells.toList[off]? = some w
instance {i off : Nat} {w : Value} [Keep Ro] : Keep (OwnA E Ro i off w) := ⟨fun {F H H' v a} h hi hk => by
 obtain ⟨h1, k, b, e, h0, h2, h3, h4, h5⟩ := h
 refine ⟨Keep.keep h1 hi hk, k, b, e, h0, h2, (hk k ?_).trans h3, h4, h5⟩
 cases F with
 | nil => simp at h0
 | cons q F => simp at h0; subst h0; simp⟩
theorem OwnS.head {F : List Nat} {H : AHeap} {v : Value} {xs : List α} {k : Nat} (h : OwnS E Ro F H v xs) (hk : idOf v = some k) : F.head? = some k ∧ ∃ m b G, v = .slice (some ⟨k, 0, none⟩) xs.length m ∧ (m = 1 ∨ m = 2) ∧ H[k]? = some (some b) ∧ b.wr = true ∧ b.own = true ∧ b.ty = E ∧ xs.length < 4611686018427387904 ∧ F = k :: G ∧ Els Ro H b.elems xs G := by
 rcases h with ⟨rfl, -, -⟩ | ⟨k', m, b, G, rfl, h2, h3, h4, h5, h6, h7, rfl, h9⟩
 · simp [idOf] at hk
 · have e : k' = k := by simpa [idOf] using hk
   subst e
   exact ⟨rfl, m, b, G, rfl, h2, h3, h4, h5, h6, h7, rfl, h9⟩
theorem X_storeF [Keep Ro] {s k off : Nat} {F : List Nat} {i : Int} {a a' : α} {u v : Value} {xs : List α} (hs : SZ P T s) (h0 : Nat.blt 0 s = true) (hx : EV n f x (.pointer (some ⟨k, i.toNat, some off⟩))) (hy : EV n f y u) (hk : idOf v = some k) (hj : xs[i.toNat]? = some a)
   (hu : u.cells.size = s) (hsc : u.cells.toList.all scal = true) (hfit : ∀ F H e, Ro F H e a → off + s ≤ e.cells.size) (hset : ∀ F H e, Ro F H e a → Ro F H (setPart e off u.cells.toList) a') :
   XC P n ⟨d, .store T x y, T', ps, af, gd⟩ f [cown (OwnS E Ro) F v xs] (fun _ : Unit => undef) (fun _ => [cown (OwnS E Ro) F v (xs.set i.toNat a')]) := by
 intro H hctx
 have ho : OwnS E Ro F H v xs := hctx.hold _ (List.mem_singleton.2 rfl)
 obtain ⟨hh, m, b, G, rfl, h2, h3, h4, h5, h6, h7, rfl, h9⟩ := ho.head hk
 obtain ⟨e, F1, Fj, F2, g1, rfl, g3, g4⟩ := h9.at hj
 refine X_store hs hx hy h3 h5 g1 hu hsc (by simpa [Nat.blt_eq] using h0) (hfit _ _ _ g3) ⟨(), rfl, ?_⟩
 have hgetne : ∀ q, q ≠ k → (H.set k (some ⟨b.elems.set i.toNat (setPart e off u.cells.toList), b.ty, true, b.wr⟩))[q]? = H[q]? := fun q hq => by rw [List.getElem?_set_ne (fun e => hq e.symm)]
 have himm : Imm H (H.set k (some ⟨b.elems.set i.toNat (setPart e off u.cells.toList), b.ty, true, b.wr⟩)) := by
   intro q b2 hq hw2
   rw [hgetne q (fun e => by
     subst e; rw [hq] at h3
     injection h3 with h3; injection h3 with h3
     rw [h3] at hw2; rw [hw2] at h4; simp at h4)]
   exact hq
 have hnd := hctx.nd
 have hkF : ∀ q, q ∈ F1 ∨ q ∈ Fj ∨ q ∈ F2 → q ≠ k := by
   intro q hq e
   subst e
   simp only [foot, cown, List.flatMap_cons, List.flatMap_nil, List.append_nil, List.nodup_cons, List.mem_append] at hnd
   exact hnd.1 (by rcases hq with h | h | h <;> simp [h])
 refine ⟨by simp, himm, fun q hq hqF => hgetne q (fun e => hqF (by subst e; simp [foot, cown])), ?_, by simpa [foot, cown] using hnd, fun q hq => ⟨.inl (by simpa [foot, cown] using hq), ?_⟩⟩
 · intro c hc
   simp at hc; subst hc
   refine .inr ⟨k, m, _, F1 ++ Fj ++ F2, by rw [List.length_set], h2, List.getElem?_set_self (lt_of_get h3), h4, rfl, h6, by simpa using h7, by simp, ?_⟩
   refine g4 (fun Fi x y hr hm => Keep.keep hr himm fun q hq => hgetne q (hkF q ?_)) (Keep.keep (hset _ _ _ g3) himm fun q hq => hgetne q (hkF q (by simp [hq])))
   rcases hm q hq with h | h
   · exact .inl h
   · exact .inr (.inr h)
 · simpa using (hctx.own q (by simpa [foot, cown] using hq)).2
theorem V_loadBox {H : AHeap} {k s : Nat} {ow w : Bool} {TB : TypeId} {l : List Value} {f : Fr} (hA : AG P T true) (hs : SZ P T s) (h0 : Nat.blt 0 s = true) (hx : EV n f x (.pointer (some ⟨k, 0, some 0⟩))) (hk : H[k]? = some (some ⟨[.agg l.toArray], TB, ow, w⟩)) (hl : l.length = s) :
   VOp P n ⟨d, .load T x, T', ps, af, none⟩ f H (.agg l.toArray) :=
 V_loadA (e := .agg l.toArray) hA hs hx hk rfl (by simpa [Nat.blt_eq] using h0) (by simp [Value.cells, hl]) (by subst hl; simp [Value.cells])
theorem eqNil_cases {E : TypeId} {R : AHeap → Value → α → Prop} {v : Value} {xs : List α} {H : AHeap} (h : RdS E R H v xs) : ∃ a m, v = .slice a xs.length m ∧ (a = none → xs = []) := by
 rcases h with ⟨rfl, rfl⟩ | ⟨k, i, m, b, rfl, -⟩ | ⟨k, i, m, rfl, rfl⟩
 · exact ⟨none, 0, rfl, fun _ => rfl⟩
 · exact ⟨_, m, rfl, fun h => by simp at h⟩
 · exact ⟨_, m, rfl, fun h => by simp at h⟩
theorem crd_nilc {E : TypeId} {R : AHeap → Value → α → Prop} [Mono R] {v : Value} {xs : List α} (H : AHeap) (h : (crd (RdS E R) v xs).P H) : ∃ a m, v = .slice a xs.length m ∧ (a = none → xs = []) := eqNil_cases (R := R) h
variable {T'' : TypeId}
theorem V_eqNil {H : AHeap} {a : Option Addr} {n' m : Nat} {f : Fr} (hT : SL P T E) (hx : EV n f x (.slice a n' m)) : VOp P n ⟨d, .binOp .eql T x (.const (.slice none 0 0)) T', T'', ps, af, none⟩ f H (.bool a.isNone) := by
 intro ρ w q hr hf
 have hu : P.underlying T = some (.slice E) := hT
 have hv := hx.use hf
 have key : ∃ a' c, q.eval x = .slice a' n' c ∧ a'.isNone = a.isNone := by
   generalize q.eval x = cv at hv
   cases hv with
   | nilSlice => exact ⟨none, 0, rfl, rfl⟩
   | slice k i n m L p cap => exact ⟨some p, cap, rfl, rfl⟩
   | sliceDead k i n m p cap => exact ⟨some p, cap, rfl, rfl⟩
 obtain ⟨a', c, he, hi⟩ := key
 refine ⟨.bool a'.isNone, ?_, by rw [hi]; exact .bool _⟩
 have hc : Act.eval q (.const (.slice none 0 0)) = .slice none 0 0 := rfl
 simp [execOp, he, hc, eqGuard, Lib.run_eql_slice_nil w T E a' n' c 0 0 hu]
theorem C_eqNil {v : Value} {xs : List α} {c : Comp} (hT : SL P T E) (hx : EV n f x v) (hm : Mem c cs) (hc : ∀ H, c.P H → ∃ a m, v = .slice a xs.length m ∧ (a = none → xs = [])) (h : ∀ b : Bool, (b = true → xs = []) → COps P n H0 F0 A r (put f d (.bool b)) cs K) :
   COps P n H0 F0 A (⟨d, .binOp .eql T x (.const (.slice none 0 0)) T', T'', ps, af, none⟩ :: r) f cs K := by
 intro H hctx
 obtain ⟨a, m, rfl, ha⟩ := hc H (hctx.mem hm)
 exact AOps_val (V_eqNil hT hx) (h a.isNone (fun e => ha (by simpa using e)) H hctx)
def IK (P : Program) [LaidP P] (t : TypeId) (k : IntKind) : Prop := P.underlying t = some (.int k)
theorem V_convInt {H : AHeap} {S D : TypeId} {k1 k2 : IntKind} {i : Int} (hS : IK P S k1) (hD : IK P D k2) (hx : EV n f x (.int k1 i)) : VOp P n ⟨d, .convert S D x, T', ps, af, none⟩ f H (.int k2 (k2.wrap i)) := by
 intro ρ w q hr hf
 have hS' : P.underlying S = some (.int k1) := hS
 have hD' : P.underlying D = some (.int k2) := hD
 exact ⟨_, by simp [execOp, (hx.use hf).int_inv, convert, underlying, hS', hD', Conv.intToInt], .int _ _⟩
theorem V_convFromU8 {H : AHeap} {S D : TypeId} {u : UInt8} (hS : IK P S .u8) (hD : IK P D .i64) (hx : EV n f x (.int .u8 (u.toNat : Int))) : VOp P n ⟨d, .convert S D x, T', ps, af, none⟩ f H (.int .i64 (u.toNat : Int)) := by
 have : (IntKind.i64.wrap (u.toNat : Int)) = u.toNat := wrap_in (by omega) (by have := u.toNat_lt; omega)
 have h := V_convInt (H := H) (n := n) (f := f) (d := d) (T' := T') (ps := ps) (af := af) hS hD hx
 rwa [this] at h
end
end Go.Fw
/-
 Plain laws on the helpers that laws use: copies, sizes, comparisons.
-/
namespace Go.Fw
open Go
theorem chk_true {b : Bool} (h : b = true) : chk b = some () := by simp [chk, h]
theorem ix_nat {α : Type} (l : List α) (k : Nat) : ix l (k : Int) = l[k]? := by simp [ix]
theorem wrap_nat {n : Nat} (h : n < 9223372036854775808) : IntKind.i64.wrap (n : Int) = n := wrap_in (by omega) (by omega)
theorem get_drop {α : Type} {l : List α} {k : Nat} {x : α} {r : List α} (h : l.drop k = x :: r) : l[k]? = some x ∧ l.drop (k + 1) = r := by
 have hlt : k < l.length := by
   rcases Nat.lt_or_ge k l.length with h' | h'
   · exact h'
   · rw [List.drop_of_length_le h'] at h; simp at h
 rw [List.drop_eq_getElem_cons hlt] at h
 injection h with h1 h2
 exact ⟨by rw [List.getElem?_eq_getElem hlt, h1], h2⟩
def bdL {α : Type} (p : α → Prop) (a : List α) : Prop := a.length < 4294967296 ∧ ∀ x ∈ a, p x
def bdAny {α : Type} (_ : α) : Prop := True
theorem bdL_flat {α : Type} (a : List α) (ha : a.length < 4294967296) : bdL bdAny a := ⟨ha, fun _ _ => trivial⟩
theorem bdL_nil {α : Type} {p : α → Prop} : bdL p [] := ⟨by simp, by simp⟩
theorem app_nil {α : Type} {xs : List α} (h : xs.length < 4294967296) : app [] xs = some xs := by unfold app; rw [if_pos (by simpa using h)]; rfl
theorem app_ok {α : Type} {xs ys : List α} (h : xs.length + ys.length < 4294967296) : app xs ys = some (xs ++ ys) := by unfold app; rw [if_pos h]
def ixF {α : Type} (p : α → Bool) : List α → Nat → Int
 | [], _ => -1
 | x :: r, k => if p x then (k : Int) else ixF p r (k + 1)
theorem ixF_neg {α : Type} {p : α → Bool} : ∀ (l : List α) (k : Nat), decide ((0 : Int) ≤ ixF p l k) = l.any p
 | [], k => by simp [ixF]
 | x :: r, k => by
   rw [ixF, List.any_cons]
   by_cases h : p x = true
   · rw [if_pos h, h]; simp
   · rw [if_neg h, ixF_neg r (k + 1)]; simp [h]
theorem index_loop {α : Type} {L : List α → Nat → Option Int} {f : α → Option Bool} {p : α → Bool} (h0 : ∀ k, L [] k = some (-1)) (h1 : ∀ x r k, L (x :: r) k = (f x).bind fun b => if b then some (k : Int) else L r (k + 1)) :
   ∀ (l : List α) (k : Nat), (∀ x ∈ l, f x = some (p x)) → L l k = some (ixF p l k)
 | [], k, _ => h0 k
 | x :: r, k, hf => by
   rw [h1, hf x (by simp), Option.bind_some, ixF]
   split
   · rfl
   · exact index_loop h0 h1 r (k + 1) fun y hy => hf y (by simp [hy])
theorem all_loop {α : Type} {L : List α → Nat → Option Bool} {f : α → Option Bool} {p : α → Bool} {e : Bool} (h0 : ∀ k, L [] k = some e) (h1 : ∀ x r k, L (x :: r) k = (f x).bind fun b => if (!b) then some false else L r (k + 1)) :
   ∀ (l : List α) (k : Nat), (∀ x ∈ l, f x = some (p x)) → L l k = some (l.all p && e)
 | [], k, _ => by simp [h0]
 | x :: r, k, hf => by
   rw [h1, hf x (by simp), Option.bind_some, List.all_cons]
   cases h : p x
   · simp
   · simp [all_loop h0 h1 r (k + 1) fun y hy => hf y (by simp [hy])]
def eqF {α : Type} (p : α → α → Bool) : List α → List α → Bool
 | [], [] => true
 | x :: a, y :: b => p x y && eqF p a b
 | _, _ => false
theorem eqF_len {α : Type} {p : α → α → Bool} : ∀ {a b : List α}, a.length ≠ b.length → eqF p a b = false
 | [], [], h => by simp at h
 | x :: a, y :: b, h => by rw [eqF, eqF_len (a := a) (b := b) (by simpa using h), Bool.and_false]
 | [], _ :: _, _ => rfl
 | _ :: _, [], _ => rfl
theorem eqf_loop {α : Type} {L : List α → Nat → Option Bool} {f : α → α → Option Bool} {p : α → α → Bool} {b : List α} {e : Bool} (h0 : ∀ k, L [] k = some e) (h1 : ∀ x r k y, b[k]? = some y → L (x :: r) k = (f x y).bind fun c => if (!c) then some false else L r (k + 1)) :
   ∀ (l : List α) (k : Nat), l.length = (b.drop k).length → (∀ x ∈ l, ∀ y ∈ b, f x y = some (p x y)) → L l k = some (eqF p l (b.drop k) && e)
 | [], k, hl, _ => by
   have : b.drop k = [] := List.length_eq_zero_iff.1 hl.symm
   rw [h0, this]; rfl
 | x :: r, k, hl, hf => by
   cases hd : b.drop k with
   | nil => rw [hd] at hl; simp at hl
   | cons y t =>
     obtain ⟨e1, e2⟩ := get_drop hd
     have hy : y ∈ b := List.mem_of_getElem? e1
     rw [h1 x r k y e1, hf x (by simp) y hy, Option.bind_some, eqF]
     cases hp : p x y
     · rfl
     · rw [hd] at hl
       simp only [Bool.not_true, Bool.false_eq_true, if_false, Bool.true_and]
       rw [eqf_loop h0 h1 r (k + 1) (by rw [e2]; simpa using hl) fun x' hx' => hf x' (by simp [hx']), e2]
theorem eqf_fun {α : Type} {S : List α → List α → Option Bool} {L : List α → List α → Nat → Option Bool} {f : α → α → Option Bool} {p : α → α → Bool} (hS : ∀ a b, S a b = if (((a.length : Int) : Int) != (b.length : Int)) then some false else L b a 0) (h0 : ∀ b k, L b [] k = some true)
   (h1 : ∀ b x r k y, b[k]? = some y → L b (x :: r) k = (f x y).bind fun c => if (!c) then some false else L b r (k + 1)) (a b : List α) (hf : ∀ x ∈ a, ∀ y ∈ b, f x y = some (p x y)) : S a b = some (eqF p a b) := by
 rw [hS]
 by_cases h : a.length = b.length
 · rw [if_neg (by simp [h]), eqf_loop (L := L b) (h0 b) (h1 b) a 0 (by simpa using h) hf]
   simp
 · rw [if_pos (by simpa [Int.natCast_inj] using h), eqF_len h]
def cmpI (x y : Int) : Int := if x < y then -1 else if y < x then 1 else 0
def cmpL : List Int → List Int → Int
 | [], [] => 0
 | [], _ :: _ => -1
 | _ :: _, [] => 1
 | x :: a, y :: b => if cmpI x y != 0 then cmpI x y else cmpL a b
theorem map_loop {α β : Type} {P : α → Prop} {g : α → β} {L : List α → Nat → List β → Option (List β)} (h0 : ∀ k c, L [] k c = some c) (h1 : ∀ x r k c, P x → c.length + 1 < 4294967296 → L (x :: r) k c = L r (k + 1) (c ++ [g x])) :
   ∀ (l : List α) (k : Nat) (c : List β), (∀ x ∈ l, P x) → c.length + l.length < 4294967296 → L l k c = some (c ++ l.map g)
 | [], k, c, _, _ => by simp [h0]
 | x :: r, k, c, hp, hl => by
   simp only [List.length_cons] at hl
   rw [h1 x r k c (hp x (by simp)) (by omega), map_loop h0 h1 r (k + 1) _ (fun y hy => hp y (by simp [hy])) (by simp; omega)]
   simp
theorem copy_all {α : Type} {P : α → Prop} {L : List α → Nat → List α → Option (List α)} (h0 : ∀ k c, L [] k c = some c) (h1 : ∀ x r k c, P x → c.length + 1 < 4294967296 → L (x :: r) k c = L r (k + 1) (c ++ [x])) (l : List α) (h : bdL P l) : L l 0 [] = some l := by
 have := map_loop (g := fun x => x) h0 h1 l 0 [] h.2 (by simpa using h.1)
 simpa using this
theorem app1 {α : Type} {c : List α} {x : α} (h : c.length + 1 < 4294967296) : app c [x] = some (c ++ [x]) := app_ok (by simpa using h)
def adjB {α : Type} (p : α → Bool) (q : α → α → Bool) : Option α → List α → Bool
 | _, [] => true
 | none, x :: r => p x && adjB p q (some x) r
 | some y, x :: r => p x && !q y x && adjB p q (some x) r
theorem adj_go {α : Type} {L : List α → Nat → Option Bool} {P : α → Prop} {p : α → Bool} {q : α → α → Bool} {e : Bool} (l : List α) (hP : ∀ x ∈ l, P x) (hl : l.length < 4294967296) (h0 : ∀ k, L [] k = some e)
   (h2 : ∀ x r k y, P x → P y → l[k]? = some y → k < 4294967296 → L (x :: r) (k + 1) = if p x && !q y x then L r (k + 2) else some false) :
   ∀ (rest : List α) (k : Nat) (y : α), l.drop (k + 1) = rest → l[k]? = some y → L rest (k + 1) = some (adjB p q (some y) rest && e)
 | [], k, y, _, _ => by rw [h0]; simp [adjB]
 | x :: r, k, y, hd, hy => by
   obtain ⟨e1, e2⟩ := get_drop hd
   have hlt : k < l.length := by
     rcases Nat.lt_or_ge k l.length with h | h
     · exact h
     · simp [List.getElem?_eq_none h] at hy
   rw [h2 x r k y (hP x (List.mem_of_getElem? e1)) (hP y (List.mem_of_getElem? hy)) hy (by omega), adjB]
   cases hpq : (p x && !q y x)
   · simp
   · rw [if_pos rfl, adj_go l hP hl h0 h2 r (k + 1) x e2 e1]; simp
theorem adj_loop {α : Type} {L : List α → Nat → Option Bool} {P : α → Prop} {p : α → Bool} {q : α → α → Bool} {e : Bool} (l : List α) (hP : ∀ x ∈ l, P x) (hl : l.length < 4294967296) (h0 : ∀ k, L [] k = some e)
   (h1 : ∀ x r, P x → L (x :: r) 0 = if p x then L r 1 else some false)
   (h2 : ∀ x r k y, P x → P y → l[k]? = some y → k < 4294967296 → L (x :: r) (k + 1) = if p x && !q y x then L r (k + 2) else some false) :
   L l 0 = some (adjB p q none l && e) := by
 cases l with
 | nil => rw [h0]; simp [adjB]
 | cons x r =>
   rw [h1 x r (hP x (by simp)), adjB]
   cases hp : p x
   · simp
   · rw [if_pos rfl, adj_go (x :: r) hP hl h0 h2 r 0 x rfl rfl]; simp
theorem ix_prev {α : Type} (l : List α) (k : Nat) (h : k < 4294967296) : ix l (IntKind.i64.wrap ((((k + 1 : Nat) : Int)) - 1)) = l[k]? := by
 rw [show (((k + 1 : Nat) : Int)) - 1 = (k : Int) by omega, wrap_nat (by omega), ix_nat]
theorem dec_succ (k : Nat) : decide ((0 : Int) < ((k + 1 : Nat) : Int)) = true := decide_eq_true (by omega)
theorem dec_zero : decide ((0 : Int) < ((0 : Nat) : Int)) = false := rfl
def pIn (lo hi n : Int) : Bool := decide (lo ≤ n) && decide (n ≤ hi)
theorem pIn_ix {α : Type} {l : List α} {m : Int} (h : pIn 0 ((l.length : Int) - 1) m = true) : ∃ x, ix l m = some x ∧ l[m.toNat]? = some x := by
 simp [pIn] at h
 have hlt : m.toNat < l.length := by omega
 exact ⟨l[m.toNat], by unfold ix; rw [if_pos h.1, List.getElem?_eq_getElem hlt], List.getElem?_eq_getElem hlt⟩
end Go.Fw
/-
 Slice expressions on our own slices; clear; elements that keep their identity; a function that only moves elements, over deep data.
-/
set_option linter.unusedVariables false
namespace Go.Fw
open Go
theorem zero_len (z : Array Value) (n : Nat) : (Builtin.zeroCells z n).toList.length = n * z.size := by simp [Builtin.zeroCells]
section
variable {P : Program} [LaidP P] {n : Nat} {f : Fr} {H0 : AHeap} {F0 : List Nat} {cs : List Comp} {A : Array Oper} {r : List Oper} {K : Fr → List Comp → Prop} {d : Option Tmp} {x y z : Operand} {T T' E : TypeId} {ps : String} {af : Array Edge} {gd : Option (Nat × Bool)}
variable {α : Type} {R : AHeap → Value → α → Prop} {xs : List α} {v : Value}
theorem V_sliceLo {H : AHeap} {k m l s : Nat} {b : Blk} {kk : IntKind} {i : Int} (hT : SL P T E) (hs : SZ P E s) (hx : EV n f x (.slice (some ⟨k, 0, none⟩) l m)) (hy : EV n f y (.int kk i)) (hk : H[k]? = some (some b)) (hbt : b.ty = E) (h0 : 0 ≤ i) (hi : i ≤ (l : Int)) :
   VOp P n ⟨d, .slice T x (some y) none none, T', ps, af, none⟩ f H (.slice (some ⟨k, i.toNat, none⟩) (l - i.toNat) 0) := by
 intro ρ w a hr hf
 obtain ⟨L, p, cap, hl, hb, hc, hcap, h1, h2, hp⟩ := (hx.use hf).slice_inv hr hk
 have hyv : a.eval y = .int kk i := (hy.use hf).int_inv
 have hu : P.underlying T = some (.slice E) := hT
 have he : P.elem T = E := by simp [Program.elem, hu]
 have hu2 : P.underlying T = some (.slice (P.elem T)) := by rw [he]; exact hu
 have hbsz : L.sz = s := by rw [← hb.sz, hbt, hs.cells]
 refine ⟨sliced (some p) i.toNat l cap s, ?_, ?_⟩
 · have hrun := run_slice_l (P := P) w T (some p) l cap hu2 kk i h0 hi
   rw [he, hs.run, Result.andThen] at hrun
   have h2' := run_sliceAt_slice (P := P) w T (.slice (some p) l cap) (some (.int kk i)) none none hu2
   simp [execOp, hc, hyv, h2', hrun]
 · have hform : ∃ q : Addr, sliced (some p) i.toNat l cap s = .slice (some q) (l - i.toNat) (cap - i.toNat) ∧ (l - i.toNat ≠ 0 → q = p.add (i.toNat * s)) := by
     unfold sliced
     by_cases e : cap = i.toNat
     · exact ⟨p, by rw [if_pos e], fun h => by omega⟩
     · exact ⟨p.add (i.toNat * s), by rw [if_neg e]; rfl, fun _ => rfl⟩
   obtain ⟨q, hq, hqe⟩ := hform
   rw [hq]
   refine RelV.slice k i.toNat _ 0 L q _ hl (by omega) (by simp) (by simp) (fun hn => ⟨?_, fun ho => ?_⟩)
   · rw [hqe hn, hp (by omega), addr_add, hbsz]
     simp
   · obtain ⟨L', hl', hx'⟩ := (hx.use hf).slice_ext hr hk (by omega)
     rw [hl] at hl'
     obtain rfl : L = L' := by simpa using hl'
     have := hx' ho
     omega
end
def rq {α : Type} (R : AHeap → Value → α → Prop) (H : AHeap) (e : Value) (q : Value × α) : Prop := e = q.1 ∧ R H e q.2
instance {α : Type} {R : AHeap → Value → α → Prop} [Mono R] : Mono (rq R) := ⟨fun h hi => ⟨h.1, Mono.up h.2 hi⟩⟩
instance {α : Type} {R : AHeap → Value → α → Prop} {s : Nat} [Cells R s] : Cells (rq R) s := ⟨fun h => Cells.cells h.2⟩
def rid {α : Type} (_ : AHeap) (e : Value) (q : Value × α) : Prop := e = q.1
instance {α : Type} : Pure (rid (α := α)) := ⟨fun h => h⟩
section
variable {α : Type} {R : AHeap → Value → α → Prop} {Ro : ORel α} {E : TypeId}
theorem Els.map {β : Type} {R1 R2 : ORel β} {H : AHeap} (hm : ∀ F e a, R1 F H e a → R2 F H e a) {es : List Value} {xs : List β} {G : List Nat} (h : Els R1 H es xs G) : Els R2 H es xs G := by
 induction h with
 | nil => exact .nil
 | cons h _ ih => exact .cons (hm _ _ _ h) ih
theorem OwnS.map {β : Type} {R1 R2 : ORel β} {F : List Nat} {H : AHeap} {v : Value} {xs : List β} (hm : ∀ F e a, R1 F H e a → R2 F H e a) (h : OwnS E R1 F H v xs) : OwnS E R2 F H v xs := by
 rcases h with h | ⟨k, m, b, G, h1, h2, h3, h4, h5, h6, h7, h8, h9⟩
 · exact .inl h
 · exact .inr ⟨k, m, b, G, h1, h2, h3, h4, h5, h6, h7, h8, h9.map hm⟩
theorem Els.sub {H : AHeap} {es : List Value} {xs : List α} {G : List Nat} (h : Els Ro H es xs G) : ∀ {sel : List (Value × α)}, sel.Sublist (es.zip xs) → ∃ G', G'.Sublist G ∧ Els Ro H (sel.map Prod.fst) (sel.map Prod.snd) G' := by
 induction h with
 | nil => intro sel hs; simp at hs; subst hs; exact ⟨[], .slnil, .nil⟩
 | @cons e es a xs F G h t ih =>
   intro sel hs
   rw [List.zip_cons_cons] at hs
   cases hs with
   | cons _ hs =>
     obtain ⟨G', h1, h2⟩ := ih hs
     exact ⟨G', h1.trans (List.sublist_append_right _ _), h2⟩
   | cons_cons _ hs =>
     obtain ⟨G', h1, h2⟩ := ih hs
     exact ⟨F ++ G', (List.Sublist.refl _).append h1, .cons h h2⟩
end
structure DelI {β : Type} (p : β → Bool) (qs cur : List β) (i j : Nat) : Prop where
 len : cur.length = qs.length
 lt : i < j
 le : j ≤ qs.length
 tk : cur.take i = (qs.take j).filter fun a => !p a
 dr : cur.drop j = qs.drop j
section
variable {β : Type} {p : β → Bool} {qs cur : List β} {i j : Nat} {x : β}
theorem take_filter_succ (hx : qs[j]? = some x) : (qs.take (j + 1)).filter (fun a => !p a) = (qs.take j).filter (fun a => !p a) ++ (if p x then [] else [x]) := by
 have hlt : j < qs.length := by
   rcases Nat.lt_or_ge j qs.length with h | h
   · exact h
   · simp [List.getElem?_eq_none h] at hx
 rw [List.take_succ_eq_append_getElem hlt, List.filter_append]
 rw [List.getElem?_eq_getElem hlt] at hx
 obtain rfl := Option.some.inj hx
 cases hp : p qs[j] <;> simp [hp]
theorem DelI.at (h : DelI p qs cur i j) (hj : j < qs.length) : ∃ x, cur[j]? = some x ∧ qs[j]? = some x := by
 refine ⟨qs[j], ?_, List.getElem?_eq_getElem hj⟩
 have := congrArg (fun l : List β => l[0]?) h.dr
 simpa [List.getElem?_eq_getElem hj] using this
theorem DelI.no (h : DelI p qs cur i j) (hx : qs[j]? = some x) (hp : p x = false) : DelI p qs (cur.set i x) (i + 1) (j + 1) := by
 have hlt : j < qs.length := lt_of_get' hx
 have hi : i < cur.length := by have := h.lt; have := h.len; omega
 refine ⟨by simpa using h.len, by have := h.lt; omega, hlt, ?_, ?_⟩
 · rw [take_filter_succ hx, ← h.tk, hp, List.take_succ_eq_append_getElem (by simpa using hi)]
   simp [List.take_set_of_le]
 · rw [List.drop_set_of_lt (by have := h.lt; omega), ← List.drop_drop, h.dr, List.drop_drop]
end
section
variable {P : Program} [LaidP P] {n : Nat} {f : Fr} {H0 : AHeap} {F0 : List Nat} {cs : List Comp} {A : Array Oper} {r : List Oper} {K : Fr → List Comp → Prop} {d : Option Tmp} {x y z : Operand} {T T' E : TypeId} {ps : String} {af : Array Edge} {gd : Option (Nat × Bool)}
variable {α : Type} {R : AHeap → Value → α → Prop} {Ro' : ORel α} {xs : List α} {v : Value}
theorem own_form [Keep Ro'] {F : List Nat} {v : Sv} (hne : xs ≠ []) (H : AHeap) (h : (cown (OwnS E Ro') F v.v xs).P H) : ∃ k m, v = ⟨some ⟨k, 0, none⟩, xs.length, m⟩ ∧ (m = 1 ∨ m = 2) := by
 have h : OwnS E Ro' F H v.v xs := h
 rcases h with ⟨-, h, -⟩ | ⟨k, m, b, G, h1, h2, -⟩
 · exact absurd h hne
 · obtain ⟨va, vn, vm⟩ := v
   injection h1 with e1 e2 e3
   subst e1 e2 e3
   exact ⟨k, _, rfl, h2⟩
end
section
variable {P : Program} [LaidP P] {n : Nat} {f : Fr} {H0 : AHeap} {F0 : List Nat} {cs : List Comp} {A : Array Oper} {r : List Oper} {K : Fr → List Comp → Prop} {d : Option Tmp} {T : TypeId} {ps : String} {af : Array Edge} {gd : Option (Nat × Bool)} {t : Tmp}
variable {l : List Oper} {tb as todo : List Nat} {fl : List (Nat × List Nat)} {i : Nat}
theorem Cm (v : Value) (hv : f t = v) (ht : Nat.blt t n = true) (h : COps P n H0 F0 A r (put f d v) cs K) : COps P n H0 F0 A (⟨d, .move (.tmp t), T, ps, af, none⟩ :: r) f cs K := C_val (V_move (.tmp hv ht)) h
theorem Ca (v : Value) (hv : f t = v) (ht : Nat.blt t n = true) (h : COps P n H0 F0 A r (put f d v) cs K) : COps P n H0 F0 A (⟨d, .assign (.tmp t), T, ps, af, none⟩ :: r) f cs K := C_val (V_assign (.tmp hv ht)) h
theorem Dm (v : Value) (ho : l[i]? = some ⟨d, .move (.tmp t), T, ps, af, none⟩) (hv : f t = v) (ht : Nat.blt t n = true) (hn : opIn (.tmp t) (namesOf l ⟨d, .move (.tmp t), T, ps, af, none⟩) = true) (h : DC P n l tb as H0 F0 K todo fl (put f d v) cs) : DC P n l tb as H0 F0 K (i :: todo) fl f cs :=
 D_val ho .no (fun ha => V_move (EN ha (.tmp hv ht) hn)) h
end
end Go.Fw
/-
 A slice of our own keeps its array, and its elements turn no more. No conditions.
-/
set_option linter.unusedVariables false
namespace Go.Fw
open Go
section
variable {α : Type} {Ro : ORel α} {R' : AHeap → Value → α → Prop} {E : TypeId} {H0 : AHeap} {F0 : List Nat} {cs rest cs2 : List Comp} {F : List Nat} {v : Value} {xs : List α}
theorem Els.half [Frz Ro R'] {H : AHeap} {G : List Nat} {es : List Value} {F : List Nat} (h : Els Ro H es xs F) : (∀ k ∈ F, k ∈ G) → Els (roE R') (Fw.frz H G) es xs [] := by
 induction h with
 | nil => intro _; exact .nil
 | cons h _ ih =>
   intro hm
   have := Els.cons (Ro := roE R') (F := []) (G := []) ⟨rfl, Frz.frz h (fun k hk => hm k (by simp [hk]))⟩ (ih fun k hk => hm k (by simp [hk]))
   simpa using this
theorem Ctx.half [Keep Ro] [Owns Ro] [Mono R'] [Frz Ro R'] {H : AHeap} (h : Ctx H0 F0 H cs) (hs : Sel cs (cown (OwnS E Ro) F v xs) rest) : Ctx H0 F0 (Fw.frz H (F.drop 1)) (cown (OwnS E (roE R')) (F.take 1) v xs :: rest) := by
 have h' := h.perm hs.perm
 have hp : OwnS E Ro F H v xs := h'.hold _ (List.mem_cons_self ..)
 have hv1 := h'.view (pre := [cown (OwnS E Ro) F v xs])
 have hnd : F.Nodup := by simpa [foot, cown] using hv1.nd
 have hown : ∀ k ∈ F, k < H.length := fun k hk => (hv1.own k (by simpa [foot, cown] using hk)).2
 refine Ctx.step (pre := [cown (OwnS E Ro) F v xs]) (post := [cown (OwnS E (roE R')) (F.take 1) v xs]) h' (by rw [frz_len]; exact Nat.le_refl _) (frz_imm _ _)
   (fun k _ hk => frz_out _ _ (fun hd => hk (by have hd' := List.mem_of_mem_drop hd; simpa [foot, cown] using hd'))) ?_ (by simpa [foot, cown] using hnd.sublist (List.take_sublist 1 F))
   (fun k hk => ?_)
 · intro d hd
   simp at hd
   subst hd
   show OwnS E (roE R') (F.take 1) (Fw.frz H (F.drop 1)) v xs
   rcases hp with ⟨rfl, rfl, rfl⟩ | ⟨k, m, b, G, rfl, h2, h3, h4, h5, h6, h7, rfl, h9⟩
   · exact .inl ⟨rfl, rfl, rfl⟩
   · refine .inr ⟨k, m, b, [], rfl, h2, ?_, h4, h5, h6, h7, rfl, ?_⟩
     · rw [List.drop_one, List.tail_cons, frz_out _ _ (List.nodup_cons.1 hnd).1]; exact h3
     · exact h9.half (fun q hq => by simpa using hq)
 · have hk' : k ∈ F := List.mem_of_mem_take (by simpa [foot, cown] using hk)
   exact ⟨.inl (by simpa [foot, cown] using hk'), by rw [frz_len]; exact hown k hk'⟩
variable {P : Program} [LaidP P] {n : Nat} {f : Fr} {c1 : Code} {Q : Exit → Fr → List Comp → Prop}
theorem K_half [Keep Ro] [Owns Ro] [Mono R'] [Frz Ro R'] (hs : Sel cs (cown (OwnS E Ro) F v xs) rest) (h : CW P n H0 F0 c1 Q f (cown (OwnS E (roE R')) (F.take 1) v xs :: rest)) : CW P n H0 F0 c1 Q f cs :=
 fun H hc => AW_recore (frz_len _ _) (frz_core _ H) (h _ (hc.half hs))
theorem Ent.half [Keep Ro] [Owns Ro] [Mono R'] [Frz Ro R'] (hs : Sel cs (cown (OwnS E Ro) F v xs) rest) (h : Ent (cown (OwnS E (roE R')) (F.take 1) v xs :: rest) cs2) : Ent cs cs2 := fun H0 F0 H hc => by
 obtain ⟨H2, h1, h2, h3⟩ := h H0 F0 _ (hc.half hs)
 exact ⟨H2, h1.trans (frz_len _ _), fun k => (h2 k).trans (frz_core _ H k), h3⟩
theorem XC_ent {o : Oper} {ι : Type} {val : ι → Value} {pre : List Comp} {post post' : ι → List Comp} (he : ∀ x, Ent (post x) (post' x)) (hx : XC P n o f pre val post) : XC P n o f pre val post' := by
 intro H hc ρ w a K' Q' hr hf hk
 refine hx H hc ρ w a K' Q' hr hf fun f' ρ' H' a' w' h1 h2 h3 h4 => ?_
 obtain ⟨x, e, h5⟩ := h4
 obtain ⟨H2, l1, l2, l3⟩ := he x H (foot pre) H' h5
 exact hk f' ρ' H2 a' w' h1 (h2.recore l1 l2) (h3.trans (Step.recore l1 l2)) ⟨x, e, l3⟩
end
end Go.Fw
/-
 Own lists laid open: the list's block with the elements' values, and the elements, each with the blocks it owns. No conditions.
-/
set_option linter.unusedVariables false
namespace Go.Fw
open Go
def rdVal (s : Nat) : AHeap → Value → Value → Prop := fun _ e a => e = a ∧ e.cells.size = s ∧ e.cells.toList.all scal = true
instance (s : Nat) : Pure (rdVal s) := ⟨fun h => h⟩
instance (s : Nat) : Cells (rdVal s) s := ⟨fun h => h.2⟩
section
variable {α : Type} {Ro : ORel α} {H : AHeap} {E : TypeId} {s : Nat}
theorem els_vals : ∀ {es vs : List Value} {G : List Nat}, Els (roE (rdVal s)) H es vs G → es = vs ∧ G = []
 | _, _, _, .nil => ⟨rfl, rfl⟩
 | _, _, _, .cons h t => by
   obtain ⟨h1, h2⟩ := els_vals t
   obtain ⟨h3, h4, -⟩ := h
   exact ⟨by rw [h4, h1], by rw [h3, h2]; rfl⟩
theorem els_self : ∀ {es : List Value}, (∀ e ∈ es, e.cells.size = s ∧ e.cells.toList.all scal = true) → Els (roE (rdVal s)) H es es []
 | [], _ => .nil
 | e :: es, h => .cons (F := []) ⟨rfl, rfl, h e (by simp)⟩ (els_self fun x hx => h x (by simp [hx]))
def cels (Ro : ORel α) [Keep Ro] (G : List Nat) (es : List Value) (xs : List α) : Comp := ⟨G, fun H => Els Ro H es xs G, fun h hi hk => Els.keep h hi hk⟩
instance [Keep Ro] [Local Ro] (G : List Nat) (es : List Value) (xs : List α) : LocC (cels Ro G es xs) := ⟨fun h hk => Els.local h hk⟩
theorem Ctx.exch {H0 : AHeap} {F0 : List Nat} {cs pre post rest : List Comp} (h : Ctx H0 F0 H cs) (hs : SelL cs pre rest) (hh : (∀ c ∈ pre, c.P H) → ∀ c ∈ post, c.P H) (hf : (foot post).Sublist (foot pre)) : Ctx H0 F0 H (post ++ rest) := by
 have h' := h.take hs
 have hv1 := h'.view
 exact h'.step (Nat.le_refl _) (Imm.refl _) (fun _ _ _ => rfl) (hh hv1.hold) (hv1.nd.sublist hf) (fun k hk => ⟨.inl (hf.subset hk), (hv1.own k (hf.subset hk)).2⟩)
theorem own_open [OCells Ro s] {F : List Nat} {v : Value} {xs : List α} (h : OwnS E Ro F H v xs) : ∃ es F' G, es.length = xs.length ∧ F = F' ++ G ∧ OwnS E (roE (rdVal s)) F' H v es ∧ Els Ro H es xs G := by
 rcases h with ⟨rfl, rfl, rfl⟩ | ⟨k, m, b, G, h1, h2, h3, h4, h5, h6, h7, rfl, h9⟩
 · exact ⟨[], [], [], rfl, rfl, .inl ⟨rfl, rfl, rfl⟩, .nil⟩
 · have hl := h9.length
   exact ⟨b.elems, [k], G, hl, rfl, .inr ⟨k, m, b, [], by rw [h1, hl], h2, h3, h4, h5, h6, by omega, rfl, els_self (Els.cells h9)⟩, h9⟩
theorem own_shut {F' G : List Nat} {v : Value} {es : List Value} {xs : List α} (h : OwnS E (roE (rdVal s)) F' H v es) (he : Els Ro H es xs G) : OwnS E Ro (F' ++ G) H v xs := by
 have hl := he.length
 rcases h with ⟨rfl, rfl, rfl⟩ | ⟨k, m, b, G0, h1, h2, h3, h4, h5, h6, h7, rfl, h9⟩
 · cases he; exact .inl ⟨rfl, rfl, rfl⟩
 · obtain ⟨rfl, rfl⟩ := els_vals h9
   exact .inr ⟨k, m, b, G, by rw [h1, hl], h2, h3, h4, h5, h6, by omega, by simp, he⟩
theorem els_split : ∀ {es : List Value} {xs : List α} {G : List Nat} {j : Nat} {a : α}, Els Ro H es xs G → xs[j]? = some a → ∃ e G1 F1 G2, es[j]? = some e ∧ G = G1 ++ (F1 ++ G2) ∧ Els Ro H (es.take j) (xs.take j) G1 ∧ Ro F1 H e a ∧ Els Ro H (es.drop (j + 1)) (xs.drop (j + 1)) G2
 | _, _, _, j, a, .nil, hj => by simp at hj
 | _, _, _, 0, a, .cons (e := e) (F := F) (G := G) h t, hj => by
   obtain rfl : _ = a := by simpa using hj
   exact ⟨e, [], F, G, rfl, rfl, .nil, h, by simpa using t⟩
 | _, _, _, j + 1, a, .cons (e := e) (F := F) (G := G) h t, hj => by
   obtain ⟨e', G1, F1, G2, h1, h2, h3, h4, h5⟩ := els_split (j := j) t (by simpa using hj)
   exact ⟨e', F ++ G1, F1, G2, by simpa using h1, by rw [h2, List.append_assoc], by simpa using Els.cons h h3, h4, by simpa using h5⟩
end
section
variable {P : Program} [LaidP P] {n : Nat} {H0 : AHeap} {F0 : List Nat} {Q : Exit → Fr → List Comp → Prop} {f : Fr} {cs pre rest : List Comp} {c1 : Code} {A : Array Oper} {l : List Oper} {K : Fr → List Comp → Prop} {α ι : Type} {Ro : ORel α} {E : TypeId} {s : Nat}
end
end Go.Fw
/-
 Elements of an own list that are moved out one by one, in a range loop. The list's block is frozen and read by values; the elements stay our own. No conditions.
-/
set_option linter.unusedVariables false
namespace Go.Fw
open Go
section
variable {α ι : Type} {Ro : ORel α} {H : AHeap} {E : TypeId} {s : Nat}
structure Un (Ro : ORel α) (a : α) (val : ι → Value) (post : ι → List Comp) : Prop where
 un : ∀ F H e, Ro F H e a → ∃ i, e = val i ∧ (∀ c ∈ post i, c.P H) ∧ foot (post i) = F
end
section
variable {P : Program} [LaidP P] {n : Nat} {H0 : AHeap} {F0 : List Nat} {Q : Exit → Fr → List Comp → Prop} {f : Fr} {cs pre rest : List Comp} {c1 : Code} {A : Array Oper} {l r : List Oper} {K : Fr → List Comp → Prop} {α ι : Type} {Ro : ORel α} {E T T' : TypeId} {s : Nat} {d : Option Tmp} {x : Operand} {ps : String} {af : Array Edge}
end
end Go.Fw
/-
 Whole structs are read out of shallow slices of our own.
-/
set_option linter.unusedVariables false
namespace Go.Fw
open Go
section
variable {P : Program} [LaidP P] {n : Nat} {f : Fr} {H0 : AHeap} {F0 : List Nat} {cs : List Comp} {A : Array Oper} {r : List Oper} {K : Fr → List Comp → Prop} {d : Option Tmp} {x : Operand} {T T' E : TypeId} {ps : String} {af : Array Edge}
variable {α ι : Type} {R : AHeap → Value → α → Prop} {xs : List α} {v : Value}
theorem C_ldOA [Mono R] {F : List Nat} {k j s : Nat} {a : α} (ul : ι → List Value) {cc cs' : ι → List Comp} (hA : AG P T true) (hs : SZ P T s) (h0 : Nat.blt 0 s = true) (hx : EV n f x (.pointer (some ⟨k, j, some 0⟩))) (hm : Mem (cown (OwnS E (roE R)) F v xs) cs) (hk : idOf v = some k) (hj : xs[j]? = some a)
   (hop : ∀ H e, R H e a → ∃ i, 0 + s ≤ e.cells.size ∧ (e.cells.toList.drop 0).take s = ul i ∧ ∀ c ∈ cc i, c.P H ∧ c.F = []) (ha : ∀ i, App (cc i) cs (cs' i))
   (h : ∀ i, COps P n H0 F0 A r (put f d (.agg (ul i).toArray)) (cs' i) K) : COps P n H0 F0 A (⟨d, .load T x, T', ps, af, none⟩ :: r) f cs K := by
 intro H hc
 have ho : OwnS E (roE R) F H v xs := hc.mem hm
 obtain ⟨-, m, b, G, rfl, -, h3, -, -, -, -, rfl, h9⟩ := ho.head hk
 obtain ⟨e, F1, Fj, F2, g1, g2, g3, -⟩ := h9.at hj
 obtain ⟨i, q1, q2, q3⟩ := hop H e g3.2
 refine AOps_val (V_loadA hA hs hx h3 g1 (by simpa [Nat.blt_eq] using h0) q1 q2) (h i H ?_)
 rw [(ha i).eq]
 have hb : ∀ (l : List Comp), (∀ c ∈ l, c.P H ∧ c.F = []) → Ctx H0 F0 H (l ++ cs) := by
   intro l
   induction l with
   | nil => intro _; exact hc
   | cons c l ih => intro hl; exact (ih fun d hd => hl d (by simp [hd])).dup (hl c (by simp)).1 (hl c (by simp)).2
 exact hb _ q3
theorem C_ldOA1 [Mono R] {F : List Nat} {k j s : Nat} {a : α} (ul : ι → List Value) {c1 : ι → Comp} (hA : AG P T true) (hs : SZ P T s) (h0 : Nat.blt 0 s = true) (hx : EV n f x (.pointer (some ⟨k, j, some 0⟩))) (hm : Mem (cown (OwnS E (roE R)) F v xs) cs) (hk : idOf v = some k) (hj : xs[j]? = some a)
   (hop : ∀ H e, R H e a → ∃ i, 0 + s ≤ e.cells.size ∧ (e.cells.toList.drop 0).take s = ul i ∧ ∀ c ∈ ([c1 i] : List Comp), c.P H ∧ c.F = []) (h : ∀ i, COps P n H0 F0 A r (put f d (.agg (ul i).toArray)) (c1 i :: cs) K) :
   COps P n H0 F0 A (⟨d, .load T x, T', ps, af, none⟩ :: r) f cs K := C_ldOA ul (cc := fun i => [c1 i]) hA hs h0 hx hm hk hj hop (fun _ => apps) h
end
end Go.Fw
/-
 Fields of values, and slices of readable slices.
-/
set_option linter.unusedVariables false
namespace Go.Fw
open Go Go.RowKit
section
variable {P : Program} [LaidP P] {n : Nat} {f : Fr} {H : AHeap} {d : Option Tmp} {x y : Operand} {T T' E Tf : TypeId} {ps : String} {af : Array Edge}
theorem V_sliceHiV {l m s : Nat} {p : Option Addr} {kk : IntKind} {i : Int} (hT : SL P T E) (hs : SZ P E s) (hx : EV n f x (.slice p l m)) (hy : EV n f y (.int kk i)) (h0 : 0 ≤ i) (hi : i ≤ (l : Int)) (hd : l = 0 ∨ ∃ (k i0 : Nat) (b : Blk), p = some ⟨k, i0, none⟩ ∧ H[k]? = some (some b)) :
   VOp P n ⟨d, .slice T x none (some y) none, T', ps, af, none⟩ f H (.slice p i.toNat 0) := by
 intro ρ w a hr hf
 have hyv : a.eval y = .int kk i := (hy.use hf).int_inv
 have hu : P.underlying T = some (.slice E) := hT
 have he : P.elem T = E := by simp [Program.elem, hu]
 have hu2 : P.underlying T = some (.slice (P.elem T)) := by rw [he]; exact hu
 have key : ∀ (q : Option Addr) (cap : Nat), i ≤ (cap : Int) → a.eval x = .slice q l cap → (execOp a.eval ⟨d, .slice T x none (some y) none, T', ps, af, none⟩).run P w = .ok (.value (sliced q 0 i.toNat cap s)) w := fun q cap hcap hc => by
   have hrun := run_slice_h (P := P) w T q l cap hu2 kk i h0 (by omega)
   rw [he, hs.run, Result.andThen] at hrun
   have h2' := run_sliceAt_slice (P := P) w T (.slice q l cap) none (some (.int kk i)) none hu2
   simp [execOp, hc, hyv, h2', hrun]
 have hq : ∀ (p : Addr) (cap : Nat), sliced (some p) 0 i.toNat cap s = .slice (some p) i.toNat cap := fun p cap => by
   unfold sliced
   simp [Addr.add]
 have hrx := hx.use hf
 generalize hc : a.eval x = c at hrx
 cases hrx with
 | nilSlice =>
   refine ⟨_, key none 0 hi hc, ?_⟩
   have : i.toNat = 0 := by omega
   rw [this]
   simp [sliced]
   exact .nilSlice
 | slice k i0 n m L p cap h hcp h1 h2 hp =>
   refine ⟨_, key (some p) cap (by omega) hc, ?_⟩
   rw [hq]
   exact RelV.slice k i0 _ 0 L p _ h (by omega) (by simp) (by simp) (fun h' => by
     obtain ⟨a1, a2⟩ := hp (by omega)
     exact ⟨a1, fun ho => by have := a2 ho; omega⟩)
 | sliceDead k i0 n m p cap h =>
   rcases hd with rfl | ⟨k', i1, b, e, hk⟩
   · refine ⟨_, key (some p) cap (by omega) hc, ?_⟩
     rw [hq]
     have : i.toNat = 0 := by omega
     rw [this]
     exact RelV.sliceDead k i0 _ 0 p _ h
   · obtain ⟨rfl, rfl⟩ : k = k' ∧ i0 = i1 := by simpa using e
     obtain ⟨L, p', cap', hl', -⟩ := (hx.use hf).slice_inv hr hk
     rw [h] at hl'; simp at hl'
end
section
variable {P : Program} [LaidP P] {n : Nat} {f : Fr} {H0 : AHeap} {F0 : List Nat} {cs : List Comp} {A : Array Oper} {r : List Oper} {K : Fr → List Comp → Prop} {d : Option Tmp} {x y : Operand} {T T' E : TypeId} {ps : String} {af : Array Edge} {α : Type} {R : AHeap → Value → α → Prop} {xs : List α} {v : Value}
theorem C_sliceHiR [Mono R] {s : Nat} {kk : IntKind} {i : Int} (hT : SL P T E) (hs : SZ P E s) (hx : EV n f x v) (hy : EV n f y (.int kk i)) (hm : Mem (crd (RdS E R) v xs) cs) (h0 : 0 ≤ i) (hi : i ≤ (xs.length : Int))
   (h : ∀ w : Sv, COps P n H0 F0 A r (put f d w.v) (crd (RdS E R) w.v (xs.take i.toNat) :: cs) K) : COps P n H0 F0 A (⟨d, .slice T x none (some y) none, T', ps, af, none⟩ :: r) f cs K := by
 intro H hc
 have hr : RdS E R H v xs := hc.mem hm
 have hr' := hr
 rcases hr' with ⟨rfl, rfl⟩ | ⟨k, i0, m, b, rfl, h1, h2, h3, h4, hL, h6⟩ | ⟨k, i0, m, rfl, rfl⟩
 · have : i.toNat = 0 := by simp at hi; omega
   refine AOps_val (V_sliceHiV hT hs hx hy h0 hi (.inl rfl)) (h ⟨none, i.toNat, 0⟩ H (hc.dup (c := crd (RdS E R) (.slice none i.toNat 0) _) ?_ rfl))
   exact .inl ⟨by rw [this], by simp⟩
 · refine AOps_val (V_sliceHiV hT hs hx hy h0 hi (.inr ⟨k, i0, b, rfl, h1⟩)) (h ⟨some ⟨k, i0, none⟩, i.toNat, 0⟩ H (hc.dup (c := crd (RdS E R) (.slice (some ⟨k, i0, none⟩) i.toNat 0) _) ?_ rfl))
   have e : (xs.take i.toNat).length = i.toNat := by rw [List.length_take]; omega
   exact .inr (.inl ⟨k, i0, 0, b, by rw [e], h1, h2, h3, by omega, by omega, fun j a hj => h6 j a (by
     rw [List.getElem?_take] at hj
     split at hj
     · exact hj
     · simp at hj)⟩)
 · have : i.toNat = 0 := by simp at hi; omega
   refine AOps_val (V_sliceHiV hT hs hx hy h0 hi (.inl rfl)) (h ⟨some ⟨k, i0, none⟩, i.toNat, 0⟩ H (hc.dup (c := crd (RdS E R) (.slice (some ⟨k, i0, none⟩) i.toNat 0) _) ?_ rfl))
   exact .inr (.inr ⟨k, i0, 0, by rw [this], by simp⟩)
end
end Go.Fw
/-
 Shifts and bits of whole numbers. No conditions.
-/
set_option linter.unusedVariables false
namespace Go.Fw
open Go
def shrI (k : IntKind) (i j : Int) : Option Int := if j < 0 then none else some (i.fdiv (2 ^ min j.toNat k.bits))
def andI (k : IntKind) (i j : Int) : Int := k.wrap ((BitVec.ofInt k.bits i &&& BitVec.ofInt k.bits j).toNat : Int)
def xorI (k : IntKind) (i j : Int) : Int := k.wrap ((BitVec.ofInt k.bits i ^^^ BitVec.ofInt k.bits j).toNat : Int)
def remI (i j : Int) : Option Int := if j = 0 then none else some (i.tmod j)
section
variable {P : Program} [LaidP P] {n : Nat} {f : Fr} {H : AHeap} {d : Option Tmp} {T T' T'' : TypeId} {ps : String} {af : Array Edge} {x y : Operand}
theorem V_shr {k l : IntKind} {i j q : Int} (hx : EV n f x (.int k i)) (hy : EV n f y (.int l j)) (h : shrI k i j = some q) :
   VOp P n ⟨d, .binOp .shr T x y T', T'', ps, af, none⟩ f H (.int k q) := by
 unfold shrI at h
 split at h
 · simp at h
 rename_i hj
 cases h
 exact fun ρ _ a _ hf => ⟨_, by simp [execOp, (hx.use hf).int_inv, (hy.use hf).int_inv, eqGuard, binOp, Op.shift, hj], .int _ _⟩
theorem V_and {k : IntKind} {i j : Int} (hx : EV n f x (.int k i)) (hy : EV n f y (.int k j)) :
   VOp P n ⟨d, .binOp .and T x y T', T'', ps, af, none⟩ f H (.int k (andI k i j)) :=
 fun ρ _ a _ hf => ⟨_, by simp [execOp, (hx.use hf).int_inv, (hy.use hf).int_inv, eqGuard, binOp, Op.intBits, andI], .int _ _⟩
theorem V_xor {k : IntKind} {i j : Int} (hx : EV n f x (.int k i)) (hy : EV n f y (.int k j)) :
   VOp P n ⟨d, .binOp .xor T x y T', T'', ps, af, none⟩ f H (.int k (xorI k i j)) :=
 fun ρ _ a _ hf => ⟨_, by simp [execOp, (hx.use hf).int_inv, (hy.use hf).int_inv, eqGuard, binOp, Op.intBits, xorI], .int _ _⟩
theorem V_remN {k : IntKind} {i j q : Int} (hx : EV n f x (.int k i)) (hy : EV n f y (.int k j)) (h : remI i j = some q) :
   VOp P n ⟨d, .binOp .rem T x y T', T'', ps, af, none⟩ f H (.int k q) := by
 unfold remI at h
 split at h
 · simp at h
 rename_i hj
 cases h
 exact V_rem hx hy hj
end
end Go.Fw
/-
 Drawn regions: elements of an own slice are read and stored.
-/
set_option linter.unusedVariables false
namespace Go.Fw
open Go Go.RowKit
section
variable {P : Program} [LaidP P] {n : Nat} {l : List Oper} {tb as : List Nat} {H0 : AHeap} {F0 : List Nat} {K : Fr → List Comp → Prop} {cs : List Comp} {f : Fr} {i : Nat} {r : List Nat} {fl : List (Nat × List Nat)} {d : Option Tmp} {T E T' : TypeId} {ps : String} {af : Array Edge} {gd : Option (Nat × Bool)} {v : Value} {x y : Operand} {α : Type} {Ro : List Nat → AHeap → Value → α → Prop} {xs : List α} {s : Nat}
theorem D_idxO [Keep Ro] {F : List Nat} {kk : IntKind} {q : Int} (hT : SL P T E) (hs : SZ P E s) (ho : l[i]? = some ⟨d, .indexAddr T x y, T', ps, af, gd⟩) (hw : Wt n l f gd) (hx : EV n f x v) (hy : EV n f y (.int kk q))
   (hxn : opIn x (namesOf l ⟨d, .indexAddr T x y, T', ps, af, gd⟩) = true) (hyn : opIn y (namesOf l ⟨d, .indexAddr T x y, T', ps, af, gd⟩) = true) (hm : Mem (cown (OwnS E Ro) F v xs) cs) (hi : (decide (0 ≤ q) && decide (q < (xs.length : Int))) = true)
   (h : ∀ k, idOf v = some k → DC P n l tb as H0 F0 K r ((i, F) :: fl) (put f d (.pointer (some ⟨k, q.toNat, some 0⟩))) cs) : DC P n l tb as H0 F0 K (i :: r) fl f cs := by
 intro H hc
 simp only [Bool.and_eq_true, decide_eq_true_eq] at hi
 have ho' : OwnS E Ro F H v xs := hc.mem hm
 have hv : ∃ k m, v = .slice (some ⟨k, 0, none⟩) xs.length m := by
   rcases ho' with ⟨rfl, rfl, -⟩ | ⟨k, m, b, G, rfl, -⟩
   · simp at hi; omega
   · exact ⟨k, m, rfl⟩
 obtain ⟨k, m, rfl⟩ := hv
 refine D_atO (c := cown (OwnS E Ro) F (.slice (some ⟨k, 0, none⟩) xs.length m) xs) ho hw hm (fun ha hp => ?_) (h k rfl) H hc
 have hp : OwnS E Ro F _ (.slice (some ⟨k, 0, none⟩) xs.length m) xs := hp
 rcases hp with ⟨e, e2, -⟩ | ⟨k', m', b, G, e, h2, h3, h4, h5, h6, h7, -, h9⟩
 · simp at e
 · obtain rfl : k = k' := by simpa using congrArg (fun v => match v with | Value.slice (some p) _ _ => p.block | _ => 0) e
   simpa using V_indexAddr (i0 := 0) hT hs (EN ha hx hxn) (EN ha hy hyn) h3 h6 hi.1 (by omega)
theorem D_ldO [Keep Ro] {F : List Nat} {k j off : Nat} {a : α} {w : Value} (hA : AG P T false) (ho : l[i]? = some ⟨d, .load T x, T', ps, af, gd⟩) (hw : Wt n l f gd) (hx : EV n f x (.pointer (some ⟨k, j, some off⟩)))
   (hxn : opIn x (namesOf l ⟨d, .load T x, T', ps, af, gd⟩) = true) (hm : Mem (cown (OwnS E Ro) F v xs) cs) (hk : idOf v = some k) (hj : xs[j]? = some a)
   (hop : ∀ F H e, Ro F H e a → e.cells.toList[off]? = some w) (h : DC P n l tb as H0 F0 K r ((i, F) :: fl) (put f d w) cs) : DC P n l tb as H0 F0 K (i :: r) fl f cs :=
 D_atO (c := cown (OwnS E Ro) F v xs) ho hw hm (fun {f' H} ha ho => by
   have ho : OwnS E Ro F H v xs := ho
   rcases ho with ⟨rfl, rfl, -⟩ | ⟨k', m, b, G, rfl, h2, h3, h4, h5, h6, h7, -, h9⟩
   · simp [idOf] at hk
   · have e : k' = k := by simpa [idOf] using hk
     subst e
     obtain ⟨e, F1, Fj, F2, g1, g2, g3, -⟩ := h9.at hj
     exact V_load hA (EN ha hx hxn) h3 g1 (hop Fj H e g3)) h
end
section
variable {P : Program} [LaidP P] {n : Nat} {f : Fr} {H : AHeap} {d : Option Tmp} {x : Operand} {T : TypeId} {ps : String} {af : Array Edge}
theorem V_nilCheck {v : Value} {q : Addr} (hv : v = .pointer (some q)) (hx : EV n f x v) : VOp P n ⟨d, .nilCheck x, T, ps, af, none⟩ f H v := fun ρ _ a _ hf => by
 subst hv
 have h := hx.use hf
 have : ∃ p, a.eval x = .pointer (some p) := by
   generalize a.eval x = u at h
   cases h <;> exact ⟨_, rfl⟩
 obtain ⟨p, hp⟩ := this
 exact ⟨a.eval x, by simp [execOp, hp], h⟩
end
end Go.Fw
/-
 Library functions on our own rows of integers: what the shelf's contracts say, at the abstract heap.
-/
set_option linter.unusedVariables false
namespace Go.Fw
open Go Go.Sort
section
variable {P : Program} [LaidP P] {ρ : Rho} {H : AHeap} {w : World}
theorem Rel.grown {w' : World} {os : Array Obj} (h : Rel P ρ H w) (hw : w'.heap = w.heap ++ os) : Rel P ρ H w' := by
 have hs : ∀ b, b < w.heap.size → w'.heap[b]? = w.heap[b]? := fun b hb => by rw [hw, Array.getElem?_append_left hb]
 constructor
 · intro k L hk
   obtain ⟨b, hb, hr⟩ := h.blk k L hk
   exact ⟨b, hb, hr.of_same (Up.refl ρ) (hs _ (h.lt hk))⟩
 · exact h.alive
 · exact h.dom
 · exact h.inj
 · exact h.vok.keep (by rw [hw]; simp) (fun b hb _ => hs b hb) fun _ _ hk _ => .inl hk
theorem Step.grown {w' : World} {os : Array Obj} (hw : w'.heap = w.heap ++ os) (h1 : w'.os = w.os) (h2 : w'.output = w.output) (h3 : w'.tape = w.tape) : Step ρ H w ρ H w' where
 up := Up.refl ρ
 os := h1
 output := h2
 tape := h3
 size := by rw [hw]; simp
 frame b hb _ := by rw [hw, Array.getElem?_append_left hb]
 fresh _ _ h := .inl h
 len := Nat.le_refl _
 hold k hk hn := ⟨hn, rfl⟩
theorem Rel.row {k n : Nat} {L : Loc} {b : Blk} {zs ys : List Int} {os : Array Obj} (h : Rel P ρ H w) (hk : ρ k = some (some L)) (hb : H[k]? = some (some b)) (hown : b.own = true) (hsz : P.cellsOf b.ty = 1)
   (hl : b.elems.length = zs.length) (hys : ∀ (i : Nat) y, ys[i]? = some y → zs[i]? = some y) :
   Rel P ρ (H.set k (some ⟨ys.map (Value.int .i64), b.ty, true, b.wr⟩)) (grow (putRow (Value.int .i64) (Sort.ahead w n) L.blk L.off zs.toArray) os) ∧
   Step ρ H w ρ (H.set k (some ⟨ys.map (Value.int .i64), b.ty, true, b.wr⟩)) (grow (putRow (Value.int .i64) (Sort.ahead w n) L.blk L.off zs.toArray) os) := by
 obtain ⟨b', hb', hbr⟩ := h.blk k L hk
 rw [hb] at hb'
 obtain rfl : b = b' := by simpa using hb'
 have ho : L.own = true := by rw [← hbr.own]; exact hown
 have hLs : L.sz = 1 := by rw [← hbr.sz, hsz]
 obtain ⟨cs, ct, fr, hhp, hel, hr2⟩ := hbr.cells
 obtain ⟨hoff, hcapL, hlenL, hfr, rfl⟩ := hr2 ho
 have hlt := h.lt hk
 have hyl : ys.length ≤ zs.length := by
   rcases Nat.lt_or_ge zs.length ys.length with h' | h'
   · have := hys zs.length ys[zs.length] (List.getElem?_eq_getElem h')
     rw [List.getElem?_eq_none (Nat.le_refl _)] at this; simp at this
   · exact h'
 have hzc : zs.length ≤ cs.size := by rw [hLs, Nat.mul_one] at hcapL; omega
 have hh1 : (putRow (Value.int .i64) (Sort.ahead w n) L.blk L.off zs.toArray).heap = w.heap.setIfInBounds L.blk (.cells (putCells (Value.int .i64) L.off zs.toArray cs) b.ty fr) := by
   show w.heap.modify L.blk (onCells (putCells (Value.int .i64) L.off zs.toArray)) = _
   apply Array.ext_getElem?
   intro q
   rw [Array.getElem?_modify, Array.getElem?_setIfInBounds]
   by_cases e : L.blk = q
   · subst e
     rw [if_pos rfl, if_pos rfl, if_pos hlt, hhp]; rfl
   · rw [if_neg e, if_neg e]
 have hsz' : (putCells (Value.int .i64) L.off zs.toArray cs).size = cs.size := by simp [putCells]
 have R1 : Rel P ρ (H.set k (some ⟨ys.map (Value.int .i64), b.ty, true, b.wr⟩)) (putRow (Value.int .i64) (Sort.ahead w n) L.blk L.off zs.toArray) := by
   refine h.write (b := b) (b' := ⟨ys.map (Value.int .i64), b.ty, true, b.wr⟩) hk ho hh1 rfl rfl hbr.sz ?_ ⟨hoff, by rw [hsz']; exact hcapL, by simp only [List.length_map]; omega, by rw [hsz']; exact hfr⟩
   intro i e he
   rw [List.getElem?_map] at he
   cases hy : ys[i]? with
   | none => rw [hy] at he; simp at he
   | some y =>
     rw [hy] at he
     obtain rfl : Value.int .i64 y = e := by simpa using he
     have hz := hys i y hy
     obtain ⟨hi, hz'⟩ := List.getElem?_eq_some_iff.1 hz
     refine ⟨hLs ▸ rfl, ?_⟩
     rw [hoff, hLs, Nat.zero_add, Nat.mul_one]
     have hc : (putCells (Value.int .i64) 0 zs.toArray cs).toList.drop i = Value.int .i64 y :: (putCells (Value.int .i64) 0 zs.toArray cs).toList.drop (i + 1) := by
       rw [List.drop_eq_getElem_cons (by simp [putCells]; omega)]
       congr 1
       simp [putCells, hi, hz']
     rw [hc]
     exact .cons _ _ _ _ (.int _ _) .nil
 have S1 : Step ρ H w ρ (H.set k (some ⟨ys.map (Value.int .i64), b.ty, true, b.wr⟩)) (putRow (Value.int .i64) (Sort.ahead w n) L.blk L.off zs.toArray) :=
   Step.write hk ho hh1 rfl rfl rfl
 exact ⟨R1.grown rfl, S1.trans (Step.grown rfl rfl rfl rfl)⟩
theorem Rel.holds {k : Nat} {L : Loc} {b : Blk} {zs : List Int} (h : Rel P ρ H w) (hk : ρ k = some (some L)) (hb : H[k]? = some (some b)) (hown : b.own = true) (hsz : P.cellsOf b.ty = 1)
   (he : b.elems = zs.map (Value.int .i64)) : Holds (Value.int .i64) w L.blk L.off zs.toArray := by
 obtain ⟨b', hb', hbr⟩ := h.blk k L hk
 rw [hb] at hb'
 obtain rfl : b = b' := by simpa using hb'
 have ho : L.own = true := by rw [← hbr.own]; exact hown
 have hLs : L.sz = 1 := by rw [← hbr.sz, hsz]
 obtain ⟨cs, ct, fr, hhp, hel, hr2⟩ := hbr.cells
 obtain ⟨hoff, hcapL, hlenL, hfr, rfl⟩ := hr2 ho
 rw [hLs, Nat.mul_one] at hcapL
 rw [he, List.length_map] at hlenL
 intro j hj
 simp only [List.size_toArray] at hj
 have hjc : j < cs.size := by omega
 rw [hoff, Nat.zero_add]
 have := (hel j (Value.int .i64 zs[j]) (by rw [he, List.getElem?_map, List.getElem?_eq_getElem hj]; rfl)).2
 rw [hoff, hLs, Nat.zero_add, Nat.mul_one, List.drop_eq_getElem_cons (by simpa using hjc)] at this
 have hv : cs[j] = Value.int .i64 zs[j] := by
   obtain ⟨c, h1, h2⟩ := this.get 0 _ rfl
   have h3 := h2.int_inv
   subst h3
   simpa using h1
 constructor
 · rw [cell_at hhp, Array.getElem?_eq_getElem hjc, hv]
   simp [hj]
 · have := hfr j (Nat.le_of_lt hjc)
   simp only [World.frozen?, hhp]
   simpa using this
end
section
variable {P : Program} [LaidP P] {H : AHeap} {F0 : List Nat} {E : TypeId}
theorem els_ints {es : List Value} {xs : List Int} {G : List Nat} (h : Els (roE rdInt) H es xs G) : es = xs.map (Value.int .i64) ∧ G = [] := by
 induction h with
 | nil => exact ⟨rfl, rfl⟩
 | cons h _ ih => exact ⟨by rw [ih.1, h.2]; rfl, by rw [ih.2, h.1]; rfl⟩
theorem ints_els : ∀ (xs : List Int), Els (roE rdInt) H (xs.map (Value.int .i64)) xs []
 | [] => .nil
 | x :: xs => by simpa using Els.cons (Ro := roE rdInt) (F := []) ⟨rfl, rfl⟩ (ints_els xs)
theorem Ctx.setrow {k m m' : Nat} {b : Blk} {xs ys : List Int} (hctx : Ctx H F0 H [cown (OwnS E (roE rdInt)) [k] (.slice (some ⟨k, 0, none⟩) xs.length m) xs]) (h3 : H[k]? = some (some b)) (h4 : b.wr = true) (h6 : b.ty = E)
   (hm : m' = 1 ∨ m' = 2) (hb : ys.length < 4611686018427387904) :
   Ctx H F0 (H.set k (some ⟨ys.map (Value.int .i64), b.ty, true, b.wr⟩)) [cown (OwnS E (roE rdInt)) [k] (.slice (some ⟨k, 0, none⟩) ys.length m') ys] := by
 have hne : ∀ q, q ≠ k → (H.set k (some ⟨ys.map (Value.int .i64), b.ty, true, b.wr⟩))[q]? = H[q]? := fun q hq => by rw [List.getElem?_set_ne (fun e => hq e.symm)]
 have hkl := lt_of_get h3
 refine ⟨by simp, ?_, fun q hq hqF => hne q (fun e => hqF ?_), ?_, by simp [foot, cown], fun q hq => ?_⟩
 · intro q b2 hq hw2
   rw [hne q (fun e => by subst e; rw [hq] at h3; injection h3 with h3; injection h3 with h3; rw [h3] at hw2; rw [hw2] at h4; simp at h4)]
   exact hq
 · subst e
   rcases (hctx.own q (by simp [foot, cown])).1 with h | h
   · exact h
   · omega
 · intro c hcm
   simp at hcm; subst hcm
   exact .inr ⟨k, m', _, [], rfl, hm, List.getElem?_set_self hkl, h4, rfl, h6, hb, rfl, ints_els ys⟩
 · have hqk : q = k := by simpa [foot, cown] using hq
   subst hqk
   exact ⟨(hctx.own q (by simp [foot, cown])).1, by simpa using hkl⟩
theorem relvs_one {ρ : Rho} {v : Value} {cargs : Array Value} (h : RelVs ρ [v] cargs.toList) : ∃ c, cargs = #[c] ∧ RelV ρ v c := by
 obtain ⟨l⟩ := cargs
 cases h with
 | cons _ c _ _ h t => cases t; exact ⟨c, rfl, h⟩
theorem Spec_sort {g : FuncId} {F : List Nat} {v : Value} {xs : List Int} (hty : TY P E 1 8 (.int .i64 0))
   (h1 : ∀ (p : Option Addr) cap w, Calls P g #[.slice p 0 cap] w fun e w' => e = .returned (.tuple #[]) ∧ w' = w)
   (h2 : ∀ blk off cap (zs : List Int) w, Holds (Value.int .i64) w blk off zs.toArray → blk < w.heap.size → zs.length < 4611686018427387904 → Calls P g #[.slice (some ⟨blk, off, none⟩) zs.length cap] w fun e w' =>
     e = .returned (.tuple #[]) ∧ ∃ n os, w' = grow (putRow (Value.int .i64) (Sort.ahead w n) blk off (zs.mergeSort fun x y => decide (x ≤ y)).toArray) os) :
   Fw.Spec P g [v] [cown (OwnS E (roE rdInt)) F v xs] (fun _ : List Nat => .tuple [].toArray) (fun p => [cown (OwnS E (roE rdInt)) p v (xs.mergeSort fun x y => decide (x ≤ y))]) := by
 intro H F0 hctx ρ w cargs hr hargs
 obtain ⟨c, rfl, hc⟩ := relvs_one hargs
 have ho : OwnS E (roE rdInt) F H v xs := hctx.hold _ (List.mem_singleton.2 rfl)
 rcases ho with ⟨rfl, rfl, rfl⟩ | ⟨k, m, b, G, rfl, hm, h3, h4, h5, h6, h7, rfl, h9⟩
 · cases hc with
   | nilSlice =>
     refine (h1 none 0 w).mono ?_
     rintro e w' ⟨rfl, rfl⟩
     exact ⟨_, _, ρ, H, rfl, .tuple [] [] .nil, hr, Step.refl _ _ _, _, rfl, by simpa using hctx⟩
 · obtain ⟨-, rfl⟩ : b.elems = xs.map (Value.int .i64) ∧ G = [] := els_ints h9
   have hel := (els_ints h9).1
   obtain ⟨L, p, cap, hl, hbr, rfl, hcap, g1, g2, gp⟩ := hc.slice_inv hr h3
   rcases xs with _ | ⟨x, xs⟩
   · refine (h1 (some p) cap w).mono ?_
     rintro e w' ⟨rfl, rfl⟩
     exact ⟨_, _, ρ, H, rfl, .tuple [] [] .nil, hr, Step.refl _ _ _, _, rfl, by simpa using hctx⟩
   · have hp := gp (by simp)
     rw [Nat.zero_mul, Nat.add_zero] at hp
     subst hp
     have hcz : P.cellsOf b.ty = 1 := by rw [h6]; exact hty.sz.cells
     refine (h2 L.blk L.off cap (x :: xs) w (hr.holds hl h3 h5 hcz hel) (hr.lt hl) h7).mono ?_
     rintro e w' ⟨rfl, n, os, rfl⟩
     have hlen : ((x :: xs).mergeSort fun x y => decide (x ≤ y)).length = (x :: xs).length := List.length_mergeSort _
     obtain ⟨r1, r2⟩ := hr.row (n := n) (os := os) (zs := (x :: xs).mergeSort fun x y => decide (x ≤ y)) (ys := (x :: xs).mergeSort fun x y => decide (x ≤ y)) hl h3 h5 hcz (by rw [hel, List.length_map, hlen]) (fun _ _ h => h)
     have := Ctx.setrow (ys := (x :: xs).mergeSort fun x y => decide (x ≤ y)) hctx h3 h4 h6 hm (by rw [hlen]; exact h7)
     rw [hlen] at this
     exact ⟨_, _, ρ, _, rfl, .tuple [] [] .nil, r1, r2, _, rfl, this⟩
theorem Spec_compact {g : FuncId} {F : List Nat} {v : Sv} {xs : List Int} {cm : List Int → List Int} (hty : TY P E 1 8 (.int .i64 0)) (hle : ∀ zs, (cm zs).length ≤ zs.length) (hnil : cm [] = [])
   (h1 : ∀ (p : Option Addr) cap w, Calls P g #[.slice p 0 cap] w fun e w' => e = .returned (.slice p 0 cap) ∧ w' = w)
   (h2 : ∀ blk off cap (zs : List Int) w, Holds (Value.int .i64) w blk off zs.toArray → zs.length ≤ 9223372036854775807 → zs.length ≤ cap → Calls P g #[.slice (some ⟨blk, off, none⟩) zs.length cap] w fun e w' =>
     e = .returned (.slice (some ⟨blk, off, none⟩) (cm zs).length cap) ∧ ∃ q, w' = putRow (Value.int .i64) (Sort.ahead w q) blk off (cm zs ++ List.replicate (zs.length - (cm zs).length) 0).toArray) :
   Fw.Spec P g [v.v] [cown (OwnS E (roE rdInt)) F v.v xs] (fun p : Sv × List Nat => p.1.v) (fun p => [cown (OwnS E (roE rdInt)) p.2 p.1.v (cm xs)]) := by
 intro H F0 hctx ρ w cargs hr hargs
 obtain ⟨c, rfl, hc⟩ := relvs_one hargs
 have ho : OwnS E (roE rdInt) F H v.v xs := hctx.hold _ (List.mem_singleton.2 rfl)
 have ho' := ho
 rcases ho with ⟨hv, rfl, rfl⟩ | ⟨k, m, b, G, hv, hm, h3, h4, h5, h6, h7, rfl, h9⟩
 · have hc' := hc
   rw [hv] at hc
   cases hc with
   | nilSlice =>
     refine (h1 none 0 w).mono ?_
     rintro e w' ⟨rfl, rfl⟩
     exact ⟨_, _, ρ, H, rfl, hc', hr, Step.refl _ _ _, (v, []), rfl, by simpa [hnil] using hctx⟩
 · obtain ⟨-, rfl⟩ : b.elems = xs.map (Value.int .i64) ∧ G = [] := els_ints h9
   have hel := (els_ints h9).1
   have hc' := hc
   rw [hv] at hc
   obtain ⟨L, p, cap, hl, hbr, rfl, hcap, g1, g2, gp⟩ := hc.slice_inv hr h3
   rcases xs with _ | ⟨x, xs⟩
   · refine (h1 (some p) cap w).mono ?_
     rintro e w' ⟨rfl, rfl⟩
     exact ⟨_, _, ρ, H, rfl, hc', hr, Step.refl _ _ _, (v, [k]), rfl, by simpa [hnil] using hctx⟩
   · have hp := gp (by simp)
     rw [Nat.zero_mul, Nat.add_zero] at hp
     subst hp
     have hcz : P.cellsOf b.ty = 1 := by rw [h6]; exact hty.sz.cells
     have hown : L.own = true := by rw [← hbr.own]; exact h5
     refine (h2 L.blk L.off cap (x :: xs) w (hr.holds hl h3 h5 hcz hel) (by omega) hcap).mono ?_
     rintro e w' ⟨rfl, n, rfl⟩
     have hlen := hle (x :: xs)
     obtain ⟨r1, r2⟩ := hr.row (n := n) (os := #[]) (zs := cm (x :: xs) ++ List.replicate ((x :: xs).length - (cm (x :: xs)).length) 0) (ys := cm (x :: xs)) hl h3 h5 hcz (by rw [hel, List.length_map, List.length_append, List.length_replicate]; omega)
       (fun i y h => by rw [List.getElem?_append_left (List.getElem?_eq_some_iff.1 h).1]; exact h)
     rw [grow_empty] at r1 r2
     have hcc : cap ≤ L.cap := by
       rcases hm with rfl | rfl
       · have := g1 rfl; omega
       · exact (g2 (Nat.le_refl _)).2.2.1
     rw [hv] at hctx
     have := Ctx.setrow (ys := cm (x :: xs)) (m' := 2) hctx h3 h4 h6 (.inr rfl) (by omega)
     refine ⟨_, .slice (some ⟨k, 0, none⟩) (cm (x :: xs)).length 2, ρ, _, rfl, .slice _ _ _ _ L _ cap hl (by omega) (by simp) (fun _ => ⟨rfl, hown, hcc, rfl, by omega⟩) (fun _ => ⟨by simp, fun _ => by omega⟩), r1, r2, (⟨some ⟨k, 0, none⟩, (cm (x :: xs)).length, 2⟩, [k]), rfl, this⟩
end
theorem compact_le (zs : List Int) : (Lib.compact zs).length ≤ zs.length := by
 unfold Lib.compact Lib.compactUpTo
 rw [List.length_map]
 exact Nat.le_trans (List.length_filter_le _ _) (Nat.le_of_eq List.length_range)
end Go.Fw
/-
 slices.Insert at slices of our own: capacities, copy, overlaps, append of a make.
-/
set_option linter.unusedVariables false
namespace Go.Fw
open Go
def rvs (s : Nat) (_ : AHeap) (e q : Value) : Prop := e = q ∧ e.cells.size = s ∧ e.cells.toList.all scal = true
instance {s : Nat} : Pure (rvs s) := ⟨fun h => h⟩
instance {s : Nat} : Cells (rvs s) s := ⟨fun h => h.2⟩
section
variable {H : AHeap} {s : Nat}
theorem els_rv {es xs : List Value} {G : List Nat} (h : Els (roE (rvs s)) H es xs G) : es = xs ∧ G = [] ∧ ∀ e ∈ es, e.cells.size = s ∧ e.cells.toList.all scal = true := by
 induction h with
 | nil => exact ⟨rfl, rfl, by simp⟩
 | cons h _ ih =>
   refine ⟨by rw [ih.1, h.2.1], by rw [ih.2.1, h.1]; rfl, fun e he => ?_⟩
   rcases List.mem_cons.1 he with rfl | he
   · exact h.2.2
   · exact ih.2.2 e he
theorem rv_els : ∀ {es : List Value}, (∀ e ∈ es, e.cells.size = s ∧ e.cells.toList.all scal = true) → Els (roE (rvs s)) H es es []
 | [], _ => .nil
 | e :: es, h => by simpa using Els.cons (Ro := roE (rvs s)) (F := []) ⟨rfl, rfl, h e (by simp)⟩ (rv_els fun x hx => h x (by simp [hx]))
end
theorem RelF.relabel {ρ : Rho} {n t : Nat} {f : Fr} {a : Act} {v : Value} (h : RelF ρ n f a) (hv : RelV ρ v (a.tmps.getD t undef)) : RelF ρ n (upd f t v) a :=
 ⟨h.defers, h.size, fun u hu => by
   by_cases e : u = t
   · subst e; rw [upd_self]; exact hv
   · rw [upd_ne _ _ e]; exact h.get u hu⟩
theorem splice_win {α : Type} (l : List α) (p t m : Nat) (vs : List α) (hp : p ≤ l.length) (h : t + m ≤ vs.length) : ((splice l p vs).drop (p + t)).take m = (vs.drop t).take m := by
 have hl : (l.take p).length = p := by simp; omega
 unfold splice
 rw [List.append_assoc, ← List.drop_drop, List.drop_append_of_le_length (by omega), List.drop_of_length_le (l := l.take p) (by omega), List.nil_append, List.drop_append_of_le_length (by omega), List.take_append_of_le_length (by simp; omega)]
section
variable {P : Program} [LaidP P] {ρ : Rho} {H : AHeap} {w : World}
theorem Rel.copyIn {k a s : Nat} {L : Loc} {b : Blk} {S : List Value} {vs : List Value} (h : Rel P ρ H w) (hk : ρ k = some (some L)) (hb : H[k]? = some (some b)) (hown : b.own = true) (hsz : P.cellsOf b.ty = s)
   (hS : ∀ e ∈ S, e.cells.size = s ∧ e.cells.toList.all scal = true) (hv : RelVs ρ (flat S) vs) (ha : a ≤ b.elems.length) (hcap : a + S.length ≤ L.cap) :
   ∃ w', (storeCells ⟨L.blk, L.off + a * s, none⟩ vs).run P w = .ok () w' ∧
     Rel P ρ (H.set k (some ⟨b.elems.take a ++ S ++ b.elems.drop (a + S.length), b.ty, true, b.wr⟩)) w' ∧ Step ρ H w ρ (H.set k (some ⟨b.elems.take a ++ S ++ b.elems.drop (a + S.length), b.ty, true, b.wr⟩)) w' := by
 obtain ⟨b', hb', hbr⟩ := h.blk k L hk
 rw [hb] at hb'
 obtain rfl : b = b' := by simpa using hb'
 have ho : L.own = true := by rw [← hbr.own]; exact hown
 have hLs : L.sz = s := by rw [← hbr.sz, hsz]
 obtain ⟨cs, ct, fr, hhp, hel, hr2⟩ := hbr.cells
 obtain ⟨hoff, hcapL, hlenL, hfr, rfl⟩ := hr2 ho
 have hvl : vs.length = S.length * s := by rw [← hv.length, flat_length S fun e he => (hS e he).1]
 have hcs : (a + S.length) * s ≤ cs.size := Nat.le_trans (by rw [hLs]; exact Nat.mul_le_mul_right _ hcap) hcapL
 have hbd : a * s + vs.length ≤ cs.size := by rw [hvl, ← Nat.add_mul]; exact hcs
 have hscal : ∀ c ∈ vs, scal c = true := by
   intro c hc
   obtain ⟨q, hq⟩ := List.mem_iff_getElem?.1 hc
   have hql : q < (flat S).length := by rw [hv.length]; exact (List.getElem?_eq_some_iff.1 hq).1
   obtain ⟨c', hc', hrc⟩ := hv.get q _ (List.getElem?_eq_getElem hql)
   rw [hc'] at hq
   obtain rfl : c' = c := by simpa using hq
   rw [hrc.scal]
   have hm := List.getElem_mem hql
   simp only [flat, List.mem_flatMap] at hm
   obtain ⟨e, he, hx⟩ := hm
   exact List.all_eq_true.1 (hS e he).2 _ hx
 obtain ⟨w', hrun, hw', w1, w2, w3⟩ := run_storeCells P (b := L.blk) (o := L.off + a * s) vs 0 cs w hhp (fun o h => hfr o (Nat.le_of_lt h)) hscal (by rw [hoff]; omega)
 rw [hoff, Nat.zero_add, Nat.add_zero] at hw'
 have hsl : (splice cs.toList (a * s) vs).length = cs.size := by rw [splice_length _ _ _ (by simpa using hbd)]; simp
 refine ⟨w', hrun, h.write (b' := ⟨b.elems.take a ++ S ++ b.elems.drop (a + S.length), b.ty, true, b.wr⟩) hk ho hw' rfl rfl hbr.sz ?_ ⟨hoff, by simp only [List.size_toArray]; rw [hsl]; exact hcapL, ?_, by simp only [List.size_toArray]; rw [hsl]; exact hfr⟩, Step.write hk ho hw' w1 w2 w3⟩
 · intro q e he
   rw [hoff, hLs, Nat.zero_add]
   show e.cells.size = s ∧ RelVs ρ e.cells.toList (((splice cs.toList (a * s) vs).drop (q * s)).take s)
   have hta : (b.elems.take a).length = a := by simp; omega
   have hold : b.elems[q]? = some e → (q < a ∨ a + S.length ≤ q) → e.cells.size = s ∧ RelVs ρ e.cells.toList (((splice cs.toList (a * s) vs).drop (q * s)).take s) := by
     intro h1 h2
     have := hel q e h1
     rw [hoff, hLs, Nat.zero_add] at this
     refine ⟨this.1, ?_⟩
     rw [splice_out _ _ _ _ _ (h2.imp (fun h => by rw [← Nat.succ_mul]; exact Nat.mul_le_mul_right _ h) (fun h => by rw [hvl, ← Nat.add_mul]; exact Nat.mul_le_mul_right _ h)) (by simpa using hbd)]
     exact this.2
   rcases Nat.lt_or_ge q a with h1 | h1
   · refine hold ?_ (.inl h1)
     rw [List.append_assoc, List.getElem?_append_left (by omega), List.getElem?_take_of_lt h1] at he
     exact he
   rcases Nat.lt_or_ge q (a + S.length) with h2 | h2
   · rw [List.getElem?_append_left (by simp; omega), List.getElem?_append_right (by omega), hta] at he
     have := RelVs.elems (ρ := ρ) S vs [] hv (fun e he => (hS e he).1) (q - a) e he
     rw [List.append_nil] at this
     refine ⟨(hS e (List.mem_of_getElem? he)).1, ?_⟩
     have hw : q * s = a * s + (q - a) * s := by rw [← Nat.add_mul]; congr 1; omega
     rw [hw, splice_win _ _ _ _ _ (by simp; omega) (by rw [hvl, ← Nat.succ_mul]; exact Nat.mul_le_mul_right _ (by omega))]
     exact this
   · refine hold ?_ (.inr h2)
     rw [List.getElem?_append_right (by simp; omega), List.getElem?_drop] at he
     simp only [List.length_append, hta] at he
     rwa [show a + S.length + (q - (a + S.length)) = q by omega] at he
 · simp only [List.length_append, List.length_take, List.length_drop]; omega
theorem Rel.cellsOf {k i m s : Nat} {L : Loc} {b : Blk} (h : Rel P ρ H w) (hk : ρ k = some (some L)) (hb : H[k]? = some (some b)) (hsz : P.cellsOf b.ty = s) (hs0 : 0 < s) (him : i + m ≤ b.elems.length) :
   ∃ cells : Array Value, (loadCells ⟨L.blk, L.off + i * L.sz, none⟩ (m * s)).run P w = .ok cells w ∧ RelVs ρ (flat ((b.elems.drop i).take m)) cells.toList := by
 obtain ⟨b', hb', hbr⟩ := h.blk k L hk
 rw [hb] at hb'
 obtain rfl : b = b' := by simpa using hb'
 have hLs : L.sz = s := by rw [← hbr.sz, hsz]
 obtain ⟨cs, ct, fr, hhp, hel, hr2⟩ := hbr.cells
 have hlen : ((b.elems.drop i).take m).length = m := by rw [List.length_take, List.length_drop]; omega
 have hget : ∀ (q : Nat) e, ((b.elems.drop i).take m)[q]? = some e → e.cells.size = s ∧ RelVs ρ e.cells.toList ((cs.toList.drop (L.off + i * L.sz + q * L.sz)).take L.sz) := by
   intro q e he
   have hq : q < m := by
     rcases Nat.lt_or_ge q m with h | h
     · exact h
     · rw [List.getElem?_eq_none (by omega)] at he; simp at he
   rw [List.getElem?_take_of_lt hq, List.getElem?_drop] at he
   have := hel (i + q) e he
   rw [Nat.add_mul, ← Nat.add_assoc] at this
   exact ⟨this.1.trans hLs, this.2⟩
 have hrel : RelVs ρ (flat ((b.elems.drop i).take m)) ((cs.toList.drop (L.off + i * L.sz)).take (m * L.sz)) := by
   have := RelVs.window (ρ := ρ) (cs := cs.toList) (sz := L.sz) ((b.elems.drop i).take m) (L.off + i * L.sz) (fun q e he => ⟨(hget q e he).2, (hget q e he).1.trans hLs.symm⟩)
   rwa [hlen] at this
 by_cases hm : m = 0
 · subst hm
   exact ⟨#[], by simp [loadCells, loadCellsFrom], by simpa using hrel⟩
 · have hbd : L.off + i * L.sz + m * s ≤ cs.size := by
     obtain ⟨e, he⟩ : ∃ e, ((b.elems.drop i).take m)[m - 1]? = some e := ⟨_, List.getElem?_eq_getElem (by omega)⟩
     obtain ⟨h1, h2⟩ := hget (m - 1) e he
     have := h2.length
     simp only [Array.length_toList, List.length_take, List.length_drop] at this
     have h3 : (m - 1) * L.sz + L.sz = m * s := by rw [hLs]; rw [← Nat.succ_mul]; congr 1; omega
     omega
   refine ⟨_, run_loadCells P hhp (m * s) hbd, ?_⟩
   rw [hLs] at hrel ⊢
   simpa using hrel
end
section
variable {P : Program} [LaidP P] {n : Nat} {f : Fr} {H0 : AHeap} {F0 : List Nat} {cs : List Comp} {A : Array Oper} {r : List Oper} {K : Fr → List Comp → Prop} {d : Option Tmp} {x y z : Operand} {T T2 T' E : TypeId} {ts : List TypeId} {ps : String} {af : Array Edge} {gd : Option (Nat × Bool)} {s : Nat} {t : Tmp} {c1 : Code} {Q : Exit → Fr → List Comp → Prop}
theorem K_cap {α : Type} {Ro : ORel α} [Keep Ro] {F : List Nat} {xs : List α} {v : Value} {k l m : Nat} (hv : f t = .slice (some ⟨k, 0, none⟩) l m) (ht : Nat.blt t n = true) (hm : m = 1 ∨ m = 2) (hl : l ≠ 0) (hc : Mem (cown (OwnS E Ro) F v xs) cs) (hk : idOf v = some k)
   (h : ∀ c, l ≤ c → CW P n H0 F0 c1 Q (upd f t (.slice (some ⟨k, 0, none⟩) l (c + 3))) cs) : CW P n H0 F0 c1 Q f cs := by
 intro H hctx ρ w a hr hf
 have ho : OwnS E Ro F H v xs := hctx.mem hc
 obtain ⟨-, m', b, G, hv', -, h3, -, h5, -⟩ := ho.head hk
 have hg := hf.get t (by simpa [Nat.blt_eq] using ht)
 rw [hv] at hg
 obtain ⟨L, p, cap, hl', hbr, hc', hcap, g1, g2, gp⟩ := hg.slice_inv hr h3
 obtain ⟨L2, hl2, hx⟩ := hg.slice_ext hr h3 hl
 rw [hl'] at hl2
 obtain rfl : L = L2 := by simpa using hl2
 have hown : L.own = true := by rw [← hbr.own]; exact h5
 obtain ⟨cs0, ct, fr, -, -, hr2⟩ := hbr.cells
 obtain ⟨hoff, -⟩ := hr2 hown
 have hpp := gp hl
 rw [Nat.zero_mul, Nat.add_zero] at hpp
 have hcL : cap ≤ L.cap := by
   rcases hm with rfl | rfl
   · have := g1 rfl; omega
   · exact (g2 (Nat.le_refl _)).2.2.1
 refine h cap hcap H hctx ρ w a hr (hf.relabel ?_)
 rw [hc']
 exact .slice k 0 l (cap + 3) L p cap hl' hcap (by omega) (fun _ => ⟨rfl, hown, hcL, hpp, fun _ => rfl⟩) (fun _ => ⟨by rw [hpp]; simp, hx⟩)
theorem K_uncap {k l c : Nat} (hv : f t = .slice (some ⟨k, 0, none⟩) l (c + 3)) (ht : Nat.blt t n = true) (h : CW P n H0 F0 c1 Q (upd f t (.slice (some ⟨k, 0, none⟩) l 2)) cs) : CW P n H0 F0 c1 Q f cs := by
 intro H hctx ρ w a hr hf
 refine h H hctx ρ w a hr (hf.relabel ?_)
 have hg := hf.get t (by simpa [Nat.blt_eq] using ht)
 rw [hv] at hg
 generalize a.tmps.getD t undef = u at hg
 cases hg with
 | slice _ _ _ _ L p cap hl hc h1 h2 hp =>
   obtain ⟨e1, e2, e3, e4, -⟩ := h2 (by omega)
   exact .slice _ _ _ _ L p cap hl hc (by simp) (fun _ => ⟨e1, e2, e3, e4, by omega⟩) hp
 | sliceDead _ _ _ _ p cap hl => exact .sliceDead _ _ _ _ p cap hl
theorem V_cap {H : AHeap} {k l c : Nat} {b : Blk} (hT : SL P T E) (hx : EV n f x (.slice (some ⟨k, 0, none⟩) l (c + 3))) (hk : H[k]? = some (some b)) :
   VOp P n ⟨d, .call ⟨.builtin .cap, [x].toArray, (T :: ts).toArray⟩, T', ps, af, none⟩ f H (.int .i64 (c : Int)) := by
 intro ρ w a hr hf
 obtain ⟨L, p, cap, hl', hbr, hc', hcap, g1, g2, gp⟩ := (hx.use hf).slice_inv hr hk
 have := (g2 (by omega)).2.2.2.2 (by omega)
 obtain rfl : cap = c := by omega
 have hu : P.underlying T = some (.slice E) := hT
 exact ⟨.int .i64 cap, by simp [execOp, resolve, invoke, builtin, Builtin.cap_, hc', goInt, underlying, hu], .int _ _⟩
theorem V_sliceCap {H : AHeap} {k l c : Nat} {b : Blk} {kk : IntKind} {j : Nat} (hT : SL P T E) (hs : SZ P E s) (hx : EV n f x (.slice (some ⟨k, 0, none⟩) l (c + 3))) (hy : EV n f y (.int kk (j : Int))) (hk : H[k]? = some (some b)) (hj : j ≤ c) :
   VOp P n ⟨d, .slice T x none (some y) none, T', ps, af, none⟩ f H (.slice (some ⟨k, 0, none⟩) j (c + 3)) := by
 intro ρ w a hr hf
 obtain ⟨L, p, cap, hl, hb, hc, hcap, h1, h2, hp⟩ := (hx.use hf).slice_inv hr hk
 obtain ⟨-, hown, hcL, hpp, h5⟩ := h2 (by omega)
 have := h5 (by omega)
 obtain rfl : cap = c := by omega
 have hyv : a.eval y = .int kk (j : Int) := (hy.use hf).int_inv
 have hu : P.underlying T = some (.slice E) := hT
 have he : P.elem T = E := by simp [Program.elem, hu]
 have hu2 : P.underlying T = some (.slice (P.elem T)) := by rw [he]; exact hu
 obtain ⟨cs0, ct, fr, -, -, hr2⟩ := hb.cells
 obtain ⟨hoff, -⟩ := hr2 hown
 refine ⟨sliced (some p) 0 j cap s, ?_, ?_⟩
 · have hrun := run_slice_h (P := P) w T (some p) l cap hu2 kk (j : Int) (by omega) (by omega)
   rw [he, hs.run, Result.andThen] at hrun
   have h2' := run_sliceAt_slice (P := P) w T (.slice (some p) l cap) none (some (.int kk (j : Int))) none hu2
   rw [Int.toNat_natCast] at hrun
   simp [execOp, hc, hyv, h2', hrun]
 · have hq : sliced (some p) 0 j cap s = .slice (some p) j cap := by
     unfold sliced
     by_cases e : cap = 0
     · rw [if_pos (by omega)]; simp
     · rw [if_neg (by omega)]
       simp [Addr.add]
   rw [hq]
   exact RelV.slice k 0 _ (cap + 3) L p _ hl hj (by omega) (fun _ => ⟨rfl, hown, hcL, hpp, fun _ => rfl⟩) (fun _ => ⟨by rw [hpp]; simp, fun _ => by omega⟩)
end
section
variable {H : AHeap} {F0 : List Nat} {E : TypeId} {s : Nat}
theorem Ctx.setw {rest : List Comp} {k m' : Nat} {b : Blk} {u : Value} {es es' : List Value} (hctx : Ctx H F0 H (cown (OwnS E (roE (rvs s))) [k] u es :: rest)) (h3 : H[k]? = some (some b)) (h4 : b.wr = true) (h6 : b.ty = E)
   (hm : m' = 1 ∨ m' = 2) (hb : es'.length < 4611686018427387904) (hes : ∀ e ∈ es', e.cells.size = s ∧ e.cells.toList.all scal = true) :
   Ctx H F0 (H.set k (some ⟨es', b.ty, true, b.wr⟩)) (cown (OwnS E (roE (rvs s))) [k] (.slice (some ⟨k, 0, none⟩) es'.length m') es' :: rest) := by
 have hne : ∀ q, q ≠ k → (H.set k (some ⟨es', b.ty, true, b.wr⟩))[q]? = H[q]? := fun q hq => by rw [List.getElem?_set_ne (fun e => hq e.symm)]
 have hkl := lt_of_get h3
 have hf1 : foot (cown (OwnS E (roE (rvs s))) [k] u es :: rest) = k :: foot rest := rfl
 have hf2 : foot (cown (OwnS E (roE (rvs s))) [k] (.slice (some ⟨k, 0, none⟩) es'.length m') es' :: rest) = k :: foot rest := rfl
 have himm : Imm H (H.set k (some ⟨es', b.ty, true, b.wr⟩)) := by
   intro q b2 hq hw2
   rw [hne q (fun e => by subst e; rw [hq] at h3; injection h3 with h3; injection h3 with h3; rw [h3] at hw2; rw [hw2] at h4; simp at h4)]
   exact hq
 have hnd := hctx.nd
 rw [hf1] at hnd
 refine ⟨by simp, himm, fun q hq hqF => hne q (fun e => hqF ?_), ?_, by rw [hf2]; exact hnd, fun q hq => ?_⟩
 · subst e
   rcases (hctx.own q (by rw [hf1]; simp)).1 with h | h
   · exact h
   · omega
 · intro c hcm
   rcases List.mem_cons.1 hcm with rfl | hcm2
   · exact .inr ⟨k, m', _, [], rfl, hm, List.getElem?_set_self hkl, h4, rfl, h6, hb, rfl, rv_els hes⟩
   · refine c.keep (hctx.hold c (by simp [hcm2])) himm fun q hq => hne q (fun e => ?_)
     subst e
     exact (List.nodup_cons.1 hnd).1 (List.mem_flatMap.2 ⟨c, hcm2, hq⟩)
 · rw [hf2, ← hf1] at hq
   have := hctx.own q hq
   exact ⟨this.1, by simpa using this.2⟩
theorem mem_ins {es S : List Value} {a : Nat} {p : Value → Prop} (h1 : ∀ e ∈ es, p e) (h2 : ∀ e ∈ S, p e) : ∀ e ∈ es.take a ++ S ++ es.drop (a + S.length), p e := by
 intro e he
 rw [List.mem_append, List.mem_append] at he
 rcases he with (h | h) | h
 · exact h1 e (List.mem_of_mem_take h)
 · exact h2 e h
 · exact h1 e (List.mem_of_mem_drop h)
end
section
variable {P : Program} [LaidP P] {n : Nat} {f : Fr} {d : Option Tmp} {x y : Operand} {T T2 T' E : TypeId} {ts : List TypeId} {ps : String} {af : Array Edge} {gd : Option (Nat × Bool)} {s : Nat}
theorem run_copy_own {w : World} {a : Act} {k k2 ia ja ld ls m1 m2 : Nat} {ρ : Rho} {H : AHeap} {b b2 : Blk} (hT : SL P T E) (hs : SZ P E s) (hs0 : 0 < s) (hr : Rel P ρ H w) (hf : RelF ρ n f a) (hx : EV n f x (.slice (some ⟨k, ia, none⟩) ld m1)) (hy : EV n f y (.slice (some ⟨k2, ja, none⟩) ls m2))
   (h3 : H[k]? = some (some b)) (h5 : b.own = true) (h6 : b.ty = E) (g3 : H[k2]? = some (some b2)) (g6 : b2.ty = E) (hld : ld ≠ 0) (hls : ls ≠ 0) (hj : ja + min ls ld ≤ b2.elems.length) (ha : ia ≤ b.elems.length)
   (hS : ∀ e ∈ b2.elems, e.cells.size = s ∧ e.cells.toList.all scal = true) :
   ∃ w', (execOp a.eval ⟨d, .call ⟨.builtin .copy, [x, y].toArray, (T :: T2 :: ts).toArray⟩, T', ps, af, gd⟩).run P w = .ok (.value (.int .i64 ((min ls ld : Nat) : Int))) w' ∧
     Rel P ρ (H.set k (some ⟨b.elems.take ia ++ (b2.elems.drop ja).take (min ls ld) ++ b.elems.drop (ia + ((b2.elems.drop ja).take (min ls ld)).length), b.ty, true, b.wr⟩)) w' ∧
     Step ρ H w ρ (H.set k (some ⟨b.elems.take ia ++ (b2.elems.drop ja).take (min ls ld) ++ b.elems.drop (ia + ((b2.elems.drop ja).take (min ls ld)).length), b.ty, true, b.wr⟩)) w' := by
 obtain ⟨L, p, cap, hl, hbr, hc, -, -, -, hp⟩ := (hx.use hf).slice_inv hr h3
 obtain ⟨L', hl', hext⟩ := (hx.use hf).slice_ext hr h3 hld
 rw [hl] at hl'
 obtain rfl : L = L' := by simpa using hl'
 obtain ⟨L2, p2, cap2, hl2, hbr2, hc2, -, -, -, hp2⟩ := (hy.use hf).slice_inv hr g3
 have hown : L.own = true := by rw [← hbr.own]; exact h5
 have hLs : L.sz = s := by rw [← hbr.sz, h6, hs.cells]
 have hL2s : L2.sz = s := by rw [← hbr2.sz, g6, hs.cells]
 obtain ⟨cells, hrun1, hrel1⟩ := hr.cellsOf (i := ja) (m := min ls ld) hl2 g3 (by rw [g6, hs.cells]) hs0 hj
 have hlen : ((b2.elems.drop ja).take (min ls ld)).length = min ls ld := by rw [List.length_take, List.length_drop]; omega
 obtain ⟨w', hrun2, r1, r2⟩ := hr.copyIn (a := ia) (S := (b2.elems.drop ja).take (min ls ld)) (vs := cells.toList) hl h3 h5 (by rw [h6, hs.cells]) (fun e he => hS e (List.mem_of_mem_drop (List.mem_of_mem_take he))) hrel1 ha
   (by rw [hlen]; have := hext hown; have := Nat.min_le_right ls ld; omega)
 refine ⟨w', ?_, r1, r2⟩
 have hu : P.underlying T = some (.slice E) := hT
 have hpp := hp hld
 have hpp2 := hp2 hls
 rw [hLs] at hpp
 have hrun1' : (Builtin.firstCells s (min ls ld) (.slice (some p2) ls cap2)).run P w = .ok cells w := by rw [hpp2]; exact hrun1
 have hmin : Nat.min ls ld = min ls ld := rfl
 subst hpp
 simp [execOp, resolve, invoke, builtin, Builtin.copy_, hc, hc2, underlying, hu, hs.run, Builtin.lenOf, hmin, hrun1', hrun2, goInt]
theorem X_copy2 {F F2 : List Nat} {u u2 : Value} {es es2 : List Value} {k k2 ia ja ld ls m1 m2 : Nat} (hT : SL P T E) (hs : SZ P E s) (hs0 : Nat.blt 0 s = true) (hk : idOf u = some k) (hk2 : idOf u2 = some k2) (hx : EV n f x (.slice (some ⟨k, ia, none⟩) ld m1)) (hy : EV n f y (.slice (some ⟨k2, ja, none⟩) ls m2))
   (hld : ld ≠ 0) (hls : ls ≠ 0) (hj : ja + min ls ld ≤ es2.length) (ha : ia ≤ es.length) {es' : List Value} (he : es' = es.take ia ++ (es2.drop ja).take (min ls ld) ++ es.drop (ia + min ls ld)) (hb : es'.length < 4611686018427387904) :
   XC P n ⟨d, .call ⟨.builtin .copy, [x, y].toArray, (T :: T2 :: ts).toArray⟩, T', ps, af, gd⟩ f [cown (OwnS E (roE (rvs s))) F u es, cown (OwnS E (roE (rvs s))) F2 u2 es2] (fun _ : Unit => .int .i64 ((min ls ld : Nat) : Int))
     (fun _ => [cown (OwnS E (roE (rvs s))) F (.slice (some ⟨k, 0, none⟩) es'.length 2) es', cown (OwnS E (roE (rvs s))) F2 u2 es2]) := by
 intro H hctx
 have ho : OwnS E (roE (rvs s)) F H u es := hctx.hold (cown (OwnS E (roE (rvs s))) F u es) (by simp)
 have ho2 : OwnS E (roE (rvs s)) F2 H u2 es2 := hctx.hold (cown (OwnS E (roE (rvs s))) F2 u2 es2) (by simp)
 obtain ⟨-, m', b, G, -, -, h3, h4, h5, h6, -, rfl, h9⟩ := ho.head hk
 obtain ⟨-, m2', b2, G2, -, -, g3, -, -, g6, -, rfl, g9⟩ := ho2.head hk2
 obtain ⟨rfl, rfl, hes⟩ := els_rv h9
 obtain ⟨rfl, rfl, hes2⟩ := els_rv g9
 intro ρ w a K' Q' hr hf hkk
 have hlen : ((b2.elems.drop ja).take (min ls ld)).length = min ls ld := by rw [List.length_take, List.length_drop]; omega
 obtain ⟨w', hex, r1, r2⟩ := run_copy_own (d := d) (ts := ts) (T' := T') (ps := ps) (af := af) (gd := gd) (T2 := T2) hT hs (by simpa [Nat.blt_eq] using hs0) hr hf hx hy h3 h5 h6 g3 g6 hld hls hj ha hes2
 rw [hlen, ← he] at r1 r2
 show Oper.upon P _ a K' Q' _
 rw [hex]
 refine hkk _ _ _ _ _ (hf.put d (.int _ _)) r1 r2 ⟨(), rfl, ?_⟩
 refine hctx.setw h3 h4 h6 (.inr rfl) hb ?_
 have := mem_ins (a := ia) (p := fun e => e.cells.size = s ∧ e.cells.toList.all scal = true) hes (S := (b2.elems.drop ja).take (min ls ld)) (fun e he => hes2 e (List.mem_of_mem_drop (List.mem_of_mem_take he)))
 rw [hlen, ← he] at this
 exact this
theorem X_copyS {F : List Nat} {u : Value} {es : List Value} {k ia ja ld ls m1 m2 : Nat} (hT : SL P T E) (hs : SZ P E s) (hs0 : Nat.blt 0 s = true) (hk : idOf u = some k) (hx : EV n f x (.slice (some ⟨k, ia, none⟩) ld m1)) (hy : EV n f y (.slice (some ⟨k, ja, none⟩) ls m2))
   (hld : ld ≠ 0) (hls : ls ≠ 0) (hj : ja + min ls ld ≤ es.length) (ha : ia ≤ es.length) {es' : List Value} (he : es' = es.take ia ++ (es.drop ja).take (min ls ld) ++ es.drop (ia + min ls ld)) (hb : es'.length < 4611686018427387904) :
   XC P n ⟨d, .call ⟨.builtin .copy, [x, y].toArray, (T :: T2 :: ts).toArray⟩, T', ps, af, gd⟩ f [cown (OwnS E (roE (rvs s))) F u es] (fun _ : Unit => .int .i64 ((min ls ld : Nat) : Int))
     (fun _ => [cown (OwnS E (roE (rvs s))) F (.slice (some ⟨k, 0, none⟩) es'.length 2) es']) := by
 intro H hctx
 have ho : OwnS E (roE (rvs s)) F H u es := hctx.hold (cown (OwnS E (roE (rvs s))) F u es) (by simp)
 obtain ⟨-, m', b, G, -, -, h3, h4, h5, h6, -, rfl, h9⟩ := ho.head hk
 obtain ⟨rfl, rfl, hes⟩ := els_rv h9
 intro ρ w a K' Q' hr hf hkk
 have hlen : ((b.elems.drop ja).take (min ls ld)).length = min ls ld := by rw [List.length_take, List.length_drop]; omega
 obtain ⟨w', hex, r1, r2⟩ := run_copy_own (d := d) (ts := ts) (T' := T') (ps := ps) (af := af) (gd := gd) (T2 := T2) hT hs (by simpa [Nat.blt_eq] using hs0) hr hf hx hy h3 h5 h6 h3 h6 hld hls hj ha hes
 rw [hlen, ← he] at r1 r2
 show Oper.upon P _ a K' Q' _
 rw [hex]
 refine hkk _ _ _ _ _ (hf.put d (.int _ _)) r1 r2 ⟨(), rfl, ?_⟩
 refine hctx.setw h3 h4 h6 (.inr rfl) hb ?_
 have := mem_ins (a := ia) (p := fun e => e.cells.size = s ∧ e.cells.toList.all scal = true) hes (S := (b.elems.drop ja).take (min ls ld)) (fun e he => hes e (List.mem_of_mem_drop (List.mem_of_mem_take he)))
 rw [hlen, ← he] at this
 exact this
end
section
variable {P : Program} [LaidP P] {n : Nat} {f : Fr} {d : Option Tmp} {x y : Operand} {T T2 T' E B : TypeId} {ts : List TypeId} {ps : String} {af : Array Edge} {gd : Option (Nat × Bool)} {s : Nat}
theorem X_overlaps {g : FuncId} {F F2 : List Nat} {u u2 : Value} {es es2 : List Value} {k k2 ia ib la lb m1 m2 : Nat} (hT : SL P T E) (hs : SZ P E s) (hs0 : Nat.blt 0 s = true)
   (hov : ∀ args w, (callFunc g args).run P w = ((Extern.SlicesOverlaps.overlaps #[T, T] #[B] args).run P w).andThen fun v w' => .ok (.value v) w')
   (hk : idOf u = some k) (hk2 : idOf u2 = some k2) (hx : EV n f x (.slice (some ⟨k, ia, none⟩) la m1)) (hy : EV n f y (.slice (some ⟨k2, ib, none⟩) lb m2)) (hla : la ≠ 0) (hlb : lb ≠ 0) :
   XC P n ⟨d, .call ⟨.value (.func g), [x, y].toArray, ts.toArray⟩, T', ps, af, gd⟩ f [cown (OwnS E (roE (rvs s))) F u es, cown (OwnS E (roE (rvs s))) F2 u2 es2] (fun _ : Unit => .bool false)
     (fun _ => [cown (OwnS E (roE (rvs s))) F u es, cown (OwnS E (roE (rvs s))) F2 u2 es2]) := by
 intro H hctx
 have ho : OwnS E (roE (rvs s)) F H u es := hctx.hold (cown (OwnS E (roE (rvs s))) F u es) (by simp)
 have ho2 : OwnS E (roE (rvs s)) F2 H u2 es2 := hctx.hold (cown (OwnS E (roE (rvs s))) F2 u2 es2) (by simp)
 obtain ⟨-, m', b, G, -, -, h3, h4, h5, h6, -, rfl, h9⟩ := ho.head hk
 obtain ⟨-, m2', b2, G2, -, -, g3, -, g5, g6, -, rfl, g9⟩ := ho2.head hk2
 have hkk2 : k ≠ k2 := by
   intro e; subst e
   have := hctx.nd
   simp [foot, cown] at this
 intro ρ w a K' Q' hr hf hkk
 have hs0' : 0 < s := by simpa [Nat.blt_eq] using hs0
 obtain ⟨L, p, cap, hl, hbr, hc, -, -, -, hp⟩ := (hx.use hf).slice_inv hr h3
 obtain ⟨La, hla', hext⟩ := (hx.use hf).slice_ext hr h3 hla
 rw [hl] at hla'
 obtain rfl : L = La := by simpa using hla'
 obtain ⟨L2, p2, cap2, hl2, hbr2, hc2, -, -, -, hp2⟩ := (hy.use hf).slice_inv hr g3
 obtain ⟨Lb, hlb', hext2⟩ := (hy.use hf).slice_ext hr g3 hlb
 rw [hl2] at hlb'
 obtain rfl : L2 = Lb := by simpa using hlb'
 have hown : L.own = true := by rw [← hbr.own]; exact h5
 have hown2 : L2.own = true := by rw [← hbr2.own]; exact g5
 have hLs : L.sz = s := by rw [← hbr.sz, h6, hs.cells]
 have hL2s : L2.sz = s := by rw [← hbr2.sz, g6, hs.cells]
 obtain ⟨cs, ct, fr, hhp, -, hr2⟩ := hbr.cells
 obtain ⟨hoff, hcapL, -, hfr, -⟩ := hr2 hown
 obtain ⟨cs2, ct2, fr2, hhp2, -, hr22⟩ := hbr2.cells
 obtain ⟨hoff2, hcapL2, -, -, -⟩ := hr22 hown2
 have hpp := hp hla
 have hpp2 := hp2 hlb
 have hne : L.blk ≠ L2.blk := fun e => hkk2 (hr.inj k k2 L L2 hl hl2 hown e)
 have e1 := hext hown
 have e2 := hext2 hown2
 have q1 : (ia + la) * s ≤ cs.size := Nat.le_trans (by rw [hLs]; exact Nat.mul_le_mul_right _ e1) hcapL
 have q2 : (ib + lb) * s ≤ cs2.size := Nat.le_trans (by rw [hL2s]; exact Nat.mul_le_mul_right _ e2) hcapL2
 have q3 : 0 < (ib + lb) * s := Nat.mul_pos (by omega) hs0'
 have q4 : ia * s ≤ (ia + la) * s := Nat.mul_le_mul_right _ (by omega)
 have hfz : ∀ o, o ≤ cs.size → w.frozen? ⟨L.blk, o, none⟩ = false := fun o ho => by
   have := hfr o ho
   simp only [World.frozen?, hhp]
   simpa using this
 have hrun := Lib.run_overlaps_apart (P := P) w T B E hT s (fun w => hs.run w) p p2 la cap lb cap2 (by rw [hpp, hpp2]; exact hne) ct ct2 cs.size cs2.size (by rw [hpp]; simp [World.shape?, hhp]) (by rw [hpp2]; simp [World.shape?, hhp2]) (by omega)
   (by rw [hpp]; exact hfz _ (by rw [hoff, hLs]; omega)) (by rw [hpp]; exact hfz _ (Nat.le_refl _))
 have hex : (execOp a.eval ⟨d, .call ⟨.value (.func g), [x, y].toArray, ts.toArray⟩, T', ps, af, gd⟩).run P w = .ok (.value (.bool false)) w := by
   have h1 := hov #[.slice (some p) la cap, .slice (some p2) lb cap2] w
   rw [hrun] at h1
   simp only [Result.andThen_ok] at h1
   have e0 : a.eval (.func g) = .func (.func g) #[] #[] := rfl
   simp [execOp, resolve, invoke, Deferred.ofValue, e0, hc, hc2, h1]
 show Oper.upon P _ a K' Q' _
 rw [hex]
 exact hkk _ _ _ _ _ (hf.put d (.bool _)) hr (Step.refl _ _ _) ⟨(), rfl, hctx⟩
theorem zeroCells_made (z : Array Value) (q : Nat) : Builtin.zeroCells z q = madeCells z (q * z.size) := rfl
theorem X_appendMake {F : List Nat} {u zv : Value} {es : List Value} {k i q c by' : Nat} {kq kn : IntKind} (hT : SL P T E) (hTI : P.underlying T2 = some (.int kn)) (ht : TY P E s by' zv) (hs0 : Nat.blt 0 s = true) (hzs : zv.cells.size = s) (hzl : zv.cells.toList.all scal = true) (hzc : closedB zv = true) (hby : Nat.ble by' 16384 = true)
   (hk : idOf u = some k) (hx : EV n f x (.slice (some ⟨k, 0, none⟩) i (c + 3))) (hy : EV n f y (.int kq (q : Int))) (hc : c < i + q) (hi : i ≤ es.length) (hq : 0 < q) (hb : i + q < 4294967296) :
   XC P n ⟨d, .call ⟨.builtin .append, [x, y].toArray, [T, T2].toArray⟩, T', ps, af, gd⟩ f [cown (OwnS E (roE (rvs s))) F u es] (fun k' : Nat => .slice (some ⟨k', 0, none⟩) (i + q) 2)
     (fun k' => [cown (OwnS E (roE (rvs s))) [k'] (.slice (some ⟨k', 0, none⟩) (i + q) 2) (es.take i ++ List.replicate q zv), cown (OwnS E (roE (rvs s))) F u es]) := by
 intro H hctx
 have hs0' : 0 < s := by simpa [Nat.blt_eq] using hs0
 have hby' : by' ≤ 16384 := by simpa [Nat.ble_eq] using hby
 obtain ⟨iE, hiE, h1, h2, h3z⟩ := ht.inv
 have ho : OwnS E (roE (rvs s)) F H u es := hctx.hold (cown (OwnS E (roE (rvs s))) F u es) (by simp)
 obtain ⟨-, m', b, G, hu', -, h3, h4, h5, h6, h7, rfl, h9⟩ := ho.head hk
 obtain ⟨rfl, rfl, hes⟩ := els_rv h9
 intro ρ w a K' Q' hr hf hkk
 obtain ⟨L, p, cap, hl, hbr, hcx, hcap, g1, g2, gp⟩ := (hx.use hf).slice_inv hr h3
 obtain ⟨-, hown, hcL, hpp, g5⟩ := g2 (by omega)
 have := g5 (by omega)
 obtain rfl : cap = c := by omega
 have hcy : a.eval y = .int kq (q : Int) := (hy.use hf).int_inv
 have hr1 : Rel P ρ H w.drew := hr.of_heap rfl
 have hcz : P.cellsOf b.ty = s := by rw [h6]; exact ht.sz.cells
 have hLs : L.sz = s := by rw [← hbr.sz, hcz]
 obtain ⟨cells, hrun, hrel⟩ := hr1.cellsOf (i := 0) (m := i) hl h3 hcz hs0' (by omega)
 rw [List.drop_zero, Nat.zero_mul, Nat.add_zero] at *
 obtain ⟨newCap, hnew, hnc⟩ : ∃ nc, i + q ≤ nc ∧ grownCap w (i + q) cap E = nc := ⟨_, grownCap_ge w (i + q) cap E, rfl⟩
 have happ := Lib.run_append_grow_zeros (P := P) w T T2 T' E iE zv kq kn hT hTI hiE h3z (some p) i cap cells.toList (by rw [hpp, h1]; exact hrun) q hq (by omega) hc (by omega)
   (by rw [h2]; exact Nat.le_trans (Nat.mul_le_mul (show q ≤ 4294967296 by omega) hby') (by decide))
   (by rw [h2]; exact growslice_fits hc (Nat.le_trans (Nat.mul_le_mul (show i + q ≤ 4294967296 by omega) hby') (by decide)))
 rw [hnc] at happ
 have hex : (execOp a.eval ⟨d, .call ⟨.builtin .append, [x, y].toArray, [T, T2].toArray⟩, T', ps, af, gd⟩).run P w =
     .ok (.value (.slice (some ⟨w.heap.size, 0, none⟩) (i + q) newCap)) (w.drew.alloc (.cells (cells ++ Builtin.zeroCells zv.cells q ++ Builtin.zeroCells zv.cells (newCap - (i + q))) E)) := by
   simp [execOp, resolve, invoke, builtin, hcx, hcy, happ]
 show Oper.upon P _ a K' Q' _
 rw [hex]
 have hcl : cells.toList.length = i * s := by
   rw [← hrel.length, flat_length (s := s) _ (fun e he => (hes e (List.mem_of_mem_take he)).1), List.length_take, Nat.min_eq_left hi]
 have hcsz : cells.size = i * s := by simpa using hcl
 have hpush := hr1.push (g := true) (w' := w.drew.alloc (.cells (cells ++ Builtin.zeroCells zv.cells q ++ Builtin.zeroCells zv.cells (newCap - (i + q))) E)) (cs := cells ++ Builtin.zeroCells zv.cells q ++ Builtin.zeroCells zv.cells (newCap - (i + q))) (ty := E)
   (es := b.elems.take i ++ List.replicate q zv) (sz := s) (cap := newCap) rfl ht.sz.cells
   (by
     intro j e he
     have htl : (b.elems.take i).length = i := by simp; omega
     rcases Nat.lt_or_ge j i with hj | hj
     · rw [List.getElem?_append_left (by omega)] at he
       have := RelVs.elems (ρ := ρ) (b.elems.take i) cells.toList ((Builtin.zeroCells zv.cells q).toList ++ (Builtin.zeroCells zv.cells (newCap - (i + q))).toList) hrel (fun e he => (hes e (List.mem_of_mem_take he)).1) j e he
       exact ⟨(hes e (List.mem_of_mem_take (List.mem_of_getElem? he))).1, by simpa [List.append_assoc] using this⟩
     · rw [List.getElem?_append_right (by omega), htl] at he
       have hjq : j - i < q := by
         rcases Nat.lt_or_ge (j - i) q with h | h
         · exact h
         · rw [List.getElem?_eq_none (by simpa using h)] at he; simp at he
       obtain rfl : zv = e := by rw [List.getElem?_replicate, if_pos hjq] at he; simpa using he
       refine ⟨hzs, ?_⟩
       have hz := madeCells_elem zv.cells q s (j - i) hzs hjq
       have hjs : j * s = i * s + (j - i) * s := by rw [← Nat.add_mul]; congr 1; omega
       have hzlen : (Builtin.zeroCells zv.cells q).toList.length = q * s := by rw [zero_len, hzs]
       have hjl : (j - i) * s + s ≤ q * s := by rw [← Nat.succ_mul]; exact Nat.mul_le_mul_right _ hjq
       rw [Array.toList_append, Array.toList_append, List.append_assoc, hjs, ← hcl, ← List.drop_drop, List.drop_append_of_le_length (Nat.le_refl _), List.drop_length, List.nil_append, List.drop_append_of_le_length (by omega), List.take_append_of_le_length (by rw [List.length_drop]; omega), zeroCells_made, hzs, hz]
       exact (RelV.closed hzc).cells)
   (by
     rw [Array.size_append, Array.size_append, zeroCells_size, zeroCells_size, hcsz, hzs, ← Nat.add_mul, ← Nat.add_mul]
     exact Nat.mul_le_mul_right _ (by omega)) (by simp; omega)
 have hst1 : Step ρ H w ρ H w.drew := ⟨Up.refl ρ, rfl, rfl, rfl, Nat.le_refl _, fun _ _ _ => rfl, fun _ _ h => .inl h, Nat.le_refl _, fun _ _ h => ⟨h, rfl⟩⟩
 have hsp := Step.push (b := ⟨b.elems.take i ++ List.replicate q zv, E, true, true⟩) (sz := s) (cap := newCap) hr1 (w' := w.drew.alloc (.cells (cells ++ Builtin.zeroCells zv.cells q ++ Builtin.zeroCells zv.cells (newCap - (i + q))) E)) rfl rfl rfl rfl
 refine hkk _ _ _ _ _ ((hf.up hsp.up).put d (RelV.slice H.length 0 _ 2 ⟨w.heap.size, 0, s, newCap, true⟩ _ newCap (bind1_self _ _ _) hnew (by simp) (fun _ => ⟨rfl, rfl, Nat.le_refl _, rfl, by omega⟩) (fun _ => ⟨by simp, fun _ => Nat.le_trans (Nat.le_of_eq (Nat.zero_add _)) hnew⟩))) hpush (hst1.trans hsp) ⟨H.length, rfl, ?_⟩
 have hkl := lt_of_get h3
 have himm : Imm H (H ++ [some ⟨b.elems.take i ++ List.replicate q zv, E, true, true⟩]) := imm_app _ _
 have hlen : (b.elems.take i ++ List.replicate q zv).length = i + q := by simp; omega
 refine ⟨by simp, himm, fun j hj _ => List.getElem?_append_left hj, ?_, ?_, ?_⟩
 · intro c0 hcm
   rcases List.mem_cons.1 hcm with rfl | hcm2
   · refine .inr ⟨H.length, 2, ⟨b.elems.take i ++ List.replicate q zv, E, true, true⟩, [], by rw [hlen], .inr rfl, by simp, rfl, rfl, rfl, by omega, rfl, rv_els fun e he => ?_⟩
     rcases List.mem_append.1 he with h | h
     · exact hes e (List.mem_of_mem_take h)
     · rw [(List.mem_replicate.1 h).2]; exact ⟨hzs, hzl⟩
   · obtain rfl := List.mem_singleton.1 hcm2
     exact Comp.keep _ (hctx.hold _ (by simp)) himm fun j hj => List.getElem?_append_left (hctx.own j (by simpa [foot, cown] using hj)).2
 · simp [foot, cown]; omega
 · intro j hj
   simp only [foot, cown, List.flatMap_cons, List.flatMap_nil, List.append_nil, List.cons_append, List.nil_append, List.mem_cons, List.not_mem_nil, or_false] at hj
   rcases hj with rfl | rfl
   · exact ⟨.inr (Nat.le_refl _), by simp⟩
   · exact ⟨.inl (by simp [foot, cown]), by simp; omega⟩
end
section
variable {P : Program} [LaidP P] {n : Nat} {f : Fr} {d : Option Tmp} {x y : Operand} {T T2 T' E B : TypeId} {ts : List TypeId} {ps : String} {af : Array Edge} {gd : Option (Nat × Bool)} {s : Nat} {α : Type} {Ro : ORel α} {F : List Nat} {u : Value} {xs : List α} {H : AHeap}
theorem V_sliceLoO [Keep Ro] {k m l j : Nat} {kk : IntKind} (hT : SL P T E) (hs : SZ P E s) (hp : (cown (OwnS E Ro) F u xs).P H) (hk : idOf u = some k) (hx : EV n f x (.slice (some ⟨k, 0, none⟩) l m)) (hy : EV n f y (.int kk (j : Int))) (hj : j ≤ l) :
   VOp P n ⟨d, .slice T x (some y) none none, T', ps, af, none⟩ f H (.slice (some ⟨k, j, none⟩) (l - j) 0) := by
 have ho : OwnS E Ro F H u xs := hp
 obtain ⟨-, m', b, G, -, -, h3, -, -, h6, -⟩ := ho.head hk
 exact V_sliceLo hT hs hx hy h3 h6 (by omega) (by omega)
theorem V_capO [Keep Ro] {k l c : Nat} (hT : SL P T E) (hp : (cown (OwnS E Ro) F u xs).P H) (hk : idOf u = some k) (hx : EV n f x (.slice (some ⟨k, 0, none⟩) l (c + 3))) :
   VOp P n ⟨d, .call ⟨.builtin .cap, [x].toArray, (T :: ts).toArray⟩, T', ps, af, none⟩ f H (.int .i64 (c : Int)) := by
 have ho : OwnS E Ro F H u xs := hp
 obtain ⟨-, m', b, G, -, -, h3, -⟩ := ho.head hk
 exact V_cap hT hx h3
theorem V_sliceCapO [Keep Ro] {k l c j : Nat} {kk : IntKind} (hT : SL P T E) (hs : SZ P E s) (hp : (cown (OwnS E Ro) F u xs).P H) (hk : idOf u = some k) (hx : EV n f x (.slice (some ⟨k, 0, none⟩) l (c + 3))) (hy : EV n f y (.int kk (j : Int))) (hj : j ≤ c) :
   VOp P n ⟨d, .slice T x none (some y) none, T', ps, af, none⟩ f H (.slice (some ⟨k, 0, none⟩) j (c + 3)) := by
 have ho : OwnS E Ro F H u xs := hp
 obtain ⟨-, m', b, G, -, -, h3, -⟩ := ho.head hk
 exact V_sliceCap hT hs hx hy h3 hj
theorem X_sliceLoE {es : List Value} {j : Nat} {kk : IntKind} (hT : SL P T E) (hs : SZ P E s) (hx : EV n f x u) (hy : EV n f y (.int kk (j : Int))) (hj : j ≤ es.length) :
   XC P n ⟨d, .slice T x (some y) none none, T', ps, af, none⟩ f [cown (OwnS E (roE (rvs s))) F u es] (fun w : Value => w) (fun _ => [cown (OwnS E (roE (rvs s))) F u es]) := by
 intro H hctx
 have ho : OwnS E (roE (rvs s)) F H u es := hctx.hold (cown (OwnS E (roE (rvs s))) F u es) (by simp)
 have ho' := ho
 rcases ho with ⟨rfl, rfl, rfl⟩ | ⟨k, m, b, G, rfl, -⟩
 · refine AOp_value (v := .slice none 0 0) (fun ρ w a hr hf => ?_) ⟨.slice none 0 0, rfl, hctx⟩
   have hc : a.eval x = .slice none 0 0 := by have := hx.use hf; generalize a.eval x = c at this; cases this; rfl
   have hyv : a.eval y = .int kk (j : Int) := (hy.use hf).int_inv
   have hj0 : j = 0 := by simpa using hj
   subst hj0
   have hu : P.underlying T = some (.slice E) := hT
   have he : P.elem T = E := by simp [Program.elem, hu]
   have hu2 : P.underlying T = some (.slice (P.elem T)) := by rw [he]; exact hu
   refine ⟨.slice none 0 0, ?_, .nilSlice⟩
   have hrun := run_slice_l (P := P) w T none 0 0 hu2 kk 0 (by omega) (by omega)
   rw [he, hs.run, Result.andThen] at hrun
   have h2' := run_sliceAt_slice (P := P) w T (.slice none 0 0) (some (.int kk 0)) none none hu2
   have hyv' : a.eval y = .int kk 0 := hyv
   simp [execOp, hc, hyv', h2', hrun, sliced]
 · refine AOp_value (v := .slice (some ⟨k, j, none⟩) (es.length - j) 0) (V_sliceLoO hT hs ho' rfl hx hy hj) ⟨_, rfl, hctx⟩
end
end Go.Fw
namespace Go.Fw
section
variable {es : List Value} {e z : Value} {i : Nat}
theorem ins_len (hi : i ≤ es.length) : (es.take i ++ e :: es.drop i).length = es.length + 1 := by simp; omega
theorem ins_l1 (hi : i < es.length) : es.take i ++ e :: List.replicate (es.length - i) z = (es.take i ++ List.replicate (es.length + 1 - i) z).take i ++ ([e].drop 0).take (min 1 (es.length + 1 - i)) ++ (es.take i ++ List.replicate (es.length + 1 - i) z).drop (i + min 1 (es.length + 1 - i)) := by
 have hl : (es.take i).length = i := by simp; omega
 have hm : min 1 (es.length + 1 - i) = 1 := by omega
 rw [hm, List.take_append_of_le_length (by omega), List.take_of_length_le (l := es.take i) (by omega), ← List.drop_drop, List.drop_append_of_le_length (by omega), List.drop_of_length_le (l := es.take i) (by omega), List.nil_append, List.drop_replicate, show es.length + 1 - i - 1 = es.length - i by omega]
 simp
theorem ins_l2 (hi : i < es.length) : es.take i ++ e :: es.drop i = (es.take i ++ e :: List.replicate (es.length - i) z).take (i + 1) ++ (es.drop i).take (min (es.length - i) (es.length + 1 - (i + 1))) ++ (es.take i ++ e :: List.replicate (es.length - i) z).drop (i + 1 + min (es.length - i) (es.length + 1 - (i + 1))) := by
 have hl : (es.take i).length = i := by simp; omega
 have hm : min (es.length - i) (es.length + 1 - (i + 1)) = es.length - i := by omega
 rw [hm, List.take_of_length_le (l := es.drop i) (by simp), List.drop_of_length_le (l := es.take i ++ e :: List.replicate (es.length - i) z) (by simp; omega), List.append_nil, List.take_append, hl, List.take_of_length_le (l := es.take i) (by omega), show i + 1 - i = 1 by omega]
 simp
theorem ins_l3 (hi : i < es.length) : es.take (i + 1) ++ es.drop i = es.take (i + 1) ++ (es.drop i).take (min (es.length + 1 - i) (es.length + 1 - (i + 1))) ++ es.drop (i + 1 + min (es.length + 1 - i) (es.length + 1 - (i + 1))) := by
 have hm : min (es.length + 1 - i) (es.length + 1 - (i + 1)) = es.length - i := by omega
 rw [hm, List.take_of_length_le (l := es.drop i) (by simp), List.drop_of_length_le (l := es) (i := i + 1 + (es.length - i)) (by omega), List.append_nil]
theorem ins_l4 (hi : i < es.length) : es.take i ++ e :: es.drop i = (es.take (i + 1) ++ es.drop i).take i ++ ([e].drop 0).take (min 1 (es.length + 1 - i)) ++ (es.take (i + 1) ++ es.drop i).drop (i + min 1 (es.length + 1 - i)) := by
 have hl : (es.take (i + 1)).length = i + 1 := by simp; omega
 have hm : min 1 (es.length + 1 - i) = 1 := by omega
 rw [hm, List.take_append_of_le_length (by omega), List.take_take, Nat.min_eq_left (by omega), List.drop_append_of_le_length (by omega), List.drop_of_length_le (l := es.take (i + 1)) (by omega), List.nil_append]
 simp
end
end Go.Fw
namespace Go.Fw
section
variable {P : Program} [LaidP P] {α : Type} {Ro : ORel α} {E : TypeId} {s : Nat} {H H' : AHeap} {F : List Nat} {u : Value} {xs : List α}
theorem OwnS.rawD [OCells Ro s] (h : OwnS E Ro F H u xs) : ∃ (es : List Value) (Fh G : List Nat), F = Fh ++ G ∧ OwnS E (roE (rvs s)) Fh H u es ∧ Els Ro H es xs G := by
 rcases h with ⟨rfl, rfl, rfl⟩ | ⟨k, m, b, G, rfl, h2, h3, h4, h5, h6, h7, rfl, h9⟩
 · exact ⟨[], [], [], rfl, .inl ⟨rfl, rfl, rfl⟩, .nil⟩
 · exact ⟨b.elems, [k], G, rfl, .inr ⟨k, m, b, [], by rw [h9.length], h2, h3, h4, h5, h6, by rw [h9.length]; exact h7, rfl, rv_els (h9.cells (s := s))⟩, h9⟩
theorem OwnS.unrawD {es : List Value} {G : List Nat} (h : OwnS E (roE (rvs s)) F H u es) (hne : es ≠ []) (hE : Els Ro H es xs G) : OwnS E Ro (F ++ G) H u xs := by
 have hl := hE.length
 rcases h with ⟨rfl, rfl, rfl⟩ | ⟨k, m, b, G0, rfl, h2, h3, h4, h5, h6, h7, rfl, h9⟩
 · exact absurd rfl hne
 · obtain ⟨rfl, rfl, -⟩ := els_rv h9
   exact .inr ⟨k, m, b, G, by rw [hl], h2, h3, h4, h5, h6, by rw [← hl]; exact h7, rfl, hE⟩
theorem Els.cut {es : List Value} {G : List Nat} (h : Els Ro H es xs G) : ∀ i, ∃ Ga Gb, G = Ga ++ Gb ∧ Els Ro H (es.take i) (xs.take i) Ga ∧ Els Ro H (es.drop i) (xs.drop i) Gb := by
 induction h with
 | nil => intro i; exact ⟨[], [], rfl, by simpa using Els.nil, by simpa using Els.nil⟩
 | @cons e es a xs F G h t ih =>
   intro i
   cases i with
   | zero => exact ⟨[], F ++ G, rfl, .nil, .cons h t⟩
   | succ i =>
     obtain ⟨Ga, Gb, rfl, h1, h2⟩ := ih i
     exact ⟨F ++ Ga, Gb, by rw [List.append_assoc], .cons h h1, h2⟩
theorem Spec_insD [Keep Ro] [Local Ro] [OCells Ro s] {g : FuncId} {v iv : Value} {F2 : List Nat} {a : α} {i : Nat}
   (hraw : ∀ (es : List Value) (e : Value) (Fa Fb : List Nat), es.length = xs.length → Fw.Spec P g [v, iv, u] [cown (OwnS E (roE (rvs s))) Fa v es, cown (OwnS E (roE (rvs s))) Fb u [e]] (fun q : Sv × List Nat => q.1.v) (fun q => [cown (OwnS E (roE (rvs s))) q.2 q.1.v (es.take i ++ e :: es.drop i)])) :
   Fw.Spec P g [v, iv, u] [cown (OwnS E Ro) F v xs, cown (OwnS E Ro) F2 u [a]] (fun q : Sv × List Nat => q.1.v) (fun q => [cown (OwnS E Ro) q.2 q.1.v (xs.take i ++ a :: xs.drop i)]) := by
 intro H F0 hctx ρ w cargs hr hargs
 have ho : OwnS E Ro F H v xs := hctx.hold (cown (OwnS E Ro) F v xs) (by simp)
 have ho2 : OwnS E Ro F2 H u [a] := hctx.hold (cown (OwnS E Ro) F2 u [a]) (by simp)
 obtain ⟨es, Fh, G, rfl, h1, h2⟩ := ho.rawD
 obtain ⟨es2, Fh2, G2, rfl, g1, g2⟩ := ho2.rawD
 have hl2 := g2.length
 obtain ⟨e, rfl⟩ : ∃ e, es2 = [e] := by
   rcases es2 with _ | ⟨e, _ | ⟨_, _⟩⟩
   · simp at hl2
   · exact ⟨e, rfl⟩
   · simp at hl2
 have hfp : foot [cown (OwnS E Ro) (Fh ++ G) v xs, cown (OwnS E Ro) (Fh2 ++ G2) u [a]] = (Fh ++ G) ++ (Fh2 ++ G2) := by simp [foot, cown]
 have hnd := hctx.nd
 rw [hfp] at hnd
 have hown : ∀ q ∈ (Fh ++ G) ++ (Fh2 ++ G2), q ∈ F0 ∧ q < H.length := fun q hq => by
   obtain ⟨h1, h2⟩ := hctx.own q (by rw [hfp]; exact hq)
   exact ⟨h1.resolve_right (by omega), h2⟩
 obtain ⟨n1, n2, n3⟩ := List.nodup_append.1 hnd
 obtain ⟨n4, n5, n6⟩ := List.nodup_append.1 n1
 obtain ⟨n7, n8, n9⟩ := List.nodup_append.1 n2
 have hdis : ∀ k ∈ G ++ G2, k ∉ Fh ++ Fh2 := by
   intro k hk hk2
   rcases List.mem_append.1 hk with hk | hk <;> rcases List.mem_append.1 hk2 with hk2 | hk2
   · exact n6 k hk2 k hk rfl
   · exact n3 k (by simp [hk]) k (by simp [hk2]) rfl
   · exact n3 k (by simp [hk2]) k (by simp [hk]) rfl
   · exact n9 k hk2 k hk rfl
 have hin : ∀ k ∈ Fh ++ Fh2, k ∈ (Fh ++ G) ++ (Fh2 ++ G2) := fun k hk => by
   rcases List.mem_append.1 hk with hk | hk <;> simp [hk]
 have hin2 : ∀ k ∈ G ++ G2, k ∈ (Fh ++ G) ++ (Fh2 ++ G2) := fun k hk => by
   rcases List.mem_append.1 hk with hk | hk <;> simp [hk]
 have hfq : foot [cown (OwnS E (roE (rvs s))) Fh v es, cown (OwnS E (roE (rvs s))) Fh2 u [e]] = Fh ++ Fh2 := by simp [foot, cown]
 have hc2 : Ctx H (Fh ++ Fh2) H [cown (OwnS E (roE (rvs s))) Fh v es, cown (OwnS E (roE (rvs s))) Fh2 u [e]] :=
   ⟨Nat.le_refl _, Imm.refl _, fun _ _ _ => rfl, fun c hc => by
     rcases List.mem_cons.1 hc with rfl | hc
     · exact h1
     · obtain rfl := List.mem_singleton.1 hc
       exact g1, by rw [hfq]; exact List.nodup_append.2 ⟨n4, n7, fun x hx y hy e => n3 x (by simp [hx]) y (by simp [hy]) e⟩, fun q hq => by
     rw [hfq] at hq
     exact ⟨.inl hq, (hown q (hin q hq)).2⟩⟩
 refine (hraw es e Fh Fh2 h2.length H (Fh ++ Fh2) hc2 ρ w cargs hr hargs).mono ?_
 rintro en w' ⟨v0, r, ρ', H', rfl, q1, q2, q3, q, rfl, q4⟩
 have hsame : ∀ k ∈ G ++ G2, H'[k]? = H[k]? := fun k hk => q4.agr k (hown k (hin2 k hk)).2 (hdis k hk)
 have e1 := h2.local (H' := H') (fun k hk => hsame k (by simp [hk]))
 have e2 := g2.local (H' := H') (fun k hk => hsame k (by simp [hk]))
 obtain ⟨Ga, Gb, rfl, e3, e4⟩ := e1.cut i
 have hraw' : OwnS E (roE (rvs s)) q.2 H' q.1.v (es.take i ++ e :: es.drop i) := q4.hold (cown (OwnS E (roE (rvs s))) q.2 q.1.v (es.take i ++ e :: es.drop i)) (by simp)
 have hfin := hraw'.unrawD (by simp) (e3.append (e2.append e4))
 have hq : ∀ k ∈ q.2, (k ∈ Fh ++ Fh2 ∨ H.length ≤ k) ∧ k < H'.length := fun k hk => q4.own k (by simpa [foot, cown] using hk)
 have hmem : ∀ k ∈ Ga ++ (G2 ++ Gb), k ∈ (Ga ++ Gb) ++ G2 := fun k hk => by
   simp only [List.mem_append] at hk ⊢
   rcases hk with hk | hk | hk <;> simp [hk]
 have hnd2 : ((Ga ++ Gb) ++ G2).Nodup := List.nodup_append.2 ⟨n5, n8, fun x hx y hy e => n3 x (List.mem_append_right _ hx) y (List.mem_append_right _ hy) e⟩
 have hperm : (Ga ++ (G2 ++ Gb)).Perm ((Ga ++ Gb) ++ G2) := by
   rw [List.append_assoc]
   exact (List.perm_append_comm).append_left Ga
 refine ⟨v0, _, ρ', H', rfl, q1, q2, q3, (q.1, q.2 ++ (Ga ++ (G2 ++ Gb))), rfl, q4.len, q4.imm, fun k hk hkF => q4.agr k hk (fun h => hkF (hown k (hin k h)).1), fun c hc => ?_, ?_, fun k hk => ?_⟩
 · obtain rfl := List.mem_singleton.1 hc
   exact hfin
 · simp only [foot, cown, List.flatMap_cons, List.flatMap_nil, List.append_nil]
   refine List.nodup_append.2 ⟨by have := q4.nd; simpa [foot, cown] using this, hperm.nodup_iff.2 hnd2, fun x hx y hy e => ?_⟩
   subst e
   have hy' := hmem x hy
   rcases (hq x hx).1 with h | h
   · exact hdis x hy' h
   · have := (hown x (hin2 x hy')).2; omega
 · simp only [foot, cown, List.flatMap_cons, List.flatMap_nil, List.append_nil] at hk
   rcases List.mem_append.1 hk with hk | hk
   · exact ⟨(hq k hk).1.imp (fun h => (hown k (hin k h)).1) id, (hq k hk).2⟩
   · have := hown k (hin2 k (hmem k hk))
     exact ⟨.inl this.1, Nat.lt_of_lt_of_le this.2 q4.len⟩
end
end Go.Fw
namespace Go.Fw
section
variable {P : Program} [LaidP P] {n : Nat} {f : Fr} {d : Option Tmp} {x y : Operand} {T T2 T' E : TypeId} {ts : List TypeId} {ps : String} {af : Array Edge} {gd : Option (Nat × Bool)} {s : Nat} {H : AHeap}
end
end Go.Fw
namespace Go.Fw
section
variable {P : Program} [LaidP P] {n : Nat} {f : Fr} {H0 : AHeap} {F0 : List Nat} {cs : List Comp} {A : Array Oper} {r : List Oper} {K : Fr → List Comp → Prop} {d : Option Tmp} {x y : Operand} {T T' E : TypeId} {ps : String} {af : Array Edge} {α : Type} {Ro : ORel α} {xs : List α}
end
end Go.Fw
/-
 Drawn regions: a part of an element of an own list is stored to: the list is laid open ahead, and shut behind. No conditions.
-/
set_option linter.unusedVariables false
namespace Go.Fw
open Go Go.RowKit
section
variable {α ι : Type} {Ro : ORel α} {H : AHeap} {E : TypeId} {s : Nat}
theorem Cv_unfocus [Keep Ro] {F' G1 F G2 : List Nat} {j : Nat} {v e : Value} {es : List Value} {a : α} {xs : List α} {p1 : Comp} (hm : Mk Ro F e a [p1]) (hj : es[j]? = some e) (hl : es.length = xs.length) :
   Conv [cown (OwnS E (roE (rdVal s))) F' v es, cels Ro G1 (es.take j) (xs.take j), p1, cels Ro G2 (es.drop (j + 1)) (xs.drop (j + 1))] [cown (OwnS E Ro) (F' ++ (G1 ++ (F ++ G2))) v (xs.set j a)] := ⟨fun H h c hc => by
 obtain rfl := List.mem_singleton.1 hc
 have h0 : OwnS E (roE (rdVal s)) F' H v es := h (cown (OwnS E (roE (rdVal s))) F' v es) (by simp)
 have h1 : Els Ro H (es.take j) (xs.take j) G1 := h (cels Ro G1 (es.take j) (xs.take j)) (by simp)
 have h2 : Ro F H e a := hm.hold H fun c hc => h c (by simp only [List.mem_singleton] at hc; simp [hc])
 have h3 : Els Ro H (es.drop (j + 1)) (xs.drop (j + 1)) G2 := h (cels Ro G2 (es.drop (j + 1)) (xs.drop (j + 1))) (by simp)
 obtain ⟨hlt, hje⟩ := List.getElem?_eq_some_iff.1 hj
 refine own_shut h0 ?_
 have he : es = es.take j ++ e :: es.drop (j + 1) := by
   rw [← hje, List.getElem_cons_drop, List.take_append_drop]
 rw [List.set_eq_take_append_cons_drop, if_pos (by omega)]
 rw [show Els Ro H es (xs.take j ++ a :: xs.drop (j + 1)) = Els Ro H (es.take j ++ e :: es.drop (j + 1)) (xs.take j ++ a :: xs.drop (j + 1)) from by rw [← he]]
 exact h1.append (.cons h2 h3), by simp [foot, cown, cels, hm.foot]⟩
theorem Cv_unfocus0 [Keep Ro] {F' G1 F G2 : List Nat} {j : Nat} {v e : Value} {es : List Value} {a : α} {xs : List α} {p1 : Comp} (hm : Mk Ro F e a [p1]) (hj : es[j]? = some e) (hl : es.length = xs.length) (hx : xs[j]? = some a) :
   Conv [cown (OwnS E (roE (rdVal s))) F' v es, cels Ro G1 (es.take j) (xs.take j), p1, cels Ro G2 (es.drop (j + 1)) (xs.drop (j + 1))] [cown (OwnS E Ro) (F' ++ (G1 ++ (F ++ G2))) v xs] := by
 have h := Cv_unfocus (s := s) (E := E) (F' := F') (G1 := G1) (G2 := G2) (v := v) hm hj hl
 obtain ⟨h1, e1⟩ := List.getElem?_eq_some_iff.1 hx
 subst e1
 rwa [List.set_getElem_self] at h
end
section
variable {P : Program} [LaidP P] {n : Nat} {H0 : AHeap} {F0 : List Nat} {f : Fr} {cs rest : List Comp} {l : List Oper} {tb as todo : List Nat} {fl : List (Nat × List Nat)} {K : Fr → List Comp → Prop} {α ι : Type} {Ro : ORel α} {E : TypeId} {s : Nat}
theorem D_focus1 [Keep Ro] [OCells Ro s] {F : List Nat} {j : Nat} {v : Value} {a : α} {xs : List α} {val : ι → Value} {p1 : ι → Comp} (hu : Un Ro a val (fun i => [p1 i])) (hj : xs[j]? = some a) (hs : Sel cs (cown (OwnS E Ro) F v xs) rest)
   (h : ∀ (i : ι) (es : List Value) (F' G1 G2 : List Nat), es[j]? = some (val i) → es.length = xs.length →
     DC P n l tb as H0 F0 K todo fl f (cown (OwnS E (roE (rdVal s))) F' v es :: cels Ro G1 (es.take j) (xs.take j) :: p1 i :: cels Ro G2 (es.drop (j + 1)) (xs.drop (j + 1)) :: rest)) : DC P n l tb as H0 F0 K todo fl f cs := fun H hc => by
 have h0 := (hc.take (.cons hs .nil)).view.hold (cown (OwnS E Ro) F v xs) (by simp)
 obtain ⟨es, F', G, h1, h2, h3, h4⟩ := own_open (Ro := Ro) (s := s) h0
 obtain ⟨e, G1, F1, G2, g1, g2, g3, g4, g5⟩ := els_split h4 hj
 obtain ⟨i, rfl, i2, i3⟩ := hu.un _ _ _ g4
 refine h i es F' G1 G2 g1 h1 H (hc.exch (post := [cown (OwnS E (roE (rdVal s))) F' v es, cels Ro G1 (es.take j) (xs.take j), p1 i, cels Ro G2 (es.drop (j + 1)) (xs.drop (j + 1))]) (.cons hs .nil) (fun _ c hc => ?_) ?_)
 · simp only [List.mem_cons, List.not_mem_nil, or_false] at hc
   rcases hc with rfl | rfl | rfl | rfl
   · exact h3
   · exact g3
   · exact i2 _ (by simp)
   · exact g5
 · have : (p1 i).F = F1 := by simpa [foot] using i3
   rw [show foot [cown (OwnS E Ro) F v xs] = F from by simp [foot, cown], h2, g2, ← this]
   simp [foot, cown, cels]
theorem C_focus1 {A : Array Oper} {lo : List Oper} [Keep Ro] [OCells Ro s] {F : List Nat} {j : Nat} {v : Value} {a : α} {xs : List α} {val : ι → Value} {p1 : ι → Comp} (hu : Un Ro a val (fun i => [p1 i])) (hj : xs[j]? = some a) (hs : Sel cs (cown (OwnS E Ro) F v xs) rest)
   (h : ∀ (i : ι) (es : List Value) (F' G1 G2 : List Nat), es[j]? = some (val i) → es.length = xs.length →
     COps P n H0 F0 A lo f (cown (OwnS E (roE (rdVal s))) F' v es :: cels Ro G1 (es.take j) (xs.take j) :: p1 i :: cels Ro G2 (es.drop (j + 1)) (xs.drop (j + 1)) :: rest) K) : COps P n H0 F0 A lo f cs K := fun H hc => by
 have h0 := (hc.take (.cons hs .nil)).view.hold (cown (OwnS E Ro) F v xs) (by simp)
 obtain ⟨es, F', G, h1, h2, h3, h4⟩ := own_open (Ro := Ro) (s := s) h0
 obtain ⟨e, G1, F1, G2, g1, g2, g3, g4, g5⟩ := els_split h4 hj
 obtain ⟨i, rfl, i2, i3⟩ := hu.un _ _ _ g4
 refine h i es F' G1 G2 g1 h1 H (hc.exch (post := [cown (OwnS E (roE (rdVal s))) F' v es, cels Ro G1 (es.take j) (xs.take j), p1 i, cels Ro G2 (es.drop (j + 1)) (xs.drop (j + 1))]) (.cons hs .nil) (fun _ c hc => ?_) ?_)
 · simp only [List.mem_cons, List.not_mem_nil, or_false] at hc
   rcases hc with rfl | rfl | rfl | rfl
   · exact h3
   · exact g3
   · exact i2 _ (by simp)
   · exact g5
 · have : (p1 i).F = F1 := by simpa [foot] using i3
   rw [show foot [cown (OwnS E Ro) F v xs] = F from by simp [foot, cown], h2, g2, ← this]
   simp [foot, cown, cels]
theorem lo_rawO {e : Value} {w : Value} {off : Nat} (h : e.cells.toList[off]? = some w) : ∀ F H e', roE (rdVal s) F H e' e → e'.cells.toList[off]? = some w := fun _ _ _ hh => by rw [hh.2.1]; exact h
theorem idx_len {β : Type} {es : List β} {xs : List α} {q : Int} (hl : es.length = xs.length) (h : (decide (0 ≤ q) && decide (q < (xs.length : Int))) = true) : (decide (0 ≤ q) && decide (q < (es.length : Int))) = true := by rw [hl]; exact h
end
section
variable {P : Program} [LaidP P] {n : Nat} {f : Fr} {H0 : AHeap} {F0 : List Nat} {cs : List Comp} {d : Option Tmp} {T T' E TB : TypeId} {ps : String} {af : Array Edge} {gd : Option (Nat × Bool)} {x y : Operand} {α : Type} {Ro : ORel α}
theorem X_storeFR {β : Type} {R : AHeap → Value → β → Prop} [Mono R] {w : Value} {dd : β} [Keep Ro] {s k off : Nat} {F : List Nat} {i : Int} {a a' : α} {u v : Value} {xs : List α} (hs : SZ P T s) (h0 : Nat.blt 0 s = true) (hx : EV n f x (.pointer (some ⟨k, i.toNat, some off⟩))) (hy : EV n f y u) (hk : idOf v = some k) (hj : xs[i.toNat]? = some a)
   (hu : u.cells.size = s) (hsc : u.cells.toList.all scal = true) (hfit : ∀ F H e, Ro F H e a → off + s ≤ e.cells.size) (hset : ∀ F H e, R H w dd → Ro F H e a → Ro F H (setPart e off u.cells.toList) a') :
   XC P n ⟨d, .store T x y, T', ps, af, gd⟩ f [cown (OwnS E Ro) F v xs, crd R w dd] (fun _ : Unit => undef) (fun _ => [cown (OwnS E Ro) F v (xs.set i.toNat a')]) := by
 intro H hctx
 have ho : OwnS E Ro F H v xs := hctx.hold (cown (OwnS E Ro) F v xs) (by simp)
 have hR : R H w dd := hctx.hold (crd R w dd) (by simp)
 obtain ⟨hh, m, b, G, rfl, h2, h3, h4, h5, h6, h7, rfl, h9⟩ := ho.head hk
 obtain ⟨e, F1, Fj, F2, g1, rfl, g3, g4⟩ := h9.at hj
 refine X_store hs hx hy h3 h5 g1 hu hsc (by simpa [Nat.blt_eq] using h0) (hfit _ _ _ g3) ⟨(), rfl, ?_⟩
 have hgetne : ∀ q, q ≠ k → (H.set k (some ⟨b.elems.set i.toNat (setPart e off u.cells.toList), b.ty, true, b.wr⟩))[q]? = H[q]? := fun q hq => by rw [List.getElem?_set_ne (fun e => hq e.symm)]
 have himm : Imm H (H.set k (some ⟨b.elems.set i.toNat (setPart e off u.cells.toList), b.ty, true, b.wr⟩)) := by
   intro q b2 hq hw2
   rw [hgetne q (fun e => by
     subst e; rw [hq] at h3
     injection h3 with h3; injection h3 with h3
     rw [h3] at hw2; rw [hw2] at h4; simp at h4)]
   exact hq
 have hnd := hctx.nd
 have hkF : ∀ q, q ∈ F1 ∨ q ∈ Fj ∨ q ∈ F2 → q ≠ k := by
   intro q hq e
   subst e
   simp only [foot, crd, cown, List.flatMap_cons, List.flatMap_nil, List.append_nil, List.nodup_cons, List.mem_append] at hnd
   exact hnd.1 (by rcases hq with h | h | h <;> simp [h])
 refine ⟨by simp, himm, fun q hq hqF => hgetne q (fun e => hqF (by subst e; simp [foot, crd, cown])), ?_, by simpa [foot, crd, cown] using hnd, fun q hq => ⟨.inl (by simpa [foot, crd, cown] using hq), ?_⟩⟩
 · intro c hc
   simp at hc; subst hc
   refine .inr ⟨k, m, _, F1 ++ Fj ++ F2, by rw [List.length_set], h2, List.getElem?_set_self (lt_of_get h3), h4, rfl, h6, by simpa using h7, by simp, ?_⟩
   refine g4 (fun Fi x y hr hm => Keep.keep hr himm fun q hq => hgetne q (hkF q ?_)) (Keep.keep (hset _ _ _ hR g3) himm fun q hq => hgetne q (hkF q (by simp [hq])))
   rcases hm q hq with h | h
   · exact .inl h
   · exact .inr (.inr h)
 · simpa using (hctx.own q (by simpa [foot, crd, cown] using hq)).2
end
end Go.Fw
/-
 Rules that look up by themselves what they need: names of temporaries, facts of the context, facts of the program's tables. No conditions.
-/
set_option linter.unusedVariables false
namespace Go.Fw
open Go
class IFD (P : Program) [LaidP P] (t i : Nat) (off : outParam Nat) : Prop where h : FD P t i off
class IAG (P : Program) [LaidP P] (t : Nat) (b : outParam Bool) : Prop where h : AG P t b
class ITY (P : Program) [LaidP P] (t : Nat) (s b : outParam Nat) (z : outParam Value) : Prop where h : TY P t s b z
class ISL (P : Program) [LaidP P] (t : Nat) (e : outParam Nat) : Prop where h : SL P t e
class ICF (P : Program) [LaidP P] (g : Nat) : Prop where h : CF P g
section
variable {P : Program} [LaidP P] {n : Nat} {f : Fr} {H0 : AHeap} {F0 : List Nat} {cs pre rest : List Comp} {c c' : Comp} {x y z : Operand} {v : Value}
theorem memA (h : Mem c cs := by
   first
   | ((repeat (first | with_reducible exact Mem.h | with_reducible apply Mem.t)); done)
   | ((repeat (first | exact Mem.h | apply Mem.t)); done)) : Mem c cs := h
theorem selA1 {r : List Comp} (h : Sel cs c r := by
   first
   | ((repeat (first | with_reducible exact Sel.h | with_reducible apply Sel.t)); done)
   | ((repeat (first | exact Sel.h | apply Sel.t)); done)) : Sel cs c r := h
theorem selRC {α : Type} {R : AHeap → Value → α → Prop} {_ : Mono R} {a : α} (h : Mem (crd R v a) cs) (t : SelL cs pre rest) : SelL cs (crd R v a :: pre) rest := .rd h rfl t
theorem selRB {k : Nat} {b : Blk} (h : Mem (cblkR k b) cs) (t : SelL cs pre rest) : SelL cs (cblkR k b :: pre) rest := .rd h rfl t
theorem selA (h : SelL cs pre rest := by
   first
   | exact SelL.nil
   | ((with_reducible refine' selRC ?hm ?ht); (case hm => exact memA); (case ht => exact selA))
   | ((with_reducible refine' selRB ?hm ?ht); (case hm => exact memA); (case ht => exact selA))
   | exact SelL.cons selA1 selA
   | exact SelL.rd memA rfl selA) : SelL cs pre rest := h
theorem evA (h : EV n f x v := by
   first | exact EV.tmp rfl rfl | exact EV.int _ _ | exact EV.bool _ | exact EV.str _ | exact EV.nilSlice | exact EV.nilPtr | exact EV.nilFunc | exact EV.nilIface | exact EV.fn _) : EV n f x v := h
theorem evV (h : EV n f x v := by
   first
   | exact EV.tmp (v := .int _ _) rfl rfl | exact EV.tmp (v := .bool _) rfl rfl | exact EV.tmp (v := Sv.v _) rfl rfl | exact EV.tmp (v := .slice _ _ _) rfl rfl
   | exact EV.tmp (v := .pointer _) rfl rfl | exact EV.tmp (v := .agg _) rfl rfl | exact EV.tmp (v := sv _) rfl rfl | exact EV.tmp (v := .string _) rfl rfl
   | exact EV.tmp (v := .func _ _ _) rfl rfl | exact EV.tmp (v := .tuple _) rfl rfl | exact EV.tmp (v := undef) rfl rfl
   | exact EV.int _ _ | exact EV.bool _ | exact EV.str _ | exact EV.nilSlice | exact EV.nilPtr | exact EV.nilFunc | exact EV.nilIface | exact EV.fn _) : EV n f x v := h
theorem atV {o : Option Value} (h : o = some v := by
   first
   | exact (rfl : _ = some (Value.int _ _)) | exact (rfl : _ = some (Sv.v _)) | exact (rfl : _ = some (Value.bool _)) | exact (rfl : _ = some (Value.slice _ _ _))
   | exact (rfl : _ = some (sv _)) | exact (rfl : _ = some (Value.string _)) | exact (rfl : _ = some (Value.pointer _)) | exact (rfl : _ = some (Value.func _ _ _))) : o = some v := h
theorem evsA {xs : List Operand} {vs : List Value} (h : EVs n f xs vs := by first | exact EVs.nil | exact EVs.cons evA evsA) : EVs n f xs vs := h
theorem eqA {l : List (Nat × Value)} (h : EqL f l := by
   repeat (first | exact EqL.nil | refine' EqL.cons rfl ?_)) : f = updL f l := h.eq
variable {A : Array Oper} {r : List Oper} {K : Fr → List Comp → Prop} {d : Option Tmp} {op : Op} {T T' T'' E : TypeId} {ps : String} {af : Array Edge}
theorem A_mv (hx : EV n f x v) (h : COps P n H0 F0 A r (put f d v) cs K) : COps P n H0 F0 A (⟨d, .move x, T, ps, af, none⟩ :: r) f cs K := C_val (V_move hx) h
theorem A_as (hx : EV n f x v) (h : COps P n H0 F0 A r (put f d v) cs K) : COps P n H0 F0 A (⟨d, .assign x, T, ps, af, none⟩ :: r) f cs K := C_val (V_assign hx) h
theorem V_pickT {H : AHeap} {u : Value} (hc : EV n f x (.bool true)) (hy : EV n f y u) : VOp P n ⟨d, .pick x y z, T, ps, af, none⟩ f H u :=
 fun ρ _ a _ hf => ⟨a.eval y, by simp [execOp, (hc.use hf).bool_inv, asBool], hy.use hf⟩
theorem V_pickF {H : AHeap} {u : Value} (hc : EV n f x (.bool false)) (hy : EV n f z u) : VOp P n ⟨d, .pick x y z, T, ps, af, none⟩ f H u :=
 fun ρ _ a _ hf => ⟨a.eval z, by simp [execOp, (hc.use hf).bool_inv, asBool], hy.use hf⟩
theorem A_pkT (hc : EV n f x (.bool true)) (hy : EV n f y v) (h : COps P n H0 F0 A r (put f d v) cs K) : COps P n H0 F0 A (⟨d, .pick x y z, T, ps, af, none⟩ :: r) f cs K := C_val (V_pickT hc hy) h
theorem A_pkF (hc : EV n f x (.bool false)) (hy : EV n f z v) (h : COps P n H0 F0 A r (put f d v) cs K) : COps P n H0 F0 A (⟨d, .pick x y z, T, ps, af, none⟩ :: r) f cs K := C_val (V_pickF hc hy) h
theorem A_fa {k i j fi off : Nat} [hF : IFD P T fi off] (hx : EV n f x (.pointer (some ⟨k, i, some j⟩))) (h : COps P n H0 F0 A r (put f d (.pointer (some ⟨k, i, some (j + off)⟩))) cs K) :
   COps P n H0 F0 A (⟨d, .fieldAddr T x fi, T', ps, af, none⟩ :: r) f cs K := C_val (V_fieldAddr hF.h hx) h
theorem A_ldR {k j : Nat} {TB : TypeId} {e : Value} [hA : IAG P T false] (hx : EV n f x (.pointer (some ⟨k, 0, some j⟩))) (hm : Mem (cblkR k ⟨[e], TB, true, false⟩) cs) (hv : e.cells.toList[j]? = some v)
   (h : COps P n H0 F0 A r (put f d v) cs K) : COps P n H0 F0 A (⟨d, .load T x, T', ps, af, none⟩ :: r) f cs K := C_at hm (fun hp => V_load hA.h hx hp.2 rfl hv) h
theorem A_ldW {k j : Nat} {TB : TypeId} {e : Value} [hA : IAG P T false] (hx : EV n f x (.pointer (some ⟨k, 0, some j⟩))) (hm : Mem (cblk k ⟨[e], TB, true, true⟩) cs) (hv : e.cells.toList[j]? = some v)
   (h : COps P n H0 F0 A r (put f d v) cs K) : COps P n H0 F0 A (⟨d, .load T x, T', ps, af, none⟩ :: r) f cs K := C_at hm (fun hp => V_load hA.h hx hp.2 rfl hv) h
theorem A_bxR {k s b : Nat} {zv : Value} {TB : TypeId} {l : List Value} [hA : IAG P T true] [ht : ITY P T s b zv] (hx : EV n f x (.pointer (some ⟨k, 0, some 0⟩))) (hm : Mem (cblkR k ⟨[.agg l.toArray], TB, true, false⟩) cs) (h0 : Nat.blt 0 s = true) (hl : l.length = s)
   (h : COps P n H0 F0 A r (put f d (.agg l.toArray)) cs K) : COps P n H0 F0 A (⟨d, .load T x, T', ps, af, none⟩ :: r) f cs K := C_at hm (fun hp => V_loadBox hA.h ht.h.sz h0 hx hp.2 hl) h
theorem A_bxW {k s b : Nat} {zv : Value} {TB : TypeId} {l : List Value} [hA : IAG P T true] [ht : ITY P T s b zv] (hx : EV n f x (.pointer (some ⟨k, 0, some 0⟩))) (hm : Mem (cblk k ⟨[.agg l.toArray], TB, true, true⟩) cs) (h0 : Nat.blt 0 s = true) (hl : l.length = s)
   (h : COps P n H0 F0 A r (put f d (.agg l.toArray)) cs K) : COps P n H0 F0 A (⟨d, .load T x, T', ps, af, none⟩ :: r) f cs K := C_at hm (fun hp => V_loadBox hA.h ht.h.sz h0 hx hp.2 hl) h
theorem A_len {α : Type} {R : AHeap → Value → α → Prop} {_ : Mono R} {xs : List α} {ts : List TypeId} [hT : ISL P T E] (hx : EV n f x v) (hm : Mem (crd (RdS E R) v xs) cs)
   (h : COps P n H0 F0 A r (put f d (.int .i64 xs.length)) cs K) : COps P n H0 F0 A (⟨d, .call ⟨.builtin .len, [x].toArray, (T :: ts).toArray⟩, T', ps, af, none⟩ :: r) f cs K := C_at hm (fun hp => V_lenR hT.h hx (crd_len hp)) h
theorem A_lenO {α : Type} {Ro : ORel α} {_ : Keep Ro} {F : List Nat} {xs : List α} {ts : List TypeId} [hT : ISL P T E] (hx : EV n f x v) (hm : Mem (cown (OwnS E Ro) F v xs) cs)
   (h : COps P n H0 F0 A r (put f d (.int .i64 xs.length)) cs K) : COps P n H0 F0 A (⟨d, .call ⟨.builtin .len, [x].toArray, (T :: ts).toArray⟩, T', ps, af, none⟩ :: r) f cs K := C_at hm (fun hp => V_lenR hT.h hx (cown_len hp)) h
theorem A_on {j : Nat} {t : Tmp} {b : Bool} (hd : (A[j]?).bind (·.dst) = some t) (hv : f t = .bool b) (ht : Nat.blt t n = true) (h : COps P n H0 F0 A (⟨d, op, T, ps, af, none⟩ :: r) f cs K) :
   COps P n H0 F0 A (⟨d, op, T, ps, af, some (j, b)⟩ :: r) f cs K := C_on hd hv ht h
theorem A_of {j : Nat} {t : Tmp} {b : Bool} (hd : (A[j]?).bind (·.dst) = some t) (hv : f t = .bool (!b)) (ht : Nat.blt t n = true) (h : COps P n H0 F0 A r (put f d undef) cs K) :
   COps P n H0 F0 A (⟨d, op, T, ps, af, some (j, b)⟩ :: r) f cs K := C_off hd hv ht h
theorem A_oU {j : Nat} {t : Tmp} {b : Bool} (hd : (A[j]?).bind (·.dst) = some t) (hv : f t = undef) (ht : Nat.blt t n = true) (h : COps P n H0 F0 A r (put f d undef) cs K) :
   COps P n H0 F0 A (⟨d, op, T, ps, af, some (j, b)⟩ :: r) f cs K := C_offU hd hv ht h
theorem A_add {kk : IntKind} {q q2 : Int} (hx : EV n f x (.int kk q)) (hy : EV n f y (.int kk q2)) (h : COps P n H0 F0 A r (put f d (.int kk (kk.wrap (q + q2)))) cs K) : COps P n H0 F0 A (⟨d, .binOp .add T x y T', T'', ps, af, none⟩ :: r) f cs K := C_val (V_add hx hy) h
theorem A_sub {kk : IntKind} {q q2 : Int} (hx : EV n f x (.int kk q)) (hy : EV n f y (.int kk q2)) (h : COps P n H0 F0 A r (put f d (.int kk (kk.wrap (q - q2)))) cs K) : COps P n H0 F0 A (⟨d, .binOp .sub T x y T', T'', ps, af, none⟩ :: r) f cs K := C_val (V_sub hx hy) h
theorem A_mul {kk : IntKind} {q q2 : Int} (hx : EV n f x (.int kk q)) (hy : EV n f y (.int kk q2)) (h : COps P n H0 F0 A r (put f d (.int kk (kk.wrap (q * q2)))) cs K) : COps P n H0 F0 A (⟨d, .binOp .mul T x y T', T'', ps, af, none⟩ :: r) f cs K := C_val (V_mul hx hy) h
theorem A_lss {kk : IntKind} {q q2 : Int} (hx : EV n f x (.int kk q)) (hy : EV n f y (.int kk q2)) (h : COps P n H0 F0 A r (put f d (.bool (decide (q < q2)))) cs K) : COps P n H0 F0 A (⟨d, .binOp .lss T x y T', T'', ps, af, none⟩ :: r) f cs K := C_val (V_lss hx hy) h
theorem A_leq {kk : IntKind} {q q2 : Int} (hx : EV n f x (.int kk q)) (hy : EV n f y (.int kk q2)) (h : COps P n H0 F0 A r (put f d (.bool (decide (q ≤ q2)))) cs K) : COps P n H0 F0 A (⟨d, .binOp .leq T x y T', T'', ps, af, none⟩ :: r) f cs K := C_val (V_leq hx hy) h
theorem A_gtr {kk : IntKind} {q q2 : Int} (hx : EV n f x (.int kk q)) (hy : EV n f y (.int kk q2)) (h : COps P n H0 F0 A r (put f d (.bool (decide (q2 < q)))) cs K) : COps P n H0 F0 A (⟨d, .binOp .gtr T x y T', T'', ps, af, none⟩ :: r) f cs K := C_val (V_gtr hx hy) h
theorem A_geq {kk : IntKind} {q q2 : Int} (hx : EV n f x (.int kk q)) (hy : EV n f y (.int kk q2)) (h : COps P n H0 F0 A r (put f d (.bool (decide (q2 ≤ q)))) cs K) : COps P n H0 F0 A (⟨d, .binOp .geq T x y T', T'', ps, af, none⟩ :: r) f cs K := C_val (V_geq hx hy) h
theorem A_eql {kk : IntKind} {q q2 : Int} (hx : EV n f x (.int kk q)) (hy : EV n f y (.int kk q2)) (h : COps P n H0 F0 A r (put f d (.bool (q == q2))) cs K) : COps P n H0 F0 A (⟨d, .binOp .eql T x y T', T'', ps, af, none⟩ :: r) f cs K := C_val (V_eql hx hy) h
theorem A_neq {kk : IntKind} {q q2 : Int} (hx : EV n f x (.int kk q)) (hy : EV n f y (.int kk q2)) (h : COps P n H0 F0 A r (put f d (.bool (q != q2))) cs K) : COps P n H0 F0 A (⟨d, .binOp .neq T x y T', T'', ps, af, none⟩ :: r) f cs K := C_val (V_neq hx hy) h
theorem A_not {b : Bool} (hx : EV n f x (.bool b)) (h : COps P n H0 F0 A r (put f d (.bool (!b))) cs K) : COps P n H0 F0 A (⟨d, .unOp .not T x, T', ps, af, none⟩ :: r) f cs K := C_val (V_not hx) h
variable {l : List Oper} {tb as todo : List Nat} {fl : List (Nat × List Nat)} {i : Nat} {gd : Option (Nat × Bool)}
theorem wtA (h : Wt n l f gd := by first | exact Wt.no | exact Wt.on _ rfl rfl rfl) : Wt n l f gd := h
theorem B_add {kk : IntKind} {q q2 : Int} (ho : l[i]? = some ⟨d, .binOp .add T x y T', T'', ps, af, gd⟩) (hw : Wt n l f gd) (hx : EV n f x (.int kk q)) (hn : opIn x (namesOf l ⟨d, .binOp .add T x y T', T'', ps, af, gd⟩) = true) (hy : EV n f y (.int kk q2)) (hm : opIn y (namesOf l ⟨d, .binOp .add T x y T', T'', ps, af, gd⟩) = true)
   (h : DC P n l tb as H0 F0 K todo fl (put f d (.int kk (kk.wrap (q + q2)))) cs) : DC P n l tb as H0 F0 K (i :: todo) fl f cs := D_val ho hw (fun ha => V_add (EN ha hx hn) (EN ha hy hm)) h
theorem B_sub {kk : IntKind} {q q2 : Int} (ho : l[i]? = some ⟨d, .binOp .sub T x y T', T'', ps, af, gd⟩) (hw : Wt n l f gd) (hx : EV n f x (.int kk q)) (hn : opIn x (namesOf l ⟨d, .binOp .sub T x y T', T'', ps, af, gd⟩) = true) (hy : EV n f y (.int kk q2)) (hm : opIn y (namesOf l ⟨d, .binOp .sub T x y T', T'', ps, af, gd⟩) = true)
   (h : DC P n l tb as H0 F0 K todo fl (put f d (.int kk (kk.wrap (q - q2)))) cs) : DC P n l tb as H0 F0 K (i :: todo) fl f cs := D_val ho hw (fun ha => V_sub (EN ha hx hn) (EN ha hy hm)) h
theorem B_mul {kk : IntKind} {q q2 : Int} (ho : l[i]? = some ⟨d, .binOp .mul T x y T', T'', ps, af, gd⟩) (hw : Wt n l f gd) (hx : EV n f x (.int kk q)) (hn : opIn x (namesOf l ⟨d, .binOp .mul T x y T', T'', ps, af, gd⟩) = true) (hy : EV n f y (.int kk q2)) (hm : opIn y (namesOf l ⟨d, .binOp .mul T x y T', T'', ps, af, gd⟩) = true)
   (h : DC P n l tb as H0 F0 K todo fl (put f d (.int kk (kk.wrap (q * q2)))) cs) : DC P n l tb as H0 F0 K (i :: todo) fl f cs := D_val ho hw (fun ha => V_mul (EN ha hx hn) (EN ha hy hm)) h
theorem B_lss {kk : IntKind} {q q2 : Int} (ho : l[i]? = some ⟨d, .binOp .lss T x y T', T'', ps, af, gd⟩) (hw : Wt n l f gd) (hx : EV n f x (.int kk q)) (hn : opIn x (namesOf l ⟨d, .binOp .lss T x y T', T'', ps, af, gd⟩) = true) (hy : EV n f y (.int kk q2)) (hm : opIn y (namesOf l ⟨d, .binOp .lss T x y T', T'', ps, af, gd⟩) = true)
   (h : DC P n l tb as H0 F0 K todo fl (put f d (.bool (decide (q < q2)))) cs) : DC P n l tb as H0 F0 K (i :: todo) fl f cs := D_val ho hw (fun ha => V_lss (EN ha hx hn) (EN ha hy hm)) h
theorem B_leq {kk : IntKind} {q q2 : Int} (ho : l[i]? = some ⟨d, .binOp .leq T x y T', T'', ps, af, gd⟩) (hw : Wt n l f gd) (hx : EV n f x (.int kk q)) (hn : opIn x (namesOf l ⟨d, .binOp .leq T x y T', T'', ps, af, gd⟩) = true) (hy : EV n f y (.int kk q2)) (hm : opIn y (namesOf l ⟨d, .binOp .leq T x y T', T'', ps, af, gd⟩) = true)
   (h : DC P n l tb as H0 F0 K todo fl (put f d (.bool (decide (q ≤ q2)))) cs) : DC P n l tb as H0 F0 K (i :: todo) fl f cs := D_val ho hw (fun ha => V_leq (EN ha hx hn) (EN ha hy hm)) h
theorem B_gtr {kk : IntKind} {q q2 : Int} (ho : l[i]? = some ⟨d, .binOp .gtr T x y T', T'', ps, af, gd⟩) (hw : Wt n l f gd) (hx : EV n f x (.int kk q)) (hn : opIn x (namesOf l ⟨d, .binOp .gtr T x y T', T'', ps, af, gd⟩) = true) (hy : EV n f y (.int kk q2)) (hm : opIn y (namesOf l ⟨d, .binOp .gtr T x y T', T'', ps, af, gd⟩) = true)
   (h : DC P n l tb as H0 F0 K todo fl (put f d (.bool (decide (q2 < q)))) cs) : DC P n l tb as H0 F0 K (i :: todo) fl f cs := D_val ho hw (fun ha => V_gtr (EN ha hx hn) (EN ha hy hm)) h
theorem B_geq {kk : IntKind} {q q2 : Int} (ho : l[i]? = some ⟨d, .binOp .geq T x y T', T'', ps, af, gd⟩) (hw : Wt n l f gd) (hx : EV n f x (.int kk q)) (hn : opIn x (namesOf l ⟨d, .binOp .geq T x y T', T'', ps, af, gd⟩) = true) (hy : EV n f y (.int kk q2)) (hm : opIn y (namesOf l ⟨d, .binOp .geq T x y T', T'', ps, af, gd⟩) = true)
   (h : DC P n l tb as H0 F0 K todo fl (put f d (.bool (decide (q2 ≤ q)))) cs) : DC P n l tb as H0 F0 K (i :: todo) fl f cs := D_val ho hw (fun ha => V_geq (EN ha hx hn) (EN ha hy hm)) h
theorem B_eql {kk : IntKind} {q q2 : Int} (ho : l[i]? = some ⟨d, .binOp .eql T x y T', T'', ps, af, gd⟩) (hw : Wt n l f gd) (hx : EV n f x (.int kk q)) (hn : opIn x (namesOf l ⟨d, .binOp .eql T x y T', T'', ps, af, gd⟩) = true) (hy : EV n f y (.int kk q2)) (hm : opIn y (namesOf l ⟨d, .binOp .eql T x y T', T'', ps, af, gd⟩) = true)
   (h : DC P n l tb as H0 F0 K todo fl (put f d (.bool (q == q2))) cs) : DC P n l tb as H0 F0 K (i :: todo) fl f cs := D_val ho hw (fun ha => V_eql (EN ha hx hn) (EN ha hy hm)) h
theorem B_neq {kk : IntKind} {q q2 : Int} (ho : l[i]? = some ⟨d, .binOp .neq T x y T', T'', ps, af, gd⟩) (hw : Wt n l f gd) (hx : EV n f x (.int kk q)) (hn : opIn x (namesOf l ⟨d, .binOp .neq T x y T', T'', ps, af, gd⟩) = true) (hy : EV n f y (.int kk q2)) (hm : opIn y (namesOf l ⟨d, .binOp .neq T x y T', T'', ps, af, gd⟩) = true)
   (h : DC P n l tb as H0 F0 K todo fl (put f d (.bool (q != q2))) cs) : DC P n l tb as H0 F0 K (i :: todo) fl f cs := D_val ho hw (fun ha => V_neq (EN ha hx hn) (EN ha hy hm)) h
theorem B_not {b : Bool} (ho : l[i]? = some ⟨d, .unOp .not T x, T', ps, af, gd⟩) (hw : Wt n l f gd) (hx : EV n f x (.bool b)) (hn : opIn x (namesOf l ⟨d, .unOp .not T x, T', ps, af, gd⟩) = true)
   (h : DC P n l tb as H0 F0 K todo fl (put f d (.bool (!b))) cs) : DC P n l tb as H0 F0 K (i :: todo) fl f cs := D_val ho hw (fun ha => V_not (EN ha hx hn)) h
theorem B_mv (ho : l[i]? = some ⟨d, .move x, T, ps, af, gd⟩) (hw : Wt n l f gd)
   (hx : EV n f x v) (hn : opIn x (namesOf l ⟨d, .move x, T, ps, af, gd⟩) = true) (h : DC P n l tb as H0 F0 K todo fl (put f d v) cs) :
   DC P n l tb as H0 F0 K (i :: todo) fl f cs := D_val ho hw (fun ha => V_move (EN ha hx hn)) h
theorem B_as (ho : l[i]? = some ⟨d, .assign x, T, ps, af, gd⟩) (hw : Wt n l f gd)
   (hx : EV n f x v) (hn : opIn x (namesOf l ⟨d, .assign x, T, ps, af, gd⟩) = true) (h : DC P n l tb as H0 F0 K todo fl (put f d v) cs) :
   DC P n l tb as H0 F0 K (i :: todo) fl f cs := D_val ho hw (fun ha => V_assign (EN ha hx hn)) h
theorem B_pkT (ho : l[i]? = some ⟨d, .pick x y z, T, ps, af, gd⟩) (hw : Wt n l f gd) (hc : EV n f x (.bool true)) (hn : opIn x (namesOf l ⟨d, .pick x y z, T, ps, af, gd⟩) = true)
   (hy : EV n f y v) (hm : opIn y (namesOf l ⟨d, .pick x y z, T, ps, af, gd⟩) = true) (h : DC P n l tb as H0 F0 K todo fl (put f d v) cs) :
   DC P n l tb as H0 F0 K (i :: todo) fl f cs := D_val ho hw (fun ha => V_pickT (EN ha hc hn) (EN ha hy hm)) h
theorem B_pkF (ho : l[i]? = some ⟨d, .pick x y z, T, ps, af, gd⟩) (hw : Wt n l f gd) (hc : EV n f x (.bool false)) (hn : opIn x (namesOf l ⟨d, .pick x y z, T, ps, af, gd⟩) = true)
   (hy : EV n f z v) (hm : opIn z (namesOf l ⟨d, .pick x y z, T, ps, af, gd⟩) = true) (h : DC P n l tb as H0 F0 K todo fl (put f d v) cs) :
   DC P n l tb as H0 F0 K (i :: todo) fl f cs := D_val ho hw (fun ha => V_pickF (EN ha hc hn) (EN ha hy hm)) h
theorem B_fa {k i0 j fi off : Nat} (ho : l[i]? = some ⟨d, .fieldAddr T x fi, T', ps, af, gd⟩) {hF : IFD P T fi off} (hw : Wt n l f gd)
   (hx : EV n f x (.pointer (some ⟨k, i0, some j⟩))) (hn : opIn x (namesOf l ⟨d, .fieldAddr T x fi, T', ps, af, gd⟩) = true) (h : DC P n l tb as H0 F0 K todo fl (put f d (.pointer (some ⟨k, i0, some (j + off)⟩))) cs) :
   DC P n l tb as H0 F0 K (i :: todo) fl f cs := D_val ho hw (fun ha => V_fieldAddr hF.h (EN ha hx hn)) h
theorem B_ldR {k j : Nat} {TB : TypeId} {e : Value} (ho : l[i]? = some ⟨d, .load T x, T', ps, af, gd⟩) {hA : IAG P T false} (hw : Wt n l f gd)
   (hx : EV n f x (.pointer (some ⟨k, 0, some j⟩))) (hn : opIn x (namesOf l ⟨d, .load T x, T', ps, af, gd⟩) = true) (hm : Mem (cblkR k ⟨[e], TB, true, false⟩) cs) (hv : e.cells.toList[j]? = some v)
   (h : DC P n l tb as H0 F0 K todo fl (put f d v) cs) : DC P n l tb as H0 F0 K (i :: todo) fl f cs := D_at ho hw hm rfl (fun ha hp => V_load hA.h (EN ha hx hn) hp.2 rfl hv) h
theorem B_bxR {k s b : Nat} {zv : Value} {TB : TypeId} {e : List Value} (ho : l[i]? = some ⟨d, .load T x, T', ps, af, gd⟩) {hA : IAG P T true} {ht : ITY P T s b zv} (hw : Wt n l f gd)
   (hx : EV n f x (.pointer (some ⟨k, 0, some 0⟩))) (hn : opIn x (namesOf l ⟨d, .load T x, T', ps, af, gd⟩) = true) (hm : Mem (cblkR k ⟨[.agg e.toArray], TB, true, false⟩) cs) (h0 : Nat.blt 0 s = true) (hl : e.length = s)
   (h : DC P n l tb as H0 F0 K todo fl (put f d (.agg e.toArray)) cs) : DC P n l tb as H0 F0 K (i :: todo) fl f cs := D_at ho hw hm rfl (fun ha hp => V_loadBox hA.h ht.h.sz h0 (EN ha hx hn) hp.2 hl) h
theorem B_len {α : Type} {R : AHeap → Value → α → Prop} {_ : Mono R} {xs : List α} {ts : List TypeId} (ho : l[i]? = some ⟨d, .call ⟨.builtin .len, [x].toArray, (T :: ts).toArray⟩, T', ps, af, gd⟩) {hT : ISL P T E} (hw : Wt n l f gd)
   (hx : EV n f x v) (hn : opIn x (namesOf l ⟨d, .call ⟨.builtin .len, [x].toArray, (T :: ts).toArray⟩, T', ps, af, gd⟩) = true) (hm : Mem (crd (RdS E R) v xs) cs)
   (h : DC P n l tb as H0 F0 K todo fl (put f d (.int .i64 xs.length)) cs) : DC P n l tb as H0 F0 K (i :: todo) fl f cs := D_at ho hw hm rfl (fun ha hp => V_lenR hT.h (EN ha hx hn) (crd_len hp)) h
theorem B_of {t : Tmp} {j : Nat} {b : Bool} (ho : l[i]? = some ⟨d, op, T, ps, af, some (j, b)⟩) (h1 : (l[j]?).bind (·.dst) = some t) (h2 : f t = .bool (!b)) (h3 : Nat.blt t n = true) (h : DC P n l tb as H0 F0 K todo fl (put f d undef) cs) :
   DC P n l tb as H0 F0 K (i :: todo) fl f cs := D_off t ho h1 h2 h3 h
theorem B_oU {t : Tmp} {j : Nat} {b : Bool} (ho : l[i]? = some ⟨d, op, T, ps, af, some (j, b)⟩) (h1 : (l[j]?).bind (·.dst) = some t) (h2 : f t = undef) (h3 : Nat.blt t n = true) (h : DC P n l tb as H0 F0 K todo fl (put f d undef) cs) :
   DC P n l tb as H0 F0 K (i :: todo) fl f cs := D_offU t ho h1 h2 h3 h
theorem CThen_nor {K : Fr → List Comp → Prop} {Q : Exit → Fr → List Comp → Prop} (h : K f cs) : CThen K Q .normal f cs := h
theorem CIn_nor {id : Nat} {Q : Exit → Fr → List Comp → Prop} (h : Q .normal f cs) : CIn id Q .normal f cs := h
theorem au {G N : Prop} (k : N) (h : N → G := by
   intro k
   repeat (first | with_reducible refine CThen_nor ?_ | with_reducible refine CIn_nor ?_)
   first
   | ((with_reducible refine' A_mv ?hx k); (case hx => exact evV))
   | ((with_reducible refine' A_fa ?hx k); (case hx => exact evA))
   | with_reducible exact C_nil k
   | ((with_reducible refine' A_on ?r1 ?r2 ?r3 k); (case r1 => exact rfl); (case r2 => exact rfl); (case r3 => exact rfl))
   | ((with_reducible refine' A_of ?r1 ?r2 ?r3 k); (case r1 => exact rfl); (case r2 => exact rfl); (case r3 => exact rfl))
   | ((with_reducible refine' A_as ?hx k); (case hx => exact evV))
   | ((with_reducible refine' A_ldR ?hx ?hm ?hv k); (case hx => exact evA); (case hm => exact memA); (case hv => exact atV))
   | ((with_reducible refine' A_ldW ?hx ?hm ?hv k); (case hx => exact evA); (case hm => exact memA); (case hv => exact atV))
   | ((with_reducible refine' A_bxR ?hx ?hm ?r1 ?r2 k); (case hx => exact evA); (case hm => exact memA); (case r1 => exact rfl); (case r2 => exact rfl))
   | ((with_reducible refine' A_bxW ?hx ?hm ?r1 ?r2 k); (case hx => exact evA); (case hm => exact memA); (case r1 => exact rfl); (case r2 => exact rfl))
   | ((with_reducible refine' A_len ?hx ?hm k); (case hx => exact evV); (case hm => exact memA); all_goals infer_instance)
   | ((with_reducible refine' A_lenO ?hx ?hm k); (case hx => exact evV); (case hm => exact memA); all_goals infer_instance)
   | ((with_reducible refine' A_lss ?a ?b k); (case a => exact evA); (case b => exact evA))
   | ((with_reducible refine' A_not ?a k); (case a => exact evA))
   | ((with_reducible refine' A_pkT ?hc ?hy k); (case hc => exact evA); (case hy => exact evV))
   | ((with_reducible refine' A_pkF ?hc ?hy k); (case hc => exact evA); (case hy => exact evV))
   | ((with_reducible refine' A_oU ?r1 ?r2 ?r3 k); (case r1 => exact rfl); (case r2 => exact rfl); (case r3 => exact rfl))
   | ((with_reducible refine' A_add ?a ?b k); (case a => exact evA); (case b => exact evA))
   | ((with_reducible refine' A_sub ?a ?b k); (case a => exact evA); (case b => exact evA))
   | ((with_reducible refine' A_eql ?a ?b k); (case a => exact evA); (case b => exact evA))
   | ((with_reducible refine' A_neq ?a ?b k); (case a => exact evA); (case b => exact evA))
   | ((with_reducible refine' A_leq ?a ?b k); (case a => exact evA); (case b => exact evA))
   | ((with_reducible refine' A_gtr ?a ?b k); (case a => exact evA); (case b => exact evA))
   | ((with_reducible refine' A_geq ?a ?b k); (case a => exact evA); (case b => exact evA))
   | ((with_reducible refine' A_mul ?a ?b k); (case a => exact evA); (case b => exact evA))
   | with_reducible exact K_region k
   | with_reducible exact CW_region k
   | with_reducible exact K_block k
   | with_reducible exact CW_skip k
   | with_reducible exact K_in k
   | with_reducible exact CThen_exit k
   | with_reducible exact CThen_ret k
   | with_reducible exact CIn_self k
   | ((with_reducible refine' CIn_ne ?a k); (case a => exact rfl))
   | with_reducible exact CIn_ret k
   | with_reducible exact CW_exit k
   | with_reducible exact CW_ret k) : G := h k
theorem du {G N : Prop} (k : N) (h : N → G := by
   intro k
   first
   | ((with_reducible refine' B_mv ?r1 ?hw ?hx ?r2 k); (case r1 => exact rfl); (case hw => exact wtA); (case hx => exact evV); (case r2 => exact rfl))
   | ((with_reducible refine' B_fa ?r1 ?hw ?hx ?r2 k); (case r1 => exact rfl); (case hw => exact wtA); (case hx => exact evA); (case r2 => exact rfl); all_goals infer_instance)
   | ((with_reducible refine' B_ldR ?r1 ?hw ?hx ?r2 ?hm ?hv k); (case r1 => exact rfl); (case hw => exact wtA); (case hx => exact evA); (case r2 => exact rfl); (case hm => exact memA); (case hv => exact atV); all_goals infer_instance)
   | ((with_reducible refine' B_of ?r1 ?r2 ?r3 ?r4 k); (case r1 => exact rfl); (case r2 => exact rfl); (case r3 => exact rfl); (case r4 => exact rfl))
   | ((with_reducible refine' B_oU ?r1 ?r2 ?r3 ?r4 k); (case r1 => exact rfl); (case r2 => exact rfl); (case r3 => exact rfl); (case r4 => exact rfl))
   | ((with_reducible refine' B_len ?r1 ?hw ?hx ?r2 ?hm k); (case r1 => exact rfl); (case hw => exact wtA); (case hx => exact evV); (case r2 => exact rfl); (case hm => exact memA); all_goals infer_instance)
   | ((with_reducible refine' B_pkT ?r1 ?hw ?hc ?r2 ?hy ?r3 k); (case r1 => exact rfl); (case hw => exact wtA); (case hc => exact evA); (case r2 => exact rfl); (case hy => exact evV); (case r3 => exact rfl))
   | ((with_reducible refine' B_pkF ?r1 ?hw ?hc ?r2 ?hy ?r3 k); (case r1 => exact rfl); (case hw => exact wtA); (case hc => exact evA); (case r2 => exact rfl); (case hy => exact evV); (case r3 => exact rfl))
   | ((with_reducible refine' B_not ?r1 ?hw ?hx ?r2 k); (case r1 => exact rfl); (case hw => exact wtA); (case hx => exact evA); (case r2 => exact rfl))
   | ((with_reducible refine' B_lss ?r1 ?hw ?hx ?r2 ?hy ?r3 k); (case r1 => exact rfl); (case hw => exact wtA); (case hx => exact evA); (case r2 => exact rfl); (case hy => exact evA); (case r3 => exact rfl))
   | ((with_reducible refine' B_eql ?r1 ?hw ?hx ?r2 ?hy ?r3 k); (case r1 => exact rfl); (case hw => exact wtA); (case hx => exact evA); (case r2 => exact rfl); (case hy => exact evA); (case r3 => exact rfl))
   | ((with_reducible refine' B_neq ?r1 ?hw ?hx ?r2 ?hy ?r3 k); (case r1 => exact rfl); (case hw => exact wtA); (case hx => exact evA); (case r2 => exact rfl); (case hy => exact evA); (case r3 => exact rfl))
   | ((with_reducible refine' B_add ?r1 ?hw ?hx ?r2 ?hy ?r3 k); (case r1 => exact rfl); (case hw => exact wtA); (case hx => exact evA); (case r2 => exact rfl); (case hy => exact evA); (case r3 => exact rfl))
   | ((with_reducible refine' B_sub ?r1 ?hw ?hx ?r2 ?hy ?r3 k); (case r1 => exact rfl); (case hw => exact wtA); (case hx => exact evA); (case r2 => exact rfl); (case hy => exact evA); (case r3 => exact rfl))
   | ((with_reducible refine' B_leq ?r1 ?hw ?hx ?r2 ?hy ?r3 k); (case r1 => exact rfl); (case hw => exact wtA); (case hx => exact evA); (case r2 => exact rfl); (case hy => exact evA); (case r3 => exact rfl))
   | ((with_reducible refine' B_gtr ?r1 ?hw ?hx ?r2 ?hy ?r3 k); (case r1 => exact rfl); (case hw => exact wtA); (case hx => exact evA); (case r2 => exact rfl); (case hy => exact evA); (case r3 => exact rfl))
   | ((with_reducible refine' B_geq ?r1 ?hw ?hx ?r2 ?hy ?r3 k); (case r1 => exact rfl); (case hw => exact wtA); (case hx => exact evA); (case r2 => exact rfl); (case hy => exact evA); (case r3 => exact rfl))
   | ((with_reducible refine' B_mul ?r1 ?hw ?hx ?r2 ?hy ?r3 k); (case r1 => exact rfl); (case hw => exact wtA); (case hx => exact evA); (case r2 => exact rfl); (case hy => exact evA); (case r3 => exact rfl))
   | ((with_reducible refine' B_as ?r1 ?hw ?hx ?r2 k); (case r1 => exact rfl); (case hw => exact wtA); (case hx => exact evV); (case r2 => exact rfl))
   | ((with_reducible refine' B_bxR ?r1 ?hw ?hx ?r2 ?hm ?r3 ?r4 k); (case r1 => exact rfl); (case hw => exact wtA); (case hx => exact evA); (case r2 => exact rfl); (case hm => exact memA); (all_goals (try infer_instance)); (case r3 => exact rfl); (case r4 => exact rfl))
   | with_reducible exact D_nil k) : G := h k
theorem flA {fl : List (Nat × List Nat)} (h : FlD tb i rest fl := by
   repeat (first
     | exact FlD.nil
     | refine' FlD.dep rfl ?_
     | refine' FlD.imm (by exact memA) ?_)) : FlD tb i rest fl := h
theorem ENs {f' : Fr} {o : Oper} : ∀ {xs : List Operand} {vs : List Value}, namedEq l o f f' → EVs n f xs vs → xs.all (fun x => opIn x (namesOf l o)) = true → EVs n f' xs vs
 | [], [], _, _, _ => .nil
 | x :: xs, v :: vs, ha, ⟨h, t⟩, hn => by
   simp only [List.all_cons, Bool.and_eq_true] at hn
   exact .cons (EN ha h hn.1) (ENs ha t hn.2)
 | [], _ :: _, _, h, _ => h.elim
 | _ :: _, [], _, h, _ => h.elim
variable {ι α : Type} {val : ι → Value} {R : AHeap → Value → α → Prop} {xs : List α} {a : α} {g k j s b off : Nat} {zv e : Value} {kk : IntKind} {q : Int} {TB : TypeId} {Q : Exit → Fr → List Comp → Prop} {c1 c2 : Code}
theorem Cc {b : Bool} (h1 : b = true → CW P n H0 F0 c1 Q f cs) (h2 : b = false → CW P n H0 F0 c2 Q f cs) (hc : EV n f x (.bool b) := by exact evA) : CW P n H0 F0 (.cond x c1 c2) Q f cs := CW_cond hc h1 h2
theorem CcT {b : Bool} (hb : b = true) (h1 : CW P n H0 F0 c1 Q f cs) (hc : EV n f x (.bool b) := by exact evA) : CW P n H0 F0 (.cond x c1 c2) Q f cs := CW_cond hc (fun _ => h1) (fun h => absurd (hb.symm.trans h) (by decide))
theorem CcF {b : Bool} (hb : b = false) (h2 : CW P n H0 F0 c2 Q f cs) (hc : EV n f x (.bool b) := by exact evA) : CW P n H0 F0 (.cond x c1 c2) Q f cs := CW_cond hc (fun h => absurd (hb.symm.trans h) (by decide)) (fun _ => h2)
theorem CdT {p : Prop} {_ : Decidable p} (h1 : CW P n H0 F0 c1 Q f cs) (hc : EV n f x (.bool (decide p)) := by exact evA) (hp : p := by omega) : CW P n H0 F0 (.cond x c1 c2) Q f cs := CcT (decide_eq_true hp) h1 hc
theorem CdF {p : Prop} {_ : Decidable p} (h2 : CW P n H0 F0 c2 Q f cs) (hc : EV n f x (.bool (decide p)) := by exact evA) (hp : ¬ p := by omega) : CW P n H0 F0 (.cond x c1 c2) Q f cs := CcF (decide_eq_false hp) h2 hc
theorem Ai [Mono R] [hT : ISL P T E] [hs : ITY P E s b zv] (hi : xs[q.toNat]? = some a) (h : ∀ k j, COps P n H0 F0 A r (put f d (.pointer (some ⟨k, j, some 0⟩))) (cptr E R k j a :: cs) K)
   (hx : EV n f x v := by exact evV) (hy : EV n f y (.int kk q) := by exact evA) (hm : Mem (crd (RdS E R) v xs) cs := by exact memA) (h0 : 0 ≤ q := by first | exact Int.natCast_nonneg _ | assumption) :
   COps P n H0 F0 A (⟨d, .indexAddr T x y, T', ps, af, none⟩ :: r) f cs K := C_idx hT.h hs.h.sz hx hy hm h0 hi h
theorem Di [Mono R] [hT : ISL P T E] [hs : ITY P E s b zv] (hi : xs[q.toNat]? = some a) (h : ∀ k j, DC P n l tb as H0 F0 K todo fl (put f d (.pointer (some ⟨k, j, some 0⟩))) (cptr E R k j a :: cs))
   (ho : l[i]? = some ⟨d, .indexAddr T x y, T', ps, af, gd⟩ := by rfl) (hw : Wt n l f gd := by exact wtA)
   (hx : EV n f x v := by exact evV) (hy : EV n f y (.int kk q) := by exact evA) (hxn : opIn x (namesOf l ⟨d, .indexAddr T x y, T', ps, af, gd⟩) = true := by rfl) (hyn : opIn y (namesOf l ⟨d, .indexAddr T x y, T', ps, af, gd⟩) = true := by rfl)
   (hm : Mem (crd (RdS E R) v xs) cs := by exact memA) (h0 : 0 ≤ q := by first | exact Int.natCast_nonneg _ | assumption) :
   DC P n l tb as H0 F0 K (i :: todo) fl f cs := D_idx hT.h hs.h.sz ho hw hx hy hxn hyn hm h0 hi h
theorem Al [Mono R] [hA : IAG P T false] (hop : ∀ H e, R H e a → e.cells.toList[off]? = some v) (h : COps P n H0 F0 A r (put f d v) cs K) (hx : EV n f x (.pointer (some ⟨k, j, some off⟩)) := by exact evA) (hm : Mem (cptr E R k j a) cs := by exact memA) :
   COps P n H0 F0 A (⟨d, .load T x, T', ps, af, none⟩ :: r) f cs K := C_ldS hA.h hx hm hop h
theorem Dl [Mono R] [hA : IAG P T false] (hop : ∀ H e, R H e a → e.cells.toList[off]? = some v) (h : DC P n l tb as H0 F0 K todo fl (put f d v) cs) (ho : l[i]? = some ⟨d, .load T x, T', ps, af, gd⟩ := by rfl) (hw : Wt n l f gd := by exact wtA)
   (hx : EV n f x (.pointer (some ⟨k, j, some off⟩)) := by exact evA) (hxn : opIn x (namesOf l ⟨d, .load T x, T', ps, af, gd⟩) = true := by rfl) (hm : Mem (cptr E R k j a) cs := by exact memA) :
   DC P n l tb as H0 F0 K (i :: todo) fl f cs := D_ldS hA.h ho hw hx hxn hm hop h
theorem AbR [ht : ITY P T s b zv] (h : ∀ k, COps P n H0 F0 A r (put f d (.pointer (some ⟨k, 0, some 0⟩))) (cblkR k ⟨[v], T, true, false⟩ :: cs) K) (hx : EV n f x v := by exact evV) (hv : v.cells.size = s := by rfl) :
   COps P n H0 F0 A (⟨d, .box T x, T', ps, af, none⟩ :: r) f cs K := C_newR rfl (N_box ht.h.sz hx hv) h
theorem AbW [ht : ITY P T s b zv] (h : ∀ k, COps P n H0 F0 A r (put f d (.pointer (some ⟨k, 0, some 0⟩))) (cblk k ⟨[v], T, true, true⟩ :: cs) K) (hx : EV n f x v := by exact evV) (hv : v.cells.size = s := by rfl) :
   COps P n H0 F0 A (⟨d, .box T x, T', ps, af, none⟩ :: r) f cs K := C_new rfl (N_box ht.h.sz hx hv) h
theorem AnW [ht : ITY P T s b zv] (h : ∀ k, COps P n H0 F0 A r (put f d (.pointer (some ⟨k, 0, some 0⟩))) (cblk k ⟨[zv], T, true, true⟩ :: cs) K) (hv : zv.cells.size = s := by rfl) (hc : closedB zv = true := by rfl) :
   COps P n H0 F0 A (⟨d, .alloc T, T', ps, af, none⟩ :: r) f cs K := C_new rfl (N_allocT ht.h hv hc) h
theorem As [ht : ITY P T s b zv] (e'' : Value) (h : COps P n H0 F0 A r (put f d undef) (cbox k TB e'' :: rest) K) (hx : EV n f x (.pointer (some ⟨k, 0, some j⟩)) := by exact evA) (hy : EV n f y v := by exact evV) (hm : Sel cs (cbox k TB e) rest := by exact selA1)
   (hv : v.cells.size = s := by rfl) (hsc : v.cells.toList.all scal = true := by rfl) (h0 : Nat.blt 0 s = true := by rfl) (hj : Nat.ble (j + s) e.cells.size = true := by rfl) (he : setPart e j v.cells.toList = e'' := by rfl) :
   COps P n H0 F0 A (⟨d, .store T x y, T', ps, af, none⟩ :: r) f cs K := C_x1 (.cons hm .nil) (X_storeB ht.h.sz hx hy hv hsc h0 hj he) (fun _ => h)
theorem resA {rs : List ResultVar} {vs : List Value} (h : ResL P n f cs rs vs := by
   first
   | exact ResL.nil | exact .tmp rfl rfl .nil | exact .tmp rfl rfl (.tmp rfl rfl .nil) | exact .tmp rfl rfl (.tmp rfl rfl (.tmp rfl rfl .nil)) | exact .tmp rfl rfl (.tmp rfl rfl (.tmp rfl rfl (.tmp rfl rfl .nil)))
   | exact ResL.cellA rfl rfl (by exact memA) (by exact rfl) IAG.h (TY.sz ITY.h) (by exact rfl) (by exact rfl) .nil
   | exact ResL.cellS rfl rfl (by exact memA) (by exact rfl) IAG.h (by exact rfl) .nil) : ResL P n f cs rs vs := h
theorem Er {rs : List ResultVar} {post : ι → List Comp} {vs : List Value} (x : ι) (h1 : ResL P n f cs rs vs := by exact resA) (h2 : packV vs = val x := by rfl) (h3 : SelL cs (post x) rest := by exact selA) : EndQ P n rs val post .ret f cs := End_ret x h1 h2 (.sel h3)
theorem entA (h : SelL cs pre rest := by exact selA) : Ent cs pre := .sel h
theorem wk (k : Nat) (h : k < 9223372036854775807 := by omega) : IntKind.i64.wrap ((k : Int) + 1) = ((k + 1 : Nat) : Int) := by rw [wrap_in (by omega) (by omega)]; rfl
end
end Go.Fw
/-
 The same for calls: with the facts that come of them in a list.  No conditions.
-/
set_option linter.unusedVariables false
namespace Go.Fw
open Go
section
variable {P : Program} [LaidP P] {n : Nat} {f : Fr} {H0 : AHeap} {F0 : List Nat} {cs pre rest : List Comp} {x y : Operand} {v : Value} {A : Array Oper} {r : List Oper} {K : Fr → List Comp → Prop} {d : Option Tmp} {T E : TypeId} {ps : String} {af : Array Edge}
variable {l : List Oper} {tb as todo : List Nat} {fl : List (Nat × List Nat)} {i g : Nat} {gd : Option (Nat × Bool)} {ι α : Type} {val : ι → Value} {R : AHeap → Value → α → Prop} {a : α} {k j s b off : Nat} {zv : Value} {xs : List Operand} {ts : Array TypeId} {vs : List Value}
theorem nt {b : Bool} (h : b = false) : ¬ b = true := by rw [h]; exact Bool.false_ne_true
theorem Se {fn : Func} {c : Code} {args : List Value} {post : ι → List Comp} (n : Nat) (hf : P.funcs[g]? = some fn) (rs : List ResultVar) (h : ∀ H0 F0, CW P n H0 F0 c (EndQ P n rs val post) (frame0 args) pre)
   (hb : fn.body = some c := by rfl) (hn : fn.ntmps = n := by rfl) (hr : fn.results = rs.toArray := by rfl) (hl : Nat.ble rs.length 6 = true := by rfl) (ha : Nat.ble args.length n = true := by rfl) : Spec P g args pre val post := Spec_enter hf hb hn hr hl ha h
theorem Cx0 [hg : ICF P g] (hs : Spec P g vs pre val (fun x => [])) (h : ∀ x, COps P n H0 F0 A r (put f d (val x)) (rest) K) (he : EVs n f xs vs := by exact evsA) (hl : SelL cs pre rest := by exact selA) :
   COps P n H0 F0 A (⟨d, .call ⟨.value (.func g), xs.toArray, ts⟩, T, ps, af, none⟩ :: r) f cs K := C_x0 hl (X_callS hg.h he hs) h
theorem Dx0 [hg : ICF P g] (hs : Spec P g vs pre val (fun x => [])) (h : ∀ x, DC P n l tb as H0 F0 K todo fl (put f d (val x)) (rest))
   (ho : l[i]? = some ⟨d, .call ⟨.value (.func g), xs.toArray, ts⟩, T, ps, af, gd⟩ := by rfl) (hA : as.any (Nat.beq i) = true := by rfl) (hw : Wt n l f gd := by exact wtA) (he : EVs n f xs vs := by exact evsA)
   (hn : xs.all (fun x => opIn x (namesOf l ⟨d, .call ⟨.value (.func g), xs.toArray, ts⟩, T, ps, af, gd⟩)) = true := by rfl) (hl : SelL cs pre rest := by exact selA) (hfl : FlD tb i rest fl := by exact flA) :
   DC P n l tb as H0 F0 K (i :: todo) fl f cs := D_act0 hA ho hw hl hfl (fun ha => X_callS hg.h (ENs ha he hn) hs) h
theorem Cx1 {c1 : ι → Comp} [hg : ICF P g] (hs : Spec P g vs pre val (fun x => [c1 x])) (h : ∀ x, COps P n H0 F0 A r (put f d (val x)) (c1 x :: rest) K) (he : EVs n f xs vs := by exact evsA) (hl : SelL cs pre rest := by exact selA) :
   COps P n H0 F0 A (⟨d, .call ⟨.value (.func g), xs.toArray, ts⟩, T, ps, af, none⟩ :: r) f cs K := C_x1 hl (X_callS hg.h he hs) h
theorem Dx1 {c1 : ι → Comp} [hg : ICF P g] (hs : Spec P g vs pre val (fun x => [c1 x])) (h : ∀ x, DC P n l tb as H0 F0 K todo fl (put f d (val x)) (c1 x :: rest))
   (ho : l[i]? = some ⟨d, .call ⟨.value (.func g), xs.toArray, ts⟩, T, ps, af, gd⟩ := by rfl) (hA : as.any (Nat.beq i) = true := by rfl) (hw : Wt n l f gd := by exact wtA) (he : EVs n f xs vs := by exact evsA)
   (hn : xs.all (fun x => opIn x (namesOf l ⟨d, .call ⟨.value (.func g), xs.toArray, ts⟩, T, ps, af, gd⟩)) = true := by rfl) (hl : SelL cs pre rest := by exact selA) (hfl : FlD tb i rest fl := by exact flA) :
   DC P n l tb as H0 F0 K (i :: todo) fl f cs := D_act1 hA ho hw hl hfl (fun ha => X_callS hg.h (ENs ha he hn) hs) h
theorem Cx2 {c1 c2 : ι → Comp} [hg : ICF P g] (hs : Spec P g vs pre val (fun x => [c1 x, c2 x])) (h : ∀ x, COps P n H0 F0 A r (put f d (val x)) (c1 x :: c2 x :: rest) K) (he : EVs n f xs vs := by exact evsA) (hl : SelL cs pre rest := by exact selA) :
   COps P n H0 F0 A (⟨d, .call ⟨.value (.func g), xs.toArray, ts⟩, T, ps, af, none⟩ :: r) f cs K := C_x2 hl (X_callS hg.h he hs) h
theorem Cx3 {c1 c2 c3 : ι → Comp} [hg : ICF P g] (hs : Spec P g vs pre val (fun x => [c1 x, c2 x, c3 x])) (h : ∀ x, COps P n H0 F0 A r (put f d (val x)) (c1 x :: c2 x :: c3 x :: rest) K) (he : EVs n f xs vs := by exact evsA) (hl : SelL cs pre rest := by exact selA) :
   COps P n H0 F0 A (⟨d, .call ⟨.value (.func g), xs.toArray, ts⟩, T, ps, af, none⟩ :: r) f cs K := C_x3 hl (X_callS hg.h he hs) h
theorem Cx4 {c1 c2 c3 c4 : ι → Comp} [hg : ICF P g] (hs : Spec P g vs pre val (fun x => [c1 x, c2 x, c3 x, c4 x])) (h : ∀ x, COps P n H0 F0 A r (put f d (val x)) (c1 x :: c2 x :: c3 x :: c4 x :: rest) K) (he : EVs n f xs vs := by exact evsA) (hl : SelL cs pre rest := by exact selA) :
   COps P n H0 F0 A (⟨d, .call ⟨.value (.func g), xs.toArray, ts⟩, T, ps, af, none⟩ :: r) f cs K := C_x4 hl (X_callS hg.h he hs) h
theorem Cx5 {c1 c2 c3 c4 c5 : ι → Comp} [hg : ICF P g] (hs : Spec P g vs pre val (fun x => [c1 x, c2 x, c3 x, c4 x, c5 x])) (h : ∀ x, COps P n H0 F0 A r (put f d (val x)) (c1 x :: c2 x :: c3 x :: c4 x :: c5 x :: rest) K) (he : EVs n f xs vs := by exact evsA) (hl : SelL cs pre rest := by exact selA) :
   COps P n H0 F0 A (⟨d, .call ⟨.value (.func g), xs.toArray, ts⟩, T, ps, af, none⟩ :: r) f cs K := C_x5 hl (X_callS hg.h he hs) h
theorem AlA1 {T2 : TypeId} [Mono R] {c1 : ι → Comp} [hA : IAG P T true] [ht : ITY P T s b zv] (ul : ι → List Value) (hop : ∀ H e, R H e a → ∃ i, off + s ≤ e.cells.size ∧ (e.cells.toList.drop off).take s = ul i ∧ ∀ c ∈ ([c1 i] : List Comp), c.P H ∧ c.F = [])
   (h : ∀ i, COps P n H0 F0 A r (put f d (.agg (ul i).toArray)) (c1 i :: cs) K) (hx : EV n f x (.pointer (some ⟨k, j, some off⟩)) := by exact evA) (hm : Mem (cptr E R k j a) cs := by exact memA) (h0 : Nat.blt 0 s = true := by rfl) :
   COps P n H0 F0 A (⟨d, .load T x, T2, ps, af, none⟩ :: r) f cs K := C_ldA1 ul hA.h ht.h.sz h0 hx hm hop h
theorem DlA1 {T2 : TypeId} [Mono R] {c1 : ι → Comp} [hA : IAG P T true] [ht : ITY P T s b zv] (ul : ι → List Value) (hop : ∀ H e, R H e a → ∃ i, off + s ≤ e.cells.size ∧ (e.cells.toList.drop off).take s = ul i ∧ ∀ c ∈ ([c1 i] : List Comp), c.P H ∧ c.F = [])
   (h : ∀ i, DC P n l tb as H0 F0 K todo fl (put f d (.agg (ul i).toArray)) (c1 i :: cs)) (ho : l[i]? = some ⟨d, .load T x, T2, ps, af, gd⟩ := by rfl) (hw : Wt n l f gd := by exact wtA)
   (hx : EV n f x (.pointer (some ⟨k, j, some off⟩)) := by exact evA) (hxn : opIn x (namesOf l ⟨d, .load T x, T2, ps, af, gd⟩) = true := by rfl) (hm : Mem (cptr E R k j a) cs := by exact memA) (h0 : Nat.blt 0 s = true := by rfl) :
   DC P n l tb as H0 F0 K (i :: todo) fl f cs := D_ldA1 ul hA.h ht.h.sz h0 ho hw hx hxn hm hop h
theorem AlA2 {T2 : TypeId} [Mono R] {c1 c2 : ι → Comp} [hA : IAG P T true] [ht : ITY P T s b zv] (ul : ι → List Value) (hop : ∀ H e, R H e a → ∃ i, off + s ≤ e.cells.size ∧ (e.cells.toList.drop off).take s = ul i ∧ ∀ c ∈ ([c1 i, c2 i] : List Comp), c.P H ∧ c.F = [])
   (h : ∀ i, COps P n H0 F0 A r (put f d (.agg (ul i).toArray)) (c1 i :: c2 i :: cs) K) (hx : EV n f x (.pointer (some ⟨k, j, some off⟩)) := by exact evA) (hm : Mem (cptr E R k j a) cs := by exact memA) (h0 : Nat.blt 0 s = true := by rfl) :
   COps P n H0 F0 A (⟨d, .load T x, T2, ps, af, none⟩ :: r) f cs K := C_ldA2 ul hA.h ht.h.sz h0 hx hm hop h
theorem DlA2 {T2 : TypeId} [Mono R] {c1 c2 : ι → Comp} [hA : IAG P T true] [ht : ITY P T s b zv] (ul : ι → List Value) (hop : ∀ H e, R H e a → ∃ i, off + s ≤ e.cells.size ∧ (e.cells.toList.drop off).take s = ul i ∧ ∀ c ∈ ([c1 i, c2 i] : List Comp), c.P H ∧ c.F = [])
   (h : ∀ i, DC P n l tb as H0 F0 K todo fl (put f d (.agg (ul i).toArray)) (c1 i :: c2 i :: cs)) (ho : l[i]? = some ⟨d, .load T x, T2, ps, af, gd⟩ := by rfl) (hw : Wt n l f gd := by exact wtA)
   (hx : EV n f x (.pointer (some ⟨k, j, some off⟩)) := by exact evA) (hxn : opIn x (namesOf l ⟨d, .load T x, T2, ps, af, gd⟩) = true := by rfl) (hm : Mem (cptr E R k j a) cs := by exact memA) (h0 : Nat.blt 0 s = true := by rfl) :
   DC P n l tb as H0 F0 K (i :: todo) fl f cs := D_ldA2 ul hA.h ht.h.sz h0 ho hw hx hxn hm hop h
theorem Cv1 {c1 : Comp} {l : List Oper} (hs : SelL cs pre rest) (hv : Conv pre [c1]) (h : COps P n H0 F0 A l f (c1 :: rest) K) : COps P n H0 F0 A l f cs K := C_conv hs hv apps h
theorem Dv1 {c1 : Comp} {r : List Nat} (hs : SelL cs pre rest) (hv : Conv pre [c1]) (h : DC P n l tb as H0 F0 K r fl f (c1 :: rest)) : DC P n l tb as H0 F0 K r fl f cs := D_conv hs hv apps h
theorem bnd {α β : Type} {G : Prop} {x : Option α} {g : α → Option β} {b : β} (h : x.bind g = some b) (k : ∀ a, x = some a → g a = some b → G) : G := by
 obtain ⟨a, h1, h2⟩ := bind_some h
 exact k a h1 h2
theorem Ci {β : Type} {b : Bool} {p q : Option β} {R0 : β} {c1 c2 : Code} {Q : Exit → Fr → List Comp → Prop} (hF : (if b = true then p else q) = some R0) (h1 : b = true → p = some R0 → CW P n H0 F0 c1 Q f cs) (h2 : b = false → q = some R0 → CW P n H0 F0 c2 Q f cs)
   (hc : EV n f x (.bool b) := by exact evA) : CW P n H0 F0 (.cond x c1 c2) Q f cs :=
 CW_cond hc (fun e => h1 e (by rwa [if_pos e] at hF)) (fun e => h2 e (by rwa [if_neg (nt e)] at hF))
theorem Kb {β : Type} {R' : AHeap → Value → β → Prop} [Mono R'] {T3 : TypeId} {u : Value} {cs' : List Comp} {c : Code} {Q : Exit → Fr → List Comp → Prop} (he : Ent cs cs') (ys : List β) (h : ys.length < 4611686018427387904 → CW P n H0 F0 c Q f cs') (hm : Mem (crd (RdS T3 R') u ys) cs' := by exact memA) : CW P n H0 F0 c Q f cs :=
 K_ent he (K_pure hm crd_bound h)
abbrev pz (k : Nat) : Value := .pointer (some ⟨k, 0, some 0⟩)
theorem dn {α : Type} {k : Nat} {l : List α} (h : List.drop k l = []) : l.length ≤ k := List.drop_eq_nil_iff.1 h
end
end Go.Fw
/-
 More plain laws about loops. No conditions.
-/
set_option linter.unusedVariables false
namespace Go.Fw
open Go
theorem fm_loop {α β : Type} {P : α → Prop} {p : α → Bool} {g : α → β} {L : List α → Nat → List β → Option (List β)} (h0 : ∀ k c, L [] k c = some c)
   (h1 : ∀ x r k c, P x → c.length + 1 < 4294967296 → L (x :: r) k c = L r (k + 1) (if p x then c ++ [g x] else c)) :
   ∀ (l : List α) (k : Nat) (c : List β), (∀ x ∈ l, P x) → c.length + l.length < 4294967296 → L l k c = some (c ++ (l.filter p).map g)
 | [], k, c, _, _ => by simp [h0]
 | x :: r, k, c, hp, hl => by
   simp only [List.length_cons] at hl
   rw [h1 x r k c (hp x (by simp)) (by omega), fm_loop h0 h1 r (k + 1) _ (fun y hy => hp y (by simp [hy])) (by split <;> (try simp only [List.length_append, List.length_cons, List.length_nil]) <;> omega), List.filter_cons]
   split <;> simp
end Go.Fw
