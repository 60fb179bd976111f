/-
  Functions of the program as Lean functions, and that the calls return what these say: part 4. No conditions.
-/
import Derived.Shelf.Sort.Plain
import Derived.Shelf.Slices.In.SortNone
import Derived.Shelf.Slices.CompactI
import Derived.Test.YtlfebfhfgfjceacGreatCertificateForG2
import Derived.KernelRfl
set_option maxRecDepth 100000
set_option maxHeartbeats 1000000
set_option linter.unusedVariables false
namespace Go.Proofs.YtlfebfhfgfjceacGreat
open Go Go.Fw

def l_eqCertificate (a_a : Certificate) (a_b : Certificate) : Option (Bool) :=
 (l_eqFactS a_a.All a_b.All).bind fun r3 =>
 if (!r3) then (
   some false)
 else (
   (l_eqFactS a_a.Some a_b.Some).bind fun r6 =>
   if (!r6) then (
     some false)
   else (
     (l_eqIntS a_a.Tuple a_b.Tuple).bind fun r9 =>
     if (!r9) then (
       some false)
     else (
       some true)))
theorem l_eqCertificate_ok (a_a : Certificate) (v0_0 : Sv) (v0_1 : Sv) (v0_2 : Sv) (a_b : Certificate) (v1_0 : Sv) (v1_1 : Sv) (v1_2 : Sv) (R : Bool) (hF : l_eqCertificate a_a a_b = some R) :
   Fw.Spec Tryz.prog 11 [(.agg [v0_0.v, v0_1.v, v0_2.v].toArray), (.agg [v1_0.v, v1_1.v, v1_2.v].toArray)] [crd (RdS 86 rd86) v0_0.v a_a.All, crd (RdS 86 rd86) v0_1.v a_a.Some, crd (RdS 3 rdInt) v0_2.v a_a.Tuple, crd (RdS 86 rd86) v1_0.v a_b.All, crd (RdS 86 rd86) v1_1.v a_b.Some, crd (RdS 3 rdInt) v1_2.v a_b.Tuple] (fun _ : Unit => (.bool R)) (fun _ => []) := by
 refine Se 23 Tryz.func11 [.tmp 4] ?_
 intro H0 F0
 unfold l_eqCertificate at hF
 refine au ?_
 refine AbR (fun k1 => ?_)
 refine AbR (fun k2 => ?_)
 iterate 8 refine au ?_
 refine bnd hF fun r3 hx4 hF => Cx0 (l_eqFactS_ok _ _ _ _ _ hx4) (fun _ => ?_)
 iterate 2 refine au ?_
 refine Ci hF (fun hb14 hF => ?_) (fun hb14 hF => ?_)
 · iterate 4 refine au ?_
   cases hF
   exact Er ()
 iterate 7 refine au ?_
 refine bnd hF fun r6 hx7 hF => Cx0 (l_eqFactS_ok _ _ _ _ _ hx7) (fun _ => ?_)
 iterate 2 refine au ?_
 refine Ci hF (fun hb13 hF => ?_) (fun hb13 hF => ?_)
 · iterate 4 refine au ?_
   cases hF
   exact Er ()
 iterate 7 refine au ?_
 refine bnd hF fun r9 hx10 hF => Cx0 (l_eqIntS_ok _ _ _ _ _ hx10) (fun _ => ?_)
 iterate 2 refine au ?_
 refine Ci hF (fun hb12 hF => ?_) (fun hb12 hF => ?_)
 · iterate 4 refine au ?_
   cases hF
   exact Er ()
 iterate 5 refine au ?_
 cases hF
 exact Er ()
def l_eqMethod (a_a : Method) (a_b : Method) : Option (Bool) :=
 if ((a_a.Rel : Int) != a_b.Rel) then (
   some false)
 else (
   (l_eqIntS a_a.Inputs a_b.Inputs).bind fun r3 =>
   if (!r3) then (
     some false)
   else (
     if ((a_a.Limit : Int) != a_b.Limit) then (
       some false)
     else (
       if ((a_a.Cost : Int) != a_b.Cost) then (
         some false)
       else (
         if ((a_a.Quota : Int) != a_b.Quota) then (
           some false)
         else (
           some true)))))
theorem l_eqMethod_ok (a_a : Method) (v0_1 : Sv) (a_b : Method) (v1_1 : Sv) (R : Bool) (hF : l_eqMethod a_a a_b = some R) :
   Fw.Spec Tryz.prog 38 [(.agg [(.int .i64 a_a.Rel), v0_1.v, (.int .i64 a_a.Limit), (.int .i64 a_a.Cost), (.int .i64 a_a.Quota)].toArray), (.agg [(.int .i64 a_b.Rel), v1_1.v, (.int .i64 a_b.Limit), (.int .i64 a_b.Cost), (.int .i64 a_b.Quota)].toArray)] [crd (RdS 3 rdInt) v0_1.v a_a.Inputs, crd (RdS 3 rdInt) v1_1.v a_b.Inputs] (fun _ : Unit => (.bool R)) (fun _ => []) := by
 refine Se 31 Tryz.func38 [.tmp 4] ?_
 intro H0 F0
 unfold l_eqMethod at hF
 refine au ?_
 refine AbR (fun k1 => ?_)
 refine AbR (fun k2 => ?_)
 iterate 10 refine au ?_
 refine Ci hF (fun hb10 hF => ?_) (fun hb10 hF => ?_)
 · iterate 4 refine au ?_
   cases hF
   exact Er ()
 iterate 7 refine au ?_
 refine bnd hF fun r3 hx4 hF => Cx0 (l_eqIntS_ok _ _ _ _ _ hx4) (fun _ => ?_)
 iterate 2 refine au ?_
 refine Ci hF (fun hb9 hF => ?_) (fun hb9 hF => ?_)
 · iterate 4 refine au ?_
   cases hF
   exact Er ()
 iterate 9 refine au ?_
 refine Ci hF (fun hb8 hF => ?_) (fun hb8 hF => ?_)
 · iterate 4 refine au ?_
   cases hF
   exact Er ()
 iterate 9 refine au ?_
 refine Ci hF (fun hb7 hF => ?_) (fun hb7 hF => ?_)
 · iterate 4 refine au ?_
   cases hF
   exact Er ()
 iterate 9 refine au ?_
 refine Ci hF (fun hb6 hF => ?_) (fun hb6 hF => ?_)
 · iterate 4 refine au ?_
   cases hF
   exact Er ()
 iterate 5 refine au ?_
 cases hF
 exact Er ()
def l_eqMethodS_L1 (a_b : List Method) : List Method → Nat → Option (Bool)
 | [], k4 => some true
 | x6 :: rest5, k4 => (ix a_b (k4 : Int)).bind fun x16 =>
   (l_eqMethod x6 x16).bind fun r23 =>
   if (!r23) then (
     some false)
   else (
     l_eqMethodS_L1 a_b rest5 (k4 + 1))
def l_eqMethodS (a_a : List Method) (a_b : List Method) : Option (Bool) :=
 if (((a_a.length : Int) : Int) != (a_b.length : Int)) then (
   some false)
 else (
   l_eqMethodS_L1 a_b a_a 0)
theorem l_eqMethodS_ok (a_a : List Method) (v0_0 : Sv) (a_b : List Method) (v1_0 : Sv) (R : Bool) (hF : l_eqMethodS a_a a_b = some R) :
   Fw.Spec Tryz.prog 13 [v0_0.v, v1_0.v] [crd (RdS 65 rd65) v0_0.v a_a, crd (RdS 65 rd65) v1_0.v a_b] (fun _ : Unit => (.bool R)) (fun _ => []) := by
 refine Se 27 Tryz.func13 [.tmp 4] ?_
 intro H0 F0
 unfold l_eqMethodS at hF
 iterate 11 refine au ?_
 refine Ci hF (fun hb28 hF => ?_) (fun hb28 hF => ?_)
 · iterate 4 refine au ?_
   cases hF
   exact Er ()
 iterate 5 refine au ?_
 refine CW_block (CW_loop (m := a_a.length) (fun m2 f' cs' => ∃ (g : Fr) (k4 : Nat) (rest5 : List Method), m2 = rest5.length ∧ f' = updL g [(0, v0_0.v), (1, v1_0.v), (5, (.int .i64 (k4 : Int)))] ∧ List.drop k4 a_a = rest5 ∧ Ent cs' [crd (RdS 65 rd65) v0_0.v a_a, crd (RdS 65 rd65) v1_0.v a_b] ∧ l_eqMethodS_L1 a_b rest5 k4 = some R) ⟨_, 0, _, rfl, eqA, rfl, entA, hF⟩ ?_)
 rintro m2 _ _ ⟨g3, k4, rest5, rfl, rfl, hd7, hE, hF⟩
 refine Kb hE a_a (fun hbd12 => ?_)
 rcases rest5 with _ | ⟨x6, rest5⟩
 · have hk8 := dn hd7
   rw [l_eqMethodS_L1] at hF
   iterate 7 refine au ?_
   refine CdF ?_
   iterate 8 refine au ?_
   cases hF
   exact Er ()
 obtain ⟨hk8, hx9, hd10⟩ := drop_cons hd7
 rw [l_eqMethodS_L1] at hF
 iterate 7 refine au ?_
 refine CdT ?_
 iterate 2 refine au ?_
 refine K_draw [0, 1, 2, 3, 4, 5, 6, 7, 8, 9] [0, 0, 3, 7, 0, 0, 48, 112, 255, 511] [8] mixed (by decide +kernel) ?_
 iterate 2 refine du ?_
 refine Di hx9 (fun k13 j14 => ?_)
 refine DlA1 (ul65_0_65 x6) la65_0_65 (fun p15 => ?_)
 iterate 2 refine du ?_
 refine bnd hF fun x16 hx17 hF => ?_
 obtain ⟨hp18, hx19⟩ := ix_some hx17
 refine Di hx19 (fun k20 j21 => ?_)
 refine DlA1 (ul65_0_65 x16) la65_0_65 (fun p22 => ?_)
 refine bnd hF fun r23 hx24 hF => Dx0 (l_eqMethod_ok _ _ _ _ _ hx24) (fun _ => ?_)
 iterate 2 refine du ?_
 refine Ci hF (fun hb27 hF => ?_) (fun hb27 hF => ?_)
 · iterate 4 refine au ?_
   cases hF
   exact Er ()
 iterate 6 refine au ?_
 rw [wk k4]
 exact ⟨_, Nat.lt_succ_self _, _, k4 + 1, rest5, rfl, eqA, hd10, entA, hF⟩
def l_eqAtom (a_a : Atom) (a_b : Atom) : Option (Bool) :=
 if ((a_a.Rel : Int) != a_b.Rel) then (
   some false)
 else (
   (l_eqIntS a_a.Terms a_b.Terms).bind fun r3 =>
   if (!r3) then (
     some false)
   else (
     some true))
theorem l_eqAtom_ok (a_a : Atom) (v0_1 : Sv) (a_b : Atom) (v1_1 : Sv) (R : Bool) (hF : l_eqAtom a_a a_b = some R) :
   Fw.Spec Tryz.prog 70 [(.agg [(.int .i64 a_a.Rel), v0_1.v].toArray), (.agg [(.int .i64 a_b.Rel), v1_1.v].toArray)] [crd (RdS 3 rdInt) v0_1.v a_a.Terms, crd (RdS 3 rdInt) v1_1.v a_b.Terms] (fun _ : Unit => (.bool R)) (fun _ => []) := by
 refine Se 16 Tryz.func70 [.tmp 4] ?_
 intro H0 F0
 unfold l_eqAtom at hF
 refine au ?_
 refine AbR (fun k1 => ?_)
 refine AbR (fun k2 => ?_)
 iterate 10 refine au ?_
 refine Ci hF (fun hb7 hF => ?_) (fun hb7 hF => ?_)
 · iterate 4 refine au ?_
   cases hF
   exact Er ()
 iterate 7 refine au ?_
 refine bnd hF fun r3 hx4 hF => Cx0 (l_eqIntS_ok _ _ _ _ _ hx4) (fun _ => ?_)
 iterate 2 refine au ?_
 refine Ci hF (fun hb6 hF => ?_) (fun hb6 hF => ?_)
 · iterate 4 refine au ?_
   cases hF
   exact Er ()
 iterate 5 refine au ?_
 cases hF
 exact Er ()
def l_eqAtomS_L1 (a_b : List Atom) : List Atom → Nat → Option (Bool)
 | [], k4 => some true
 | x6 :: rest5, k4 => (ix a_b (k4 : Int)).bind fun x16 =>
   (l_eqAtom x6 x16).bind fun r23 =>
   if (!r23) then (
     some false)
   else (
     l_eqAtomS_L1 a_b rest5 (k4 + 1))
def l_eqAtomS (a_a : List Atom) (a_b : List Atom) : Option (Bool) :=
 if (((a_a.length : Int) : Int) != (a_b.length : Int)) then (
   some false)
 else (
   l_eqAtomS_L1 a_b a_a 0)
theorem l_eqAtomS_ok (a_a : List Atom) (v0_0 : Sv) (a_b : List Atom) (v1_0 : Sv) (R : Bool) (hF : l_eqAtomS a_a a_b = some R) :
   Fw.Spec Tryz.prog 39 [v0_0.v, v1_0.v] [crd (RdS 84 rd84) v0_0.v a_a, crd (RdS 84 rd84) v1_0.v a_b] (fun _ : Unit => (.bool R)) (fun _ => []) := by
 refine Se 27 Tryz.func39 [.tmp 4] ?_
 intro H0 F0
 unfold l_eqAtomS at hF
 iterate 11 refine au ?_
 refine Ci hF (fun hb28 hF => ?_) (fun hb28 hF => ?_)
 · iterate 4 refine au ?_
   cases hF
   exact Er ()
 iterate 5 refine au ?_
 refine CW_block (CW_loop (m := a_a.length) (fun m2 f' cs' => ∃ (g : Fr) (k4 : Nat) (rest5 : List Atom), m2 = rest5.length ∧ f' = updL g [(0, v0_0.v), (1, v1_0.v), (5, (.int .i64 (k4 : Int)))] ∧ List.drop k4 a_a = rest5 ∧ Ent cs' [crd (RdS 84 rd84) v0_0.v a_a, crd (RdS 84 rd84) v1_0.v a_b] ∧ l_eqAtomS_L1 a_b rest5 k4 = some R) ⟨_, 0, _, rfl, eqA, rfl, entA, hF⟩ ?_)
 rintro m2 _ _ ⟨g3, k4, rest5, rfl, rfl, hd7, hE, hF⟩
 refine Kb hE a_a (fun hbd12 => ?_)
 rcases rest5 with _ | ⟨x6, rest5⟩
 · have hk8 := dn hd7
   rw [l_eqAtomS_L1] at hF
   iterate 7 refine au ?_
   refine CdF ?_
   iterate 8 refine au ?_
   cases hF
   exact Er ()
 obtain ⟨hk8, hx9, hd10⟩ := drop_cons hd7
 rw [l_eqAtomS_L1] at hF
 iterate 7 refine au ?_
 refine CdT ?_
 iterate 2 refine au ?_
 refine K_draw [0, 1, 2, 3, 4, 5, 6, 7, 8, 9] [0, 0, 3, 7, 0, 0, 48, 112, 255, 511] [8] mixed (by decide +kernel) ?_
 iterate 2 refine du ?_
 refine Di hx9 (fun k13 j14 => ?_)
 refine DlA1 (ul84_0_84 x6) la84_0_84 (fun p15 => ?_)
 iterate 2 refine du ?_
 refine bnd hF fun x16 hx17 hF => ?_
 obtain ⟨hp18, hx19⟩ := ix_some hx17
 refine Di hx19 (fun k20 j21 => ?_)
 refine DlA1 (ul84_0_84 x16) la84_0_84 (fun p22 => ?_)
 refine bnd hF fun r23 hx24 hF => Dx0 (l_eqAtom_ok _ _ _ _ _ hx24) (fun _ => ?_)
 iterate 2 refine du ?_
 refine Ci hF (fun hb27 hF => ?_) (fun hb27 hF => ?_)
 · iterate 4 refine au ?_
   cases hF
   exact Er ()
 iterate 6 refine au ?_
 rw [wk k4]
 exact ⟨_, Nat.lt_succ_self _, _, k4 + 1, rest5, rfl, eqA, hd10, entA, hF⟩
def l_eqQuery (a_a : Query) (a_b : Query) : Option (Bool) :=
 (l_eqIntS a_a.Head a_b.Head).bind fun r3 =>
 if (!r3) then (
   some false)
 else (
   (l_eqAtomS a_a.Atoms a_b.Atoms).bind fun r6 =>
   if (!r6) then (
     some false)
   else (
     some true))
theorem l_eqQuery_ok (a_a : Query) (v0_0 : Sv) (v0_1 : Sv) (a_b : Query) (v1_0 : Sv) (v1_1 : Sv) (R : Bool) (hF : l_eqQuery a_a a_b = some R) :
   Fw.Spec Tryz.prog 14 [(.agg [v0_0.v, v0_1.v].toArray), (.agg [v1_0.v, v1_1.v].toArray)] [crd (RdS 3 rdInt) v0_0.v a_a.Head, crd (RdS 84 rd84) v0_1.v a_a.Atoms, crd (RdS 3 rdInt) v1_0.v a_b.Head, crd (RdS 84 rd84) v1_1.v a_b.Atoms] (fun _ : Unit => (.bool R)) (fun _ => []) := by
 refine Se 17 Tryz.func14 [.tmp 4] ?_
 intro H0 F0
 unfold l_eqQuery at hF
 refine au ?_
 refine AbR (fun k1 => ?_)
 refine AbR (fun k2 => ?_)
 iterate 8 refine au ?_
 refine bnd hF fun r3 hx4 hF => Cx0 (l_eqIntS_ok _ _ _ _ _ hx4) (fun _ => ?_)
 iterate 2 refine au ?_
 refine Ci hF (fun hb10 hF => ?_) (fun hb10 hF => ?_)
 · iterate 4 refine au ?_
   cases hF
   exact Er ()
 iterate 7 refine au ?_
 refine bnd hF fun r6 hx7 hF => Cx0 (l_eqAtomS_ok _ _ _ _ _ hx7) (fun _ => ?_)
 iterate 2 refine au ?_
 refine Ci hF (fun hb9 hF => ?_) (fun hb9 hF => ?_)
 · iterate 4 refine au ?_
   cases hF
   exact Er ()
 iterate 5 refine au ?_
 cases hF
 exact Er ()
def l_markIntS_L1 : Nat → (List Int) → Int → Int → Option (Int × (List Int))
 | 0, _, _, _ => none
 | m23 + 1, c19, c21, c22 => if (decide ((c22 : Int) < (c19.length : Int))) then (
     (chk (decide (0 ≤ c22) && decide (c22 < (c19.length : Int)))).bind fun u34 =>
     (some (c19.set (c22).toNat c21)).bind fun z36 =>
     l_markIntS_L1 m23 z36 (IntKind.i64.wrap (c21 + 1)) (IntKind.i64.wrap (c22 + 1)))
   else (
     some (c21, c19))
def l_markIntS (a_a : List Int) (a_k : Int) : Option (Int × (List Int)) :=
 l_markIntS_L1 (((a_a.length : Int) - 0).toNat + 2) a_a a_k 0
theorem l_markIntS_ok (a_a : List Int) (v0_0 : Sv) (F0_0 : List Nat) (a_k : Int) (R : Int × (List Int)) (hF : l_markIntS a_a a_k = some R) :
   Fw.Spec Tryz.prog 15 [v0_0.v, (.int .i64 a_k)] [cown (OwnS 3 (roE rdInt)) F0_0 v0_0.v a_a] (fun _ : List Nat => (.int .i64 R.1)) (fun p => [cown (OwnS 3 (roE rdInt)) p v0_0.v R.2]) := by
 refine Se 19 Tryz.func15 [.tmp 4] ?_
 intro H0 F0
 unfold l_markIntS at hF
 iterate 7 refine au ?_
 refine CW_block (CW_loop (m := (((a_a.length : Int) - 0).toNat + 2)) (fun m23 f' cs' => ∃ (g : Fr) (c19 : List Int) (c21 : Int) (c22 : Int) (F20 : List Nat), f' = updL g [(0, v0_0.v), (1, (.int .i64 c21)), (5, (.int .i64 c22))] ∧ Ent cs' [cown (OwnS 3 (roE rdInt)) F20 v0_0.v c19] ∧ l_markIntS_L1 m23 c19 c21 c22 = some R) ⟨_, _, _, _, F0_0, eqA, entA, hF⟩ ?_)
 rintro m23 _ _ ⟨g24, c19, c21, c22, F20, rfl, hE, hF⟩
 refine K_ent hE ?_
 rcases m23 with _ | m23
 · rw [l_markIntS_L1] at hF
   exact absurd hF (by simp)
 rw [l_markIntS_L1] at hF
 iterate 7 refine au ?_
 refine Ci hF (fun hb39 hF => ?_) (fun hb39 hF => ?_)
 · iterate 6 refine au ?_
   refine bnd hF fun u34 hx35 hF => ?_
   have hi33 := chk_some hx35
   refine C_idxO sl22.h ty3.h.sz (.tmp rfl rfl) (.tmp rfl rfl) .h hi33 (fun k31 hk32 => ?_)
   refine bnd hF fun z36 hx37 hF => ?_
   replace hx37 := Option.some.inj hx37
   refine C_x1 (.cons .h .nil) (X_storeO (Ro := (roE rdInt)) (a := c21) (i := c22) ty3.h.sz rfl (.tmp rfl rfl) (.tmp rfl rfl) hk32 hi33 (Mk_pure (fun _ => rfl)) (fun _ _ _ _ h => by obtain ⟨-, h⟩ := h; cases h; rfl)) (fun F38 => ?_)
   rw [hx37]
   iterate 11 refine au ?_
   exact ⟨m23, Nat.lt_succ_self _, _, _, _, _, F38, eqA, entA, hF⟩
 iterate 9 refine au ?_
 cases hF
 exact Er F20
def l_markMethodS_L1 : Nat → (List Method) → Int → Int → Option (Int × (List Method))
 | 0, _, _, _ => none
 | m64 + 1, c60, c62, c63 => if (decide ((c63 : Int) < (c60.length : Int))) then (
     (ix c60 c63).bind fun x75 =>
     (some (c60.set (c63).toNat { x75 with Rel := c62 })).bind fun z79 =>
     (ix z79 c63).bind fun x84 =>
     (l_markIntS x84.Inputs (IntKind.i64.wrap (c62 + 1))).bind fun r89 =>
     (some (z79.set (c63).toNat { x84 with Inputs := r89.2 })).bind fun z92 =>
     (ix z92 c63).bind fun x97 =>
     (some (z92.set (c63).toNat { x97 with Limit := r89.1 })).bind fun z101 =>
     (ix z101 c63).bind fun x106 =>
     (some (z101.set (c63).toNat { x106 with Cost := (IntKind.i64.wrap (r89.1 + 1)) })).bind fun z110 =>
     (ix z110 c63).bind fun x115 =>
     (some (z110.set (c63).toNat { x115 with Quota := (IntKind.i64.wrap ((IntKind.i64.wrap (r89.1 + 1)) + 1)) })).bind fun z119 =>
     l_markMethodS_L1 m64 z119 (IntKind.i64.wrap ((IntKind.i64.wrap ((IntKind.i64.wrap (r89.1 + 1)) + 1)) + 1)) (IntKind.i64.wrap (c63 + 1)))
   else (
     some (c62, c60))
def l_markMethodS (a_a : List Method) (a_k : Int) : Option (Int × (List Method)) :=
 l_markMethodS_L1 (((a_a.length : Int) - 0).toNat + 2) a_a a_k 0
theorem l_markMethodS_ok (a_a : List Method) (v0_0 : Sv) (F0_0 : List Nat) (a_k : Int) (R : Int × (List Method)) (hF : l_markMethodS a_a a_k = some R) :
   Fw.Spec Tryz.prog 16 [v0_0.v, (.int .i64 a_k)] [cown (OwnS 65 ow65) F0_0 v0_0.v a_a] (fun _ : List Nat => (.int .i64 R.1)) (fun p => [cown (OwnS 65 ow65) p v0_0.v R.2]) := by
 refine Se 48 Tryz.func16 [.tmp 4] ?_
 intro H0 F0
 unfold l_markMethodS at hF
 iterate 7 refine au ?_
 refine CW_block (CW_loop (m := (((a_a.length : Int) - 0).toNat + 2)) (fun m64 f' cs' => ∃ (g : Fr) (c60 : List Method) (c62 : Int) (c63 : Int) (F61 : List Nat), f' = updL g [(0, v0_0.v), (1, (.int .i64 c62)), (5, (.int .i64 c63))] ∧ Ent cs' [cown (OwnS 65 ow65) F61 v0_0.v c60] ∧ l_markMethodS_L1 m64 c60 c62 c63 = some R) ⟨_, _, _, _, F0_0, eqA, entA, hF⟩ ?_)
 rintro m64 _ _ ⟨g65, c60, c62, c63, F61, rfl, hE, hF⟩
 refine K_ent hE ?_
 rcases m64 with _ | m64
 · rw [l_markMethodS_L1] at hF
   exact absurd hF (by simp)
 rw [l_markMethodS_L1] at hF
 iterate 7 refine au ?_
 refine Ci hF (fun hb121 hF => ?_) (fun hb121 hF => ?_)
 · iterate 6 refine au ?_
   refine bnd hF fun x75 hx76 hF => ?_
   have hi74 := ix_chk hx76
   obtain ⟨hp77, hx78⟩ := ix_some hx76
   refine C_idxO sl35.h ty65.h.sz (.tmp rfl rfl) (.tmp rfl rfl) .h hi74 (fun k72 hk73 => ?_)
   refine au ?_
   refine bnd hF fun z79 hx80 hF => ?_
   replace hx80 := Option.some.inj hx80
   refine C_x1 (.cons .h .nil) (X_storeF (Ro := ow65) (i := c63) ty3.h.sz rfl (.tmp rfl rfl) (.tmp rfl rfl) hk73 hx78 rfl rfl fsf65_0 (sf65_0 (d := c62))) (fun _ => ?_)
   rw [hx80]
   iterate 9 refine au ?_
   refine bnd hF fun x84 hx85 hF => ?_
   have hi83 := ix_chk hx85
   obtain ⟨hp86, hx87⟩ := ix_some hx85
   refine C_idxO sl35.h ty65.h.sz (.tmp rfl rfl) (.tmp rfl rfl) .h hi83 (fun k81 hk82 => ?_)
   refine au ?_
   refine C_ldOV ag22.h (.tmp rfl rfl) .h hk82 hx87 pt65_1 (fun w88 => ?_)
   refine au ?_
   refine bnd hF fun r89 hx90 hF => ?_
   refine bnd hF fun z92 hx93 hF => ?_
   replace hx93 := Option.some.inj hx93
   refine C_x1 (.cons .h .nil) (X_part hx87 pt65_1 (fun Fw => X_callS cf15.h (.cons (.tmp rfl rfl) (.cons (.tmp rfl rfl) .nil)) (l_markIntS_ok x84.Inputs w88 Fw (IntKind.i64.wrap (c62 + 1)) _ hx90)) rfl) (fun p91 => ?_)
   rw [hx93]
   iterate 6 refine au ?_
   refine bnd hF fun x97 hx98 hF => ?_
   have hi96 := ix_chk hx98
   obtain ⟨hp99, hx100⟩ := ix_some hx98
   refine C_idxO sl35.h ty65.h.sz (.tmp rfl rfl) (.tmp rfl rfl) .h hi96 (fun k94 hk95 => ?_)
   refine au ?_
   refine bnd hF fun z101 hx102 hF => ?_
   replace hx102 := Option.some.inj hx102
   refine C_x1 (.cons .h .nil) (X_storeF (Ro := ow65) (i := c63) ty3.h.sz rfl (.tmp rfl rfl) (.tmp rfl rfl) hk95 hx100 rfl rfl fsf65_2 (sf65_2 (d := r89.1))) (fun _ => ?_)
   rw [hx102]
   iterate 10 refine au ?_
   refine bnd hF fun x106 hx107 hF => ?_
   have hi105 := ix_chk hx107
   obtain ⟨hp108, hx109⟩ := ix_some hx107
   refine C_idxO sl35.h ty65.h.sz (.tmp rfl rfl) (.tmp rfl rfl) .h hi105 (fun k103 hk104 => ?_)
   refine au ?_
   refine bnd hF fun z110 hx111 hF => ?_
   replace hx111 := Option.some.inj hx111
   refine C_x1 (.cons .h .nil) (X_storeF (Ro := ow65) (i := c63) ty3.h.sz rfl (.tmp rfl rfl) (.tmp rfl rfl) hk104 hx109 rfl rfl fsf65_3 (sf65_3 (d := (IntKind.i64.wrap (r89.1 + 1))))) (fun _ => ?_)
   rw [hx111]
   iterate 10 refine au ?_
   refine bnd hF fun x115 hx116 hF => ?_
   have hi114 := ix_chk hx116
   obtain ⟨hp117, hx118⟩ := ix_some hx116
   refine C_idxO sl35.h ty65.h.sz (.tmp rfl rfl) (.tmp rfl rfl) .h hi114 (fun k112 hk113 => ?_)
   refine au ?_
   refine bnd hF fun z119 hx120 hF => ?_
   replace hx120 := Option.some.inj hx120
   refine C_x1 (.cons .h .nil) (X_storeF (Ro := ow65) (i := c63) ty3.h.sz rfl (.tmp rfl rfl) (.tmp rfl rfl) hk113 hx118 rfl rfl fsf65_4 (sf65_4 (d := (IntKind.i64.wrap ((IntKind.i64.wrap (r89.1 + 1)) + 1))))) (fun _ => ?_)
   rw [hx120]
   iterate 11 refine au ?_
   exact ⟨m64, Nat.lt_succ_self _, _, _, _, _, p91.2, eqA, entA, hF⟩
 iterate 9 refine au ?_
 cases hF
 exact Er F61
def l_markAtomS_L1 : Nat → (List Atom) → Int → Int → Option (Int × (List Atom))
 | 0, _, _, _ => none
 | m37 + 1, c33, c35, c36 => if (decide ((c36 : Int) < (c33.length : Int))) then (
     (ix c33 c36).bind fun x48 =>
     (some (c33.set (c36).toNat { x48 with Rel := c35 })).bind fun z52 =>
     (ix z52 c36).bind fun x57 =>
     (l_markIntS x57.Terms (IntKind.i64.wrap (c35 + 1))).bind fun r62 =>
     (some (z52.set (c36).toNat { x57 with Terms := r62.2 })).bind fun z65 =>
     l_markAtomS_L1 m37 z65 r62.1 (IntKind.i64.wrap (c36 + 1)))
   else (
     some (c35, c33))
def l_markAtomS (a_a : List Atom) (a_k : Int) : Option (Int × (List Atom)) :=
 l_markAtomS_L1 (((a_a.length : Int) - 0).toNat + 2) a_a a_k 0
theorem l_markAtomS_ok (a_a : List Atom) (v0_0 : Sv) (F0_0 : List Nat) (a_k : Int) (R : Int × (List Atom)) (hF : l_markAtomS a_a a_k = some R) :
   Fw.Spec Tryz.prog 40 [v0_0.v, (.int .i64 a_k)] [cown (OwnS 84 ow84) F0_0 v0_0.v a_a] (fun _ : List Nat => (.int .i64 R.1)) (fun p => [cown (OwnS 84 ow84) p v0_0.v R.2]) := by
 refine Se 27 Tryz.func40 [.tmp 4] ?_
 intro H0 F0
 unfold l_markAtomS at hF
 iterate 7 refine au ?_
 refine CW_block (CW_loop (m := (((a_a.length : Int) - 0).toNat + 2)) (fun m37 f' cs' => ∃ (g : Fr) (c33 : List Atom) (c35 : Int) (c36 : Int) (F34 : List Nat), f' = updL g [(0, v0_0.v), (1, (.int .i64 c35)), (5, (.int .i64 c36))] ∧ Ent cs' [cown (OwnS 84 ow84) F34 v0_0.v c33] ∧ l_markAtomS_L1 m37 c33 c35 c36 = some R) ⟨_, _, _, _, F0_0, eqA, entA, hF⟩ ?_)
 rintro m37 _ _ ⟨g38, c33, c35, c36, F34, rfl, hE, hF⟩
 refine K_ent hE ?_
 rcases m37 with _ | m37
 · rw [l_markAtomS_L1] at hF
   exact absurd hF (by simp)
 rw [l_markAtomS_L1] at hF
 iterate 7 refine au ?_
 refine Ci hF (fun hb67 hF => ?_) (fun hb67 hF => ?_)
 · iterate 6 refine au ?_
   refine bnd hF fun x48 hx49 hF => ?_
   have hi47 := ix_chk hx49
   obtain ⟨hp50, hx51⟩ := ix_some hx49
   refine C_idxO sl37.h ty84.h.sz (.tmp rfl rfl) (.tmp rfl rfl) .h hi47 (fun k45 hk46 => ?_)
   refine au ?_
   refine bnd hF fun z52 hx53 hF => ?_
   replace hx53 := Option.some.inj hx53
   refine C_x1 (.cons .h .nil) (X_storeF (Ro := ow84) (i := c36) ty3.h.sz rfl (.tmp rfl rfl) (.tmp rfl rfl) hk46 hx51 rfl rfl fsf84_0 (sf84_0 (d := c35))) (fun _ => ?_)
   rw [hx53]
   iterate 9 refine au ?_
   refine bnd hF fun x57 hx58 hF => ?_
   have hi56 := ix_chk hx58
   obtain ⟨hp59, hx60⟩ := ix_some hx58
   refine C_idxO sl37.h ty84.h.sz (.tmp rfl rfl) (.tmp rfl rfl) .h hi56 (fun k54 hk55 => ?_)
   refine au ?_
   refine C_ldOV ag22.h (.tmp rfl rfl) .h hk55 hx60 pt84_1 (fun w61 => ?_)
   refine au ?_
   refine bnd hF fun r62 hx63 hF => ?_
   refine bnd hF fun z65 hx66 hF => ?_
   replace hx66 := Option.some.inj hx66
   refine C_x1 (.cons .h .nil) (X_part hx60 pt84_1 (fun Fw => X_callS cf15.h (.cons (.tmp rfl rfl) (.cons (.tmp rfl rfl) .nil)) (l_markIntS_ok x57.Terms w61 Fw (IntKind.i64.wrap (c35 + 1)) _ hx63)) rfl) (fun p64 => ?_)
   rw [hx66]
   iterate 7 refine au ?_
   exact ⟨m37, Nat.lt_succ_self _, _, _, _, _, p64.2, eqA, entA, hF⟩
 iterate 9 refine au ?_
 cases hF
 exact Er F34
def l_markQuery (a_a : Query) (a_k : Int) : Option (Int × Query) :=
 (l_markIntS a_a.Head a_k).bind fun r2 =>
 (l_markAtomS a_a.Atoms r2.1).bind fun r5 =>
 some (r5.1, ({ Head := r2.2, Atoms := r5.2 } : Query))
theorem l_markQuery_ok (a_a : Query) (v0_0 : Sv) (F0_0 : List Nat) (v0_1 : Sv) (F0_1 : List Nat) (a_k : Int) (R : Int × Query) (hF : l_markQuery a_a a_k = some R) :
   Fw.Spec Tryz.prog 17 [(.agg [v0_0.v, v0_1.v].toArray), (.int .i64 a_k)] [cown (OwnS 3 (roE rdInt)) F0_0 v0_0.v a_a.Head, cown (OwnS 84 ow84) F0_1 v0_1.v a_a.Atoms] (fun _ : List Nat × List Nat => (.int .i64 R.1)) (fun p => [cown (OwnS 3 (roE rdInt)) p.1 v0_0.v R.2.Head, cown (OwnS 84 ow84) p.2 v0_1.v R.2.Atoms]) := by
 refine Se 14 Tryz.func17 [.tmp 4] ?_
 intro H0 F0
 unfold l_markQuery at hF
 refine au ?_
 refine AbR (fun k1 => ?_)
 iterate 6 refine au ?_
 refine bnd hF fun r2 hx3 hF => Cx1 (l_markIntS_ok _ _ _ _ _ hx3) (fun p4 => ?_)
 iterate 6 refine au ?_
 refine bnd hF fun r5 hx6 hF => Cx1 (l_markAtomS_ok _ _ _ _ _ hx6) (fun p7 => ?_)
 iterate 7 refine au ?_
 cases hF
 exact Er (p4, p7)
def l_markFactS_L1 : Nat → (List Fact) → Int → Int → Option (Int × (List Fact))
 | 0, _, _, _ => none
 | m37 + 1, c33, c35, c36 => if (decide ((c36 : Int) < (c33.length : Int))) then (
     (ix c33 c36).bind fun x48 =>
     (some (c33.set (c36).toNat { x48 with Rel := c35 })).bind fun z52 =>
     (ix z52 c36).bind fun x57 =>
     (l_markIntS x57.Values (IntKind.i64.wrap (c35 + 1))).bind fun r62 =>
     (some (z52.set (c36).toNat { x57 with Values := r62.2 })).bind fun z65 =>
     l_markFactS_L1 m37 z65 r62.1 (IntKind.i64.wrap (c36 + 1)))
   else (
     some (c35, c33))
def l_markFactS (a_a : List Fact) (a_k : Int) : Option (Int × (List Fact)) :=
 l_markFactS_L1 (((a_a.length : Int) - 0).toNat + 2) a_a a_k 0
theorem l_markFactS_ok (a_a : List Fact) (v0_0 : Sv) (F0_0 : List Nat) (a_k : Int) (R : Int × (List Fact)) (hF : l_markFactS a_a a_k = some R) :
   Fw.Spec Tryz.prog 41 [v0_0.v, (.int .i64 a_k)] [cown (OwnS 86 ow86) F0_0 v0_0.v a_a] (fun _ : List Nat => (.int .i64 R.1)) (fun p => [cown (OwnS 86 ow86) p v0_0.v R.2]) := by
 refine Se 27 Tryz.func41 [.tmp 4] ?_
 intro H0 F0
 unfold l_markFactS at hF
 iterate 7 refine au ?_
 refine CW_block (CW_loop (m := (((a_a.length : Int) - 0).toNat + 2)) (fun m37 f' cs' => ∃ (g : Fr) (c33 : List Fact) (c35 : Int) (c36 : Int) (F34 : List Nat), f' = updL g [(0, v0_0.v), (1, (.int .i64 c35)), (5, (.int .i64 c36))] ∧ Ent cs' [cown (OwnS 86 ow86) F34 v0_0.v c33] ∧ l_markFactS_L1 m37 c33 c35 c36 = some R) ⟨_, _, _, _, F0_0, eqA, entA, hF⟩ ?_)
 rintro m37 _ _ ⟨g38, c33, c35, c36, F34, rfl, hE, hF⟩
 refine K_ent hE ?_
 rcases m37 with _ | m37
 · rw [l_markFactS_L1] at hF
   exact absurd hF (by simp)
 rw [l_markFactS_L1] at hF
 iterate 7 refine au ?_
 refine Ci hF (fun hb67 hF => ?_) (fun hb67 hF => ?_)
 · iterate 6 refine au ?_
   refine bnd hF fun x48 hx49 hF => ?_
   have hi47 := ix_chk hx49
   obtain ⟨hp50, hx51⟩ := ix_some hx49
   refine C_idxO sl29.h ty86.h.sz (.tmp rfl rfl) (.tmp rfl rfl) .h hi47 (fun k45 hk46 => ?_)
   refine au ?_
   refine bnd hF fun z52 hx53 hF => ?_
   replace hx53 := Option.some.inj hx53
   refine C_x1 (.cons .h .nil) (X_storeF (Ro := ow86) (i := c36) ty3.h.sz rfl (.tmp rfl rfl) (.tmp rfl rfl) hk46 hx51 rfl rfl fsf86_0 (sf86_0 (d := c35))) (fun _ => ?_)
   rw [hx53]
   iterate 9 refine au ?_
   refine bnd hF fun x57 hx58 hF => ?_
   have hi56 := ix_chk hx58
   obtain ⟨hp59, hx60⟩ := ix_some hx58
   refine C_idxO sl29.h ty86.h.sz (.tmp rfl rfl) (.tmp rfl rfl) .h hi56 (fun k54 hk55 => ?_)
   refine au ?_
   refine C_ldOV ag22.h (.tmp rfl rfl) .h hk55 hx60 pt86_1 (fun w61 => ?_)
   refine au ?_
   refine bnd hF fun r62 hx63 hF => ?_
   refine bnd hF fun z65 hx66 hF => ?_
   replace hx66 := Option.some.inj hx66
   refine C_x1 (.cons .h .nil) (X_part hx60 pt86_1 (fun Fw => X_callS cf15.h (.cons (.tmp rfl rfl) (.cons (.tmp rfl rfl) .nil)) (l_markIntS_ok x57.Values w61 Fw (IntKind.i64.wrap (c35 + 1)) _ hx63)) rfl) (fun p64 => ?_)
   rw [hx66]
   iterate 7 refine au ?_
   exact ⟨m37, Nat.lt_succ_self _, _, _, _, _, p64.2, eqA, entA, hF⟩
 iterate 9 refine au ?_
 cases hF
 exact Er F34
def l_markCertificate (a_a : Certificate) (a_k : Int) : Option (Int × Certificate) :=
 (l_markFactS a_a.All a_k).bind fun r2 =>
 (l_markFactS a_a.Some r2.1).bind fun r5 =>
 (l_markIntS a_a.Tuple r5.1).bind fun r8 =>
 some (r8.1, ({ All := r2.2, Some := r5.2, Tuple := r8.2 } : Certificate))
theorem l_markCertificate_ok (a_a : Certificate) (v0_0 : Sv) (F0_0 : List Nat) (v0_1 : Sv) (F0_1 : List Nat) (v0_2 : Sv) (F0_2 : List Nat) (a_k : Int) (R : Int × Certificate) (hF : l_markCertificate a_a a_k = some R) :
   Fw.Spec Tryz.prog 18 [(.agg [v0_0.v, v0_1.v, v0_2.v].toArray), (.int .i64 a_k)] [cown (OwnS 86 ow86) F0_0 v0_0.v a_a.All, cown (OwnS 86 ow86) F0_1 v0_1.v a_a.Some, cown (OwnS 3 (roE rdInt)) F0_2 v0_2.v a_a.Tuple] (fun _ : List Nat × List Nat × List Nat => (.int .i64 R.1)) (fun p => [cown (OwnS 86 ow86) p.1 v0_0.v R.2.All, cown (OwnS 86 ow86) p.2.1 v0_1.v R.2.Some, cown (OwnS 3 (roE rdInt)) p.2.2 v0_2.v R.2.Tuple]) := by
 refine Se 18 Tryz.func18 [.tmp 4] ?_
 intro H0 F0
 unfold l_markCertificate at hF
 refine au ?_
 refine AbR (fun k1 => ?_)
 iterate 6 refine au ?_
 refine bnd hF fun r2 hx3 hF => Cx1 (l_markFactS_ok _ _ _ _ _ hx3) (fun p4 => ?_)
 iterate 6 refine au ?_
 refine bnd hF fun r5 hx6 hF => Cx1 (l_markFactS_ok _ _ _ _ _ hx6) (fun p7 => ?_)
 iterate 6 refine au ?_
 refine bnd hF fun r8 hx9 hF => Cx1 (l_markIntS_ok _ _ _ _ _ hx9) (fun p10 => ?_)
 iterate 7 refine au ?_
 cases hF
 exact Er (p4, p7, p10)
def l_heldIntS_L1 : List Int → Nat → Int → Option (Int)
 | [], k5, c1 => some c1
 | x7 :: rest6, k5, c1 => if ((x7 : Int) != c1) then (
     some (-1))
   else (
     l_heldIntS_L1 rest6 (k5 + 1) (IntKind.i64.wrap (c1 + 1)))
def l_heldIntS (a_a : List Int) (a_k : Int) : Option (Int) :=
 l_heldIntS_L1 a_a 0 a_k
theorem l_heldIntS_ok (a_a : List Int) (v0_0 : Sv) (a_k : Int) (R : Int) (hF : l_heldIntS a_a a_k = some R) :
   Fw.Spec Tryz.prog 43 [v0_0.v, (.int .i64 a_k)] [crd (RdS 3 rdInt) v0_0.v a_a] (fun _ : Unit => (.int .i64 R)) (fun _ => []) := by
 refine Se 21 Tryz.func43 [.tmp 4] ?_
 intro H0 F0
 unfold l_heldIntS at hF
 iterate 7 refine au ?_
 refine CW_block (CW_loop (m := a_a.length) (fun m3 f' cs' => ∃ (g : Fr) (k5 : Nat) (rest6 : List Int) (c1 : Int), m3 = rest6.length ∧ f' = updL g [(0, v0_0.v), (1, (.int .i64 c1)), (5, (.int .i64 (k5 : Int)))] ∧ List.drop k5 a_a = rest6 ∧ Ent cs' [crd (RdS 3 rdInt) v0_0.v a_a] ∧ l_heldIntS_L1 rest6 k5 c1 = some R) ⟨_, 0, _, _, rfl, eqA, rfl, entA, hF⟩ ?_)
 rintro m3 _ _ ⟨g4, k5, rest6, c1, rfl, rfl, hd8, hE, hF⟩
 refine Kb hE a_a (fun hbd13 => ?_)
 rcases rest6 with _ | ⟨x7, rest6⟩
 · have hk9 := dn hd8
   rw [l_heldIntS_L1] at hF
   iterate 7 refine au ?_
   refine CdF ?_
   iterate 9 refine au ?_
   cases hF
   exact Er ()
 obtain ⟨hk9, hx10, hd11⟩ := drop_cons hd8
 rw [l_heldIntS_L1] at hF
 iterate 7 refine au ?_
 refine CdT ?_
 iterate 6 refine au ?_
 refine Ai hx10 (fun k14 j15 => ?_)
 refine Al ls3_0 ?_
 iterate 3 refine au ?_
 refine Ci hF (fun hb17 hF => ?_) (fun hb17 hF => ?_)
 · iterate 4 refine au ?_
   cases hF
   exact Er ()
 iterate 11 refine au ?_
 rw [wk k5]
 exact ⟨_, Nat.lt_succ_self _, _, k5 + 1, rest6, _, rfl, eqA, hd11, entA, hF⟩
def l_heldFactS_L1 : List Fact → Nat → Int → Option (Int)
 | [], k5, c1 => some c1
 | x7 :: rest6, k5, c1 => if ((x7.Rel : Int) != c1) then (
     some (-1))
   else (
     (l_heldIntS x7.Values (IntKind.i64.wrap (c1 + 1))).bind fun r19 =>
     if (decide ((r19 : Int) < 0)) then (
       some (-1))
     else (
       l_heldFactS_L1 rest6 (k5 + 1) r19))
def l_heldFactS (a_a : List Fact) (a_k : Int) : Option (Int) :=
 l_heldFactS_L1 a_a 0 a_k
theorem l_heldFactS_ok (a_a : List Fact) (v0_0 : Sv) (a_k : Int) (R : Int) (hF : l_heldFactS a_a a_k = some R) :
   Fw.Spec Tryz.prog 42 [v0_0.v, (.int .i64 a_k)] [crd (RdS 86 rd86) v0_0.v a_a] (fun _ : Unit => (.int .i64 R)) (fun _ => []) := by
 refine Se 31 Tryz.func42 [.tmp 4] ?_
 intro H0 F0
 unfold l_heldFactS at hF
 iterate 7 refine au ?_
 refine CW_block (CW_loop (m := a_a.length) (fun m3 f' cs' => ∃ (g : Fr) (k5 : Nat) (rest6 : List Fact) (c1 : Int), m3 = rest6.length ∧ f' = updL g [(0, v0_0.v), (1, (.int .i64 c1)), (5, (.int .i64 (k5 : Int)))] ∧ List.drop k5 a_a = rest6 ∧ Ent cs' [crd (RdS 86 rd86) v0_0.v a_a] ∧ l_heldFactS_L1 rest6 k5 c1 = some R) ⟨_, 0, _, _, rfl, eqA, rfl, entA, hF⟩ ?_)
 rintro m3 _ _ ⟨g4, k5, rest6, c1, rfl, rfl, hd8, hE, hF⟩
 refine Kb hE a_a (fun hbd13 => ?_)
 rcases rest6 with _ | ⟨x7, rest6⟩
 · have hk9 := dn hd8
   rw [l_heldFactS_L1] at hF
   iterate 7 refine au ?_
   refine CdF ?_
   iterate 9 refine au ?_
   cases hF
   exact Er ()
 obtain ⟨hk9, hx10, hd11⟩ := drop_cons hd8
 rw [l_heldFactS_L1] at hF
 iterate 7 refine au ?_
 refine CdT ?_
 iterate 6 refine au ?_
 refine Ai hx10 (fun k14 j15 => ?_)
 refine au ?_
 refine Al ls86_0 ?_
 iterate 3 refine au ?_
 refine Ci hF (fun hb24 hF => ?_) (fun hb24 hF => ?_)
 · iterate 4 refine au ?_
   cases hF
   exact Er ()
 iterate 9 refine au ?_
 refine Ai hx10 (fun k16 j17 => ?_)
 refine au ?_
 refine C_ldV (R' := (RdS 3 rdInt)) ag22.h (.tmp rfl rfl) .h lv86_1 (fun w18 => ?_)
 refine au ?_
 refine bnd hF fun r19 hx20 hF => Cx0 (l_heldIntS_ok _ _ _ _ hx20) (fun _ => ?_)
 iterate 6 refine au ?_
 refine Ci hF (fun hb23 hF => ?_) (fun hb23 hF => ?_)
 · iterate 4 refine au ?_
   cases hF
   exact Er ()
 iterate 6 refine au ?_
 rw [wk k5]
 exact ⟨_, Nat.lt_succ_self _, _, k5 + 1, rest6, _, rfl, eqA, hd11, entA, hF⟩
def l_heldCertificate (a_a : Certificate) (a_k : Int) : Option (Int) :=
 (l_heldFactS a_a.All a_k).bind fun r2 =>
 if (decide ((r2 : Int) < 0)) then (
   some (-1))
 else (
   (l_heldFactS a_a.Some r2).bind fun r5 =>
   if (decide ((r5 : Int) < 0)) then (
     some (-1))
   else (
     (l_heldIntS a_a.Tuple r5).bind fun r8 =>
     if (decide ((r8 : Int) < 0)) then (
       some (-1))
     else (
       some r8)))
theorem l_heldCertificate_ok (a_a : Certificate) (v0_0 : Sv) (v0_1 : Sv) (v0_2 : Sv) (a_k : Int) (R : Int) (hF : l_heldCertificate a_a a_k = some R) :
   Fw.Spec Tryz.prog 19 [(.agg [v0_0.v, v0_1.v, v0_2.v].toArray), (.int .i64 a_k)] [crd (RdS 86 rd86) v0_0.v a_a.All, crd (RdS 86 rd86) v0_1.v a_a.Some, crd (RdS 3 rdInt) v0_2.v a_a.Tuple] (fun _ : Unit => (.int .i64 R)) (fun _ => []) := by
 refine Se 24 Tryz.func19 [.tmp 4] ?_
 intro H0 F0
 unfold l_heldCertificate at hF
 refine au ?_
 refine AbR (fun k1 => ?_)
 iterate 6 refine au ?_
 refine bnd hF fun r2 hx3 hF => Cx0 (l_heldFactS_ok _ _ _ _ hx3) (fun _ => ?_)
 iterate 7 refine au ?_
 refine Ci hF (fun hb13 hF => ?_) (fun hb13 hF => ?_)
 · iterate 4 refine au ?_
   cases hF
   exact Er ()
 iterate 5 refine au ?_
 refine bnd hF fun r5 hx6 hF => Cx0 (l_heldFactS_ok _ _ _ _ hx6) (fun _ => ?_)
 iterate 7 refine au ?_
 refine Ci hF (fun hb12 hF => ?_) (fun hb12 hF => ?_)
 · iterate 4 refine au ?_
   cases hF
   exact Er ()
 iterate 5 refine au ?_
 refine bnd hF fun r8 hx9 hF => Cx0 (l_heldIntS_ok _ _ _ _ hx9) (fun _ => ?_)
 iterate 7 refine au ?_
 refine Ci hF (fun hb11 hF => ?_) (fun hb11 hF => ?_)
 · iterate 4 refine au ?_
   cases hF
   exact Er ()
 iterate 6 refine au ?_
 cases hF
 exact Er ()
def l_FnExactCertificateFor (fuel : Nat) (a_aS : List Int) (a_aL : List Method) (a_aQ : Query) : Option (Bool) :=
 if (decide ((1048576 : Int) < (a_aS.length : Int))) then (
   some true)
 else (
   (l_szMethodS a_aL 1048576).bind fun r2 =>
   if (decide ((r2 : Int) < 0)) then (
     some true)
   else (
     (l_szQuery a_aQ r2).bind fun r5 =>
     if (decide ((r5 : Int) < 0)) then (
       some true)
     else (
       (l_toIntS a_aS).bind fun r9 =>
       (l_toMethodS a_aL).bind fun r12 =>
       (l_toQuery a_aQ).bind fun r15 =>
       (s_CertificateFor fuel r9 r12 r15).bind fun r18 =>
       (l_toIntS a_aS).bind fun r21 =>
       (l_toMethodS a_aL).bind fun r24 =>
       (l_toQuery a_aQ).bind fun r27 =>
       (i_CertificateFor fuel r21 r24 r27).bind fun r31 =>
       ((l_eqCertificate r31.1 r18.1).bind fun r37 =>
         bif (!r37) then (some true)
         else (some (!(r31.2 == r18.2)))).bind fun o35 =>
       match o35 with
       | c41 => if c41 then (
           some false)
         else (
           (l_toIntS a_aS).bind fun r42 =>
           (l_eqIntS r21 r42).bind fun r45 =>
           if (!r45) then (
             some false)
           else (
             (l_toMethodS a_aL).bind fun r48 =>
             (l_eqMethodS r24 r48).bind fun r51 =>
             if (!r51) then (
               some false)
             else (
               (l_toQuery a_aQ).bind fun r54 =>
               (l_eqQuery r27 r54).bind fun r57 =>
               if (!r57) then (
                 some false)
               else (
                 (l_markIntS r21 1).bind fun r60 =>
                 (l_markMethodS r24 r60.1).bind fun r63 =>
                 (l_markQuery r27 r63.1).bind fun r66 =>
                 (bif (decide ((r66.1 : Int) < 0)) then (some true)
                   else ((l_eqCertificate r31.1 r18.1).bind fun r72 =>
                     bif (!r72) then (some true)
                     else (some (!(r31.2 == r18.2))))).bind fun o69 =>
                 match o69 with
                 | c76 => if c76 then (
                     some false)
                   else (
                     (l_markCertificate r31.1 1).bind fun r77 =>
                     (l_heldCertificate r77.2 1).bind fun r80 =>
                     if (decide ((r80 : Int) < 0)) then (
                       some false)
                     else (
                       if ((r80 : Int) != r77.1) then (
                         some false)
                       else (
                         (l_toIntS a_aS).bind fun r84 =>
                         (l_toMethodS a_aL).bind fun r87 =>
                         (l_toQuery a_aQ).bind fun r90 =>
                         (i_CertificateFor fuel r84 r87 r90).bind fun r93 =>
                         ((l_eqCertificate r93.1 r18.1).bind fun r98 =>
                           bif (!r98) then (some true)
                           else (some (!(r93.2 == r18.2)))).bind fun o96 =>
                         match o96 with
                         | c102 => if c102 then (
                             some false)
                           else (
                             (l_heldCertificate r77.2 1).bind fun r103 =>
                             if (decide ((r103 : Int) < 0)) then (
                               some false)
                             else (
                               if ((r103 : Int) != r77.1) then (
                                 some false)
                               else (
                                 some true)))))))))))))
theorem l_FnExactCertificateFor_ok (fuel : Nat) (a_aS : List Int) (v0_0 : Sv) (a_aL : List Method) (v1_0 : Sv) (a_aQ : Query) (v2_0 : Sv) (v2_1 : Sv) (R : Bool) (hF : l_FnExactCertificateFor fuel a_aS a_aL a_aQ = some R) :
   Fw.Spec Tryz.prog 3 [v0_0.v, v1_0.v, (.agg [v2_0.v, v2_1.v].toArray)] [crd (RdS 3 rdInt) v0_0.v a_aS, crd (RdS 52 rd52) v1_0.v a_aL, crd (RdS 3 rdInt) v2_0.v a_aQ.Head, crd (RdS 76 rd76) v2_1.v a_aQ.Atoms] (fun _ : Unit => (.bool R)) (fun _ => []) := by
 refine Se 140 Tryz.func3 [.tmp 6] ?_
 intro H0 F0
 unfold l_FnExactCertificateFor at hF
 refine au ?_
 refine AbR (fun k1 => ?_)
 iterate 8 refine au ?_
 refine Ci hF (fun hb121 hF => ?_) (fun hb121 hF => ?_)
 · iterate 4 refine au ?_
   cases hF
   exact Er ()
 iterate 7 refine au ?_
 refine bnd hF fun r2 hx3 hF => Cx0 (l_szMethodS_ok _ _ _ _ hx3) (fun _ => ?_)
 iterate 7 refine au ?_
 refine Ci hF (fun hb120 hF => ?_) (fun hb120 hF => ?_)
 · iterate 4 refine au ?_
   cases hF
   exact Er ()
 iterate 4 refine au ?_
 refine bnd hF fun r5 hx6 hF => Cx0 (l_szQuery_ok _ _ _ _ _ hx6) (fun _ => ?_)
 iterate 7 refine au ?_
 refine Ci hF (fun hb119 hF => ?_) (fun hb119 hF => ?_)
 · iterate 4 refine au ?_
   cases hF
   exact Er ()
 refine au ?_
 refine K_draw [0, 2, 4, 10, 1, 3, 5, 6, 7, 8, 9, 11, 12] [0, 1, 0, 7, 0, 31, 63, 127, 255, 255, 0, 1535, 4095] [1, 3, 5, 6, 11] mixed (by decide +kernel) ?_
 iterate 3 refine du ?_
 refine D_new rfl .no rfl (fun ha => N_allocT (g := true) ty31.h rfl rfl) (fun k8 => ?_)
 refine bnd hF fun r9 hx10 hF => D_act1 rfl rfl .no (.rd (.t (.t .h)) rfl .nil) (.own .h (fun _ h => h) .nil) (fun ha => XC_ent (post' := fun p11 : Sv × List Nat => [crd (RdS 3 rdInt) p11.1.v r9]) (fun p11 => (.frz .h frz_own entA)) (X_callS cf7.h (.cons (EN ha (.tmp rfl rfl) rfl) .nil) (l_toIntS_ok a_aS v0_0 _ hx10))) (fun p11 => ?_)
 refine bnd hF fun r12 hx13 hF => D_act1 rfl rfl .no (.rd (.t (.t (.t (.t .h)))) rfl .nil) (.own (.t .h) (fun _ h => h) .nil) (fun ha => XC_ent (post' := fun p14 : Sv × List Nat => [crd (RdS 65 rd65) p14.1.v r12]) (fun p14 => (.frz .h frz_own entA)) (X_callS cf8.h (.cons (EN ha (.tmp rfl rfl) rfl) .nil) (l_toMethodS_ok a_aL v1_0 _ hx13))) (fun p14 => ?_)
 refine bnd hF fun r15 hx16 hF => D_act2 rfl rfl .no (.rd (.t (.t (.t (.t (.t (.t .h)))))) rfl (.rd (.t (.t (.t (.t (.t (.t (.t .h))))))) rfl .nil)) (.own (.t (.t .h)) (fun _ h => h) .nil) (fun ha => XC_ent (post' := fun p17 : Sv × List Nat × Sv × List Nat => [crd (RdS 3 rdInt) p17.1.v r15.Head, crd (RdS 84 rd84) p17.2.2.1.v r15.Atoms]) (fun p17 => (.frz .h frz_own (.frz (.t .h) frz_own entA))) (X_callS cf9.h (.cons (EN ha (.tmp rfl rfl) rfl) .nil) (l_toQuery_ok a_aQ v2_0 v2_1 _ hx16))) (fun p17 => ?_)
 refine bnd hF fun r18 hx19 hF => D_act3 rfl rfl .no (.rd (.t (.t (.t .h))) rfl (.rd (.t (.t .h)) rfl (.rd .h rfl (.rd (.t .h) rfl .nil)))) (.own (.t (.t (.t (.t .h)))) (fun _ h => h) .nil) (fun ha => X_callS cf6.h (.cons (EN ha (.tmp rfl rfl) rfl) (.cons (EN ha (.tmp rfl rfl) rfl) (.cons (EN ha (.tmp rfl rfl) rfl) .nil))) (s_CertificateFor_ok fuel r9 p11.1 r12 p14.1 r15 p17.1 p17.2.2.1 _ hx19)) (fun p20 => ?_)
 refine du ?_
 refine D_val rfl .no (fun ha => V_extract (l := [(.agg [p20.1.v, p20.2.1.v, p20.2.2.1.v].toArray), (.bool r18.2)]) (v := (.agg [p20.1.v, p20.2.1.v, p20.2.2.1.v].toArray)) (EN ha (.tmp rfl rfl) rfl) rfl) ?_
 refine D_val rfl .no (fun ha => V_extract (l := [(.agg [p20.1.v, p20.2.1.v, p20.2.2.1.v].toArray), (.bool r18.2)]) (v := (.bool r18.2)) (EN ha (.tmp rfl rfl) rfl) rfl) ?_
 refine D_act1 rfl rfl .no (.cons (.t (.t (.t (.t (.t (.t (.t .h))))))) .nil) (.dep rfl .nil) (fun ha => X_storeB (e' := (.agg [p20.1.v, p20.2.1.v, p20.2.2.1.v].toArray)) (v := (.agg [p20.1.v, p20.2.1.v, p20.2.2.1.v].toArray)) ty31.h.sz (EN ha (.tmp rfl rfl) rfl) (EN ha (.tmp rfl rfl) rfl) rfl rfl rfl rfl rfl) (fun _ => ?_)
 iterate 2 refine du ?_
 iterate 2 refine au ?_
 refine bnd hF fun r21 hx22 hF => Cx1 (l_toIntS_ok _ _ _ hx22) (fun p23 => ?_)
 iterate 4 refine au ?_
 refine bnd hF fun r24 hx25 hF => Cx1 (l_toMethodS_ok _ _ _ hx25) (fun p26 => ?_)
 iterate 4 refine au ?_
 refine bnd hF fun r27 hx28 hF => Cx2 (l_toQuery_ok _ _ _ _ hx28) (fun p29 => ?_)
 refine AnW (fun k30 => ?_)
 refine As (.agg [p29.1.v, p29.2.2.1.v].toArray) ?_
 iterate 5 refine au ?_
 refine bnd hF fun r31 hx32 hF => C_x7 (.cons (.t (.t .h)) (.cons (.t .h) (.cons (.t .h) (.cons (.t .h) .nil)))) (XC_borL (pre := []) (.cons frz_own (.cons frz_own (.cons frz_own (.cons frz_own .nil)))) (fun _ => (.cons (.cons (.cons .nil)))) (X_callS cf10.h (.cons (.tmp rfl rfl) (.cons (.tmp rfl rfl) (.cons (.tmp rfl rfl) .nil))) (i_CertificateFor_ok fuel r21 p23.1 r24 p26.1 r27 p29.1 p29.2.2.1 _ hx32))) (fun p33 => ?_)
 refine au ?_
 refine C_val (V_extract (l := [(.agg [p33.1.v, p33.2.2.1.v, p33.2.2.2.2.1.v].toArray), (.bool r31.2)]) (v := (.agg [p33.1.v, p33.2.2.1.v, p33.2.2.2.2.1.v].toArray)) (.tmp rfl rfl) rfl) ?_
 refine C_val (V_extract (l := [(.agg [p33.1.v, p33.2.2.1.v, p33.2.2.2.2.1.v].toArray), (.bool r31.2)]) (v := (.bool r31.2)) (.tmp rfl rfl) rfl) ?_
 refine AnW (fun k34 => ?_)
 refine As (.agg [p33.1.v, p33.2.2.1.v, p33.2.2.2.2.1.v].toArray) ?_
 iterate 3 refine au ?_
 obtain ⟨o35, hio35, hO36⟩ := bind_some hF
 refine au ?_
 refine C_cut (fun f' cs' => ∃ (c41 : Bool) (g : Fr), c41 = o35 ∧ f' = updL g [(0, v0_0.v), (1, v1_0.v), (5, (pz k1)), (8, (pz k8)), (9, (.bool r18.2)), (10, p23.1.v), (11, p26.1.v), (12, (pz k30)), (13, (pz k34)), (14, (.bool r31.2)), (64, (.bool c41))] ∧ Ent cs' [crd (RdS 3 rdInt) v0_0.v a_aS, crd (RdS 52 rd52) v1_0.v a_aL, cboR k1 26 (.agg [v2_0.v, v2_1.v].toArray), crd (RdS 3 rdInt) v2_0.v a_aQ.Head, crd (RdS 76 rd76) v2_1.v a_aQ.Atoms, cbox k8 31 (.agg [p20.1.v, p20.2.1.v, p20.2.2.1.v].toArray), crd (RdS 86 rd86) p20.1.v r18.1.All, crd (RdS 86 rd86) p20.2.1.v r18.1.Some, cown (OwnS 3 (roE rdInt)) p20.2.2.2 p20.2.2.1.v r18.1.Tuple, cown (OwnS 3 (roE rdInt)) p23.2 p23.1.v r21, cown (OwnS 65 ow65) p26.2 p26.1.v r24, cbox k30 39 (.agg [p29.1.v, p29.2.2.1.v].toArray), cown (OwnS 3 (roE rdInt)) p29.2.1 p29.1.v r27.Head, cown (OwnS 84 ow84) p29.2.2.2 p29.2.2.1.v r27.Atoms, cbox k34 31 (.agg [p33.1.v, p33.2.2.1.v, p33.2.2.2.2.1.v].toArray), cown (OwnS 86 ow86) p33.2.1 p33.1.v r31.1.All, cown (OwnS 86 ow86) p33.2.2.2.1 p33.2.2.1.v r31.1.Some, cown (OwnS 3 (roE rdInt)) p33.2.2.2.2.2 p33.2.2.2.2.1.v r31.1.Tuple]) ?_ ?_
 · replace hF := hio35
   iterate 2 refine au ?_
   refine bnd hF fun r37 hx38 hF => C_x4 (.cons (.t (.t (.t (.t (.t (.t (.t (.t (.t (.t (.t (.t .h)))))))))))) (.cons (.t (.t (.t (.t (.t (.t (.t .h))))))) (.cons (.t (.t (.t (.t (.t (.t .h)))))) (.cons (.t (.t (.t (.t (.t .h))))) (.rd (.t (.t (.t (.t (.t (.t (.t .h))))))) rfl (.rd (.t (.t (.t (.t (.t (.t (.t (.t .h)))))))) rfl .nil)))))) (XC_borL (pre := _) (.cons frz_own (.cons frz_own (.cons frz_own (.cons frz_own .nil)))) (fun _ => .nil) (XC_pre (.rd .h rfl (.rd (.t .h) rfl (.rd (.t (.t .h)) rfl (.rd (.t (.t (.t (.t .h)))) rfl (.rd (.t (.t (.t (.t (.t .h))))) rfl (.rd (.t (.t (.t .h))) rfl .nil)))))) (X_callS cf11.h (.cons (.tmp rfl rfl) (.cons (.tmp rfl rfl) .nil)) (l_eqCertificate_ok r31.1 p33.1 p33.2.2.1 p33.2.2.2.2.1 r18.1 p20.1 p20.2.1 p20.2.2.1 _ hx38)))) (fun _ => ?_)
   iterate 2 refine au ?_
   rcases Bool.eq_false_or_eq_true (!r37) with hg40 | hg40
   · rw [hg40]
     try rw [hg40] at hF; dsimp only [cond_true, cond_false] at hF
     iterate 5 refine au ?_
     cases hF
     exact ⟨_, _, rfl, eqA, entA⟩
   rw [hg40]
   try rw [hg40] at hF; dsimp only [cond_true, cond_false] at hF
   iterate 5 refine au ?_
   refine C_val (V_neB (a := r31.2) (b := r18.2) Tryz.underlying4 (.tmp rfl rfl) (.tmp rfl rfl)) ?_
   iterate 2 refine au ?_
   cases hF
   exact ⟨_, _, rfl, eqA, entA⟩
 rintro _ _ ⟨c41, g118, rfl, rfl, hE⟩
 replace hF := hO36
 try dsimp only at hF
 refine K_ent hE ?_
 refine Ci hF (fun hb117 hF => ?_) (fun hb117 hF => ?_)
 · iterate 4 refine au ?_
   cases hF
   exact Er ()
 iterate 5 refine au ?_
 refine bnd hF fun r42 hx43 hF => Cx1 (l_toIntS_ok _ _ _ hx43) (fun p44 => ?_)
 refine bnd hF fun r45 hx46 hF => C_x2 (.cons .h (.cons (.t (.t (.t (.t (.t (.t (.t (.t (.t .h))))))))) .nil)) (XC_borL (pre := []) (.cons frz_own (.cons frz_own .nil)) (fun _ => .nil) (X_callS cf12.h (.cons (.tmp rfl rfl) (.cons (.tmp rfl rfl) .nil)) (l_eqIntS_ok r21 p23.1 r42 p44.1 _ hx46))) (fun _ => ?_)
 iterate 2 refine au ?_
 refine Ci hF (fun hb116 hF => ?_) (fun hb116 hF => ?_)
 · iterate 4 refine au ?_
   cases hF
   exact Er ()
 iterate 5 refine au ?_
 refine bnd hF fun r48 hx49 hF => Cx1 (l_toMethodS_ok _ _ _ hx49) (fun p50 => ?_)
 refine bnd hF fun r51 hx52 hF => C_x2 (.cons .h (.cons (.t (.t (.t (.t (.t (.t (.t (.t (.t (.t (.t .h))))))))))) .nil)) (XC_borL (pre := []) (.cons frz_own (.cons frz_own .nil)) (fun _ => .nil) (X_callS cf13.h (.cons (.tmp rfl rfl) (.cons (.tmp rfl rfl) .nil)) (l_eqMethodS_ok r24 p26.1 r48 p50.1 _ hx52))) (fun _ => ?_)
 iterate 2 refine au ?_
 refine Ci hF (fun hb115 hF => ?_) (fun hb115 hF => ?_)
 · iterate 4 refine au ?_
   cases hF
   exact Er ()
 iterate 2 refine au ?_
 refine K_draw [0, 1, 2, 3, 4] [0, 0, 2, 7, 15] [2, 3] mixed (by decide +kernel) ?_
 refine D_atO rfl .no (.t (.t (.t (.t (.t (.t (.t (.t (.t (.t (.t (.t (.t .h))))))))))))) (fun ha hp => V_loadBox ag39.h ty39.h.sz rfl (EN ha (.tmp rfl rfl) rfl) hp.2 rfl) ?_
 refine du ?_
 refine bnd hF fun r54 hx55 hF => D_act2 rfl rfl .no (.rd (.t (.t (.t (.t (.t (.t (.t .h))))))) rfl (.rd (.t (.t (.t (.t (.t (.t (.t (.t .h)))))))) rfl .nil)) (.own (.t (.t (.t (.t (.t (.t (.t (.t (.t (.t (.t (.t (.t .h))))))))))))) (fun _ h => h) .nil) (fun ha => X_callS cf9.h (.cons (EN ha (.tmp rfl rfl) rfl) .nil) (l_toQuery_ok a_aQ v2_0 v2_1 _ hx55)) (fun p56 => ?_)
 refine bnd hF fun r57 hx58 hF => D_act4 rfl rfl .no (.cons (.t .h) (.cons .h (.cons (.t (.t (.t (.t (.t (.t (.t (.t (.t (.t (.t (.t (.t (.t (.t .h))))))))))))))) (.cons (.t (.t (.t (.t (.t (.t (.t (.t (.t (.t (.t (.t (.t (.t .h)))))))))))))) .nil)))) (.dep rfl .nil) (fun ha => XC_borL (pre := []) (.cons frz_own (.cons frz_own (.cons frz_own (.cons frz_own .nil)))) (fun _ => .nil) (X_callS cf14.h (.cons (EN ha (.tmp rfl rfl) rfl) (.cons (EN ha (.tmp rfl rfl) rfl) .nil)) (l_eqQuery_ok r27 p29.1 p29.2.2.1 r54 p56.1 p56.2.2.1 _ hx58))) (fun _ => ?_)
 iterate 2 refine du ?_
 refine Ci hF (fun hb114 hF => ?_) (fun hb114 hF => ?_)
 · iterate 4 refine au ?_
   cases hF
   exact Er ()
 iterate 7 refine au ?_
 refine bnd hF fun r60 hx61 hF => Cx1 (l_markIntS_ok _ _ _ _ _ hx61) (fun p62 => ?_)
 iterate 5 refine au ?_
 refine bnd hF fun r63 hx64 hF => Cx1 (l_markMethodS_ok _ _ _ _ _ hx64) (fun p65 => ?_)
 iterate 5 refine au ?_
 refine bnd hF fun r66 hx67 hF => Cx2 (l_markQuery_ok _ _ _ _ _ _ _ hx67) (fun p68 => ?_)
 iterate 3 refine au ?_
 obtain ⟨o69, hio69, hO70⟩ := bind_some hF
 refine au ?_
 refine C_cut (fun f' cs' => ∃ (c76 : Bool) (g : Fr), c76 = o69 ∧ f' = updL g [(0, v0_0.v), (1, v1_0.v), (5, (pz k1)), (8, (pz k8)), (9, (.bool r18.2)), (13, (pz k34)), (101, (.bool c76))] ∧ Ent cs' [crd (RdS 3 rdInt) v0_0.v a_aS, crd (RdS 52 rd52) v1_0.v a_aL, cboR k1 26 (.agg [v2_0.v, v2_1.v].toArray), crd (RdS 3 rdInt) v2_0.v a_aQ.Head, crd (RdS 76 rd76) v2_1.v a_aQ.Atoms, cbox k8 31 (.agg [p20.1.v, p20.2.1.v, p20.2.2.1.v].toArray), crd (RdS 86 rd86) p20.1.v r18.1.All, crd (RdS 86 rd86) p20.2.1.v r18.1.Some, cown (OwnS 3 (roE rdInt)) p20.2.2.2 p20.2.2.1.v r18.1.Tuple, cbox k34 31 (.agg [p33.1.v, p33.2.2.1.v, p33.2.2.2.2.1.v].toArray), cown (OwnS 86 ow86) p33.2.1 p33.1.v r31.1.All, cown (OwnS 86 ow86) p33.2.2.2.1 p33.2.2.1.v r31.1.Some, cown (OwnS 3 (roE rdInt)) p33.2.2.2.2.2 p33.2.2.2.2.1.v r31.1.Tuple]) ?_ ?_
 · replace hF := hio69
   iterate 3 refine au ?_
   rcases Bool.eq_false_or_eq_true (decide ((r66.1 : Int) < 0)) with hg71 | hg71
   · rw [hg71]
     try rw [hg71] at hF; dsimp only [cond_true, cond_false] at hF
     iterate 11 refine au ?_
     cases hF
     exact ⟨_, _, rfl, eqA, entA⟩
   rw [hg71]
   try rw [hg71] at hF; dsimp only [cond_true, cond_false] at hF
   iterate 5 refine au ?_
   refine bnd hF fun r72 hx73 hF => C_x4 (.cons (.t (.t (.t (.t (.t (.t (.t (.t (.t (.t (.t (.t (.t (.t (.t (.t .h)))))))))))))))) (.cons (.t (.t (.t (.t (.t (.t (.t (.t (.t (.t (.t (.t (.t (.t (.t (.t (.t (.t (.t (.t .h)))))))))))))))))))) (.cons (.t (.t (.t (.t (.t (.t (.t (.t (.t (.t (.t (.t (.t (.t (.t (.t (.t (.t (.t .h))))))))))))))))))) (.cons (.t (.t (.t (.t (.t (.t (.t (.t (.t (.t (.t (.t (.t (.t (.t (.t (.t (.t .h)))))))))))))))))) (.rd (.t (.t (.t (.t (.t (.t (.t (.t (.t (.t (.t (.t (.t (.t .h)))))))))))))) rfl (.rd (.t (.t (.t (.t (.t (.t (.t (.t (.t (.t (.t (.t (.t (.t (.t .h))))))))))))))) rfl .nil)))))) (XC_borL (pre := _) (.cons frz_own (.cons frz_own (.cons frz_own (.cons frz_own .nil)))) (fun _ => .nil) (XC_pre (.rd .h rfl (.rd (.t .h) rfl (.rd (.t (.t .h)) rfl (.rd (.t (.t (.t (.t .h)))) rfl (.rd (.t (.t (.t (.t (.t .h))))) rfl (.rd (.t (.t (.t .h))) rfl .nil)))))) (X_callS cf11.h (.cons (.tmp rfl rfl) (.cons (.tmp rfl rfl) .nil)) (l_eqCertificate_ok r31.1 p33.1 p33.2.2.1 p33.2.2.2.2.1 r18.1 p20.1 p20.2.1 p20.2.2.1 _ hx73)))) (fun _ => ?_)
   iterate 4 refine au ?_
   rcases Bool.eq_false_or_eq_true (!r72) with hg75 | hg75
   · rw [hg75]
     try rw [hg75] at hF; dsimp only [cond_true, cond_false] at hF
     iterate 5 refine au ?_
     cases hF
     exact ⟨_, _, rfl, eqA, entA⟩
   rw [hg75]
   try rw [hg75] at hF; dsimp only [cond_true, cond_false] at hF
   iterate 5 refine au ?_
   refine C_val (V_neB (a := r31.2) (b := r18.2) Tryz.underlying4 (.tmp rfl rfl) (.tmp rfl rfl)) ?_
   iterate 2 refine au ?_
   cases hF
   exact ⟨_, _, rfl, eqA, entA⟩
 rintro _ _ ⟨c76, g113, rfl, rfl, hE⟩
 replace hF := hO70
 try dsimp only at hF
 refine K_ent hE ?_
 refine Ci hF (fun hb112 hF => ?_) (fun hb112 hF => ?_)
 · iterate 4 refine au ?_
   cases hF
   exact Er ()
 iterate 7 refine au ?_
 refine bnd hF fun r77 hx78 hF => Cx3 (l_markCertificate_ok _ _ _ _ _ _ _ _ _ hx78) (fun p79 => ?_)
 iterate 8 refine au ?_
 refine bnd hF fun r80 hx81 hF => C_x3 (.cons (.t (.t .h)) (.cons (.t .h) (.cons .h .nil))) (XC_borL (pre := []) (.cons frz_own (.cons frz_own (.cons frz_own .nil))) (fun _ => .nil) (X_callS cf19.h (.cons (.tmp rfl rfl) (.cons (.tmp rfl rfl) .nil)) (l_heldCertificate_ok r77.2 p33.1 p33.2.2.1 p33.2.2.2.2.1 1 _ hx81))) (fun _ => ?_)
 iterate 7 refine au ?_
 refine Ci hF (fun hb111 hF => ?_) (fun hb111 hF => ?_)
 · iterate 4 refine au ?_
   cases hF
   exact Er ()
 iterate 7 refine au ?_
 refine Ci hF (fun hb110 hF => ?_) (fun hb110 hF => ?_)
 · iterate 4 refine au ?_
   cases hF
   exact Er ()
 refine au ?_
 refine K_draw [0, 2, 4, 10, 1, 3, 5, 6, 7, 8, 9, 11, 12] [0, 1, 0, 7, 0, 31, 63, 127, 255, 255, 0, 1535, 4095] [1, 3, 5, 6, 11] mixed (by decide +kernel) ?_
 iterate 3 refine du ?_
 refine D_new rfl .no rfl (fun ha => N_allocT (g := true) ty31.h rfl rfl) (fun k83 => ?_)
 refine bnd hF fun r84 hx85 hF => D_act1 rfl rfl .no (.rd (.t (.t (.t (.t .h)))) rfl .nil) (.own .h (fun _ h => h) .nil) (fun ha => X_callS cf7.h (.cons (EN ha (.tmp rfl rfl) rfl) .nil) (l_toIntS_ok a_aS v0_0 _ hx85)) (fun p86 => ?_)
 refine bnd hF fun r87 hx88 hF => D_act1 rfl rfl .no (.rd (.t (.t (.t (.t (.t (.t .h)))))) rfl .nil) (.own (.t .h) (fun _ h => h) .nil) (fun ha => X_callS cf8.h (.cons (EN ha (.tmp rfl rfl) rfl) .nil) (l_toMethodS_ok a_aL v1_0 _ hx88)) (fun p89 => ?_)
 refine bnd hF fun r90 hx91 hF => D_act2 rfl rfl .no (.rd (.t (.t (.t (.t (.t (.t (.t (.t (.t .h))))))))) rfl (.rd (.t (.t (.t (.t (.t (.t (.t (.t (.t (.t .h)))))))))) rfl .nil)) (.own (.t (.t .h)) (fun _ h => h) .nil) (fun ha => X_callS cf9.h (.cons (EN ha (.tmp rfl rfl) rfl) .nil) (l_toQuery_ok a_aQ v2_0 v2_1 _ hx91)) (fun p92 => ?_)
 refine bnd hF fun r93 hx94 hF => D_act7 rfl rfl .no (.cons (.t .h) (.cons .h (.cons .h (.cons .h .nil)))) (.own .h (fun _ h => h) .nil) (fun ha => XC_borL (pre := []) (.cons frz_own (.cons frz_own (.cons frz_own (.cons frz_own .nil)))) (fun _ => (.cons (.cons (.cons .nil)))) (X_callS cf10.h (.cons (EN ha (.tmp rfl rfl) rfl) (.cons (EN ha (.tmp rfl rfl) rfl) (.cons (EN ha (.tmp rfl rfl) rfl) .nil))) (i_CertificateFor_ok fuel r84 p86.1 r87 p89.1 r90 p92.1 p92.2.2.1 _ hx94))) (fun p95 => ?_)
 refine du ?_
 refine D_val rfl .no (fun ha => V_extract (l := [(.agg [p95.1.v, p95.2.2.1.v, p95.2.2.2.2.1.v].toArray), (.bool r93.2)]) (v := (.agg [p95.1.v, p95.2.2.1.v, p95.2.2.2.2.1.v].toArray)) (EN ha (.tmp rfl rfl) rfl) rfl) ?_
 refine D_val rfl .no (fun ha => V_extract (l := [(.agg [p95.1.v, p95.2.2.1.v, p95.2.2.2.2.1.v].toArray), (.bool r93.2)]) (v := (.bool r93.2)) (EN ha (.tmp rfl rfl) rfl) rfl) ?_
 refine D_act1 rfl rfl .no (.cons (.t (.t (.t (.t (.t (.t (.t .h))))))) .nil) (.dep rfl .nil) (fun ha => X_storeB (e' := (.agg [p95.1.v, p95.2.2.1.v, p95.2.2.2.2.1.v].toArray)) (v := (.agg [p95.1.v, p95.2.2.1.v, p95.2.2.2.2.1.v].toArray)) ty31.h.sz (EN ha (.tmp rfl rfl) rfl) (EN ha (.tmp rfl rfl) rfl) rfl rfl rfl rfl rfl) (fun _ => ?_)
 iterate 2 refine du ?_
 refine au ?_
 obtain ⟨o96, hio96, hO97⟩ := bind_some hF
 refine au ?_
 refine C_cut (fun f' cs' => ∃ (c102 : Bool) (g : Fr), c102 = o96 ∧ f' = updL g [(13, (pz k34)), (16, (.int .i64 r77.1)), (131, (.bool c102))] ∧ Ent cs' [cbox k34 31 (.agg [p33.1.v, p33.2.2.1.v, p33.2.2.2.2.1.v].toArray), cown (OwnS 86 ow86) p79.1 p33.1.v r77.2.All, cown (OwnS 86 ow86) p79.2.1 p33.2.2.1.v r77.2.Some, cown (OwnS 3 (roE rdInt)) p79.2.2 p33.2.2.2.2.1.v r77.2.Tuple]) ?_ ?_
 · replace hF := hio96
   iterate 2 refine au ?_
   refine bnd hF fun r98 hx99 hF => C_x4 (.cons (.t (.t (.t (.t (.t (.t (.t (.t (.t (.t (.t (.t (.t (.t (.t (.t (.t (.t (.t .h))))))))))))))))))) (.cons (.t (.t (.t (.t (.t (.t (.t .h))))))) (.cons (.t (.t (.t (.t (.t (.t .h)))))) (.cons (.t (.t (.t (.t (.t .h))))) (.rd (.t (.t (.t (.t (.t (.t (.t (.t (.t (.t (.t (.t (.t (.t .h)))))))))))))) rfl (.rd (.t (.t (.t (.t (.t (.t (.t (.t (.t (.t (.t (.t (.t (.t (.t .h))))))))))))))) rfl .nil)))))) (XC_borL (pre := _) (.cons frz_own (.cons frz_own (.cons frz_own (.cons frz_own .nil)))) (fun _ => .nil) (XC_pre (.rd .h rfl (.rd (.t .h) rfl (.rd (.t (.t .h)) rfl (.rd (.t (.t (.t (.t .h)))) rfl (.rd (.t (.t (.t (.t (.t .h))))) rfl (.rd (.t (.t (.t .h))) rfl .nil)))))) (X_callS cf11.h (.cons (.tmp rfl rfl) (.cons (.tmp rfl rfl) .nil)) (l_eqCertificate_ok r93.1 p95.1 p95.2.2.1 p95.2.2.2.2.1 r18.1 p20.1 p20.2.1 p20.2.2.1 _ hx99)))) (fun _ => ?_)
   iterate 2 refine au ?_
   rcases Bool.eq_false_or_eq_true (!r98) with hg101 | hg101
   · rw [hg101]
     try rw [hg101] at hF; dsimp only [cond_true, cond_false] at hF
     iterate 5 refine au ?_
     cases hF
     exact ⟨_, _, rfl, eqA, entA⟩
   rw [hg101]
   try rw [hg101] at hF; dsimp only [cond_true, cond_false] at hF
   iterate 5 refine au ?_
   refine C_val (V_neB (a := r93.2) (b := r18.2) Tryz.underlying4 (.tmp rfl rfl) (.tmp rfl rfl)) ?_
   iterate 2 refine au ?_
   cases hF
   exact ⟨_, _, rfl, eqA, entA⟩
 rintro _ _ ⟨c102, g109, rfl, rfl, hE⟩
 replace hF := hO97
 try dsimp only at hF
 refine K_ent hE ?_
 refine Ci hF (fun hb108 hF => ?_) (fun hb108 hF => ?_)
 · iterate 4 refine au ?_
   cases hF
   exact Er ()
 iterate 7 refine au ?_
 refine bnd hF fun r103 hx104 hF => C_x3 (.cons (.t (.t (.t .h))) (.cons (.t (.t .h)) (.cons (.t .h) .nil))) (XC_borL (pre := []) (.cons frz_own (.cons frz_own (.cons frz_own .nil))) (fun _ => .nil) (X_callS cf19.h (.cons (.tmp rfl rfl) (.cons (.tmp rfl rfl) .nil)) (l_heldCertificate_ok r77.2 p33.1 p33.2.2.1 p33.2.2.2.2.1 1 _ hx104))) (fun _ => ?_)
 iterate 7 refine au ?_
 refine Ci hF (fun hb107 hF => ?_) (fun hb107 hF => ?_)
 · iterate 4 refine au ?_
   cases hF
   exact Er ()
 iterate 7 refine au ?_
 refine Ci hF (fun hb106 hF => ?_) (fun hb106 hF => ?_)
 · iterate 4 refine au ?_
   cases hF
   exact Er ()
 iterate 5 refine au ?_
 cases hF
 exact Er ()
end Go.Proofs.YtlfebfhfgfjceacGreat
