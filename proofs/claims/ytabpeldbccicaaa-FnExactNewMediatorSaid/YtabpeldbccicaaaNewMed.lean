/-
  FnExactNewMediator: the plain law and the row: for all arguments.
-/
import Derived.Test.YtabpeldbccicaaaNewMedG1
import Derived.Test.YtabpeldbccicaaaFc
import Derived.Test.YtabpeldbccicaaaRows
import Derived.WalkKit
import Derived.KernelRfl
/-
  Plain laws of the helpers. Written by a program.
-/
set_option maxRecDepth 100000
set_option linter.unusedVariables false
namespace Go.Proofs.Ytabpeldbccicaaa
open Go Go.Fw
theorem to_IntS : ∀ (a : List Int), (bdL bdAny) a → l_toIntS a = some a :=
  to_slice (fun _ => rfl) (fun _ _ => rfl) (fun x r k c hx hk => by
    rw [l_toIntS_L1]
    simp [chk, hk])
theorem eq_IntS : ∀ (a : List Int), l_eqIntS a a = some true :=
  eq_slice (fun _ _ => rfl) (fun _ _ => rfl) (fun b x r k h => by
    rw [l_eqIntS_L1, ix_nat, h]
    simp)
theorem eq_Method (a : Method) : l_eqMethod a a = some true := by simp [l_eqMethod, eq_IntS]
theorem eq_MethodS : ∀ (a : List Method), l_eqMethodS a a = some true :=
  eq_slice (fun _ _ => rfl) (fun _ _ => rfl) (fun b x r k h => by
    rw [l_eqMethodS_L1, ix_nat, h]
    simp [eq_Method])
theorem eq_Rule (a : Rule) : l_eqRule a a = some true := by simp [l_eqRule, eq_IntS]
theorem eq_RuleS : ∀ (a : List Rule), l_eqRuleS a a = some true :=
  eq_slice (fun _ _ => rfl) (fun _ _ => rfl) (fun b x r k h => by
    rw [l_eqRuleS_L1, ix_nat, h]
    simp [eq_Rule])
theorem eq_Fact (a : Fact) : l_eqFact a a = some true := by simp [l_eqFact, eq_IntS]
theorem eq_FactS : ∀ (a : List Fact), l_eqFactS a a = some true :=
  eq_slice (fun _ _ => rfl) (fun _ _ => rfl) (fun b x r k h => by
    rw [l_eqFactS_L1, ix_nat, h]
    simp [eq_Fact])
theorem eq_Source (a : Source) : l_eqSource a a = some true := by simp [l_eqSource, eq_FactS]
theorem eq_Access (a : Access) : l_eqAccess a a = some true := by simp [l_eqAccess, eq_IntS]
theorem eq_Stored (a : Stored) : l_eqStored a a = some true := by simp [l_eqStored, eq_Access, eq_FactS]
theorem eq_StoredS : ∀ (a : List Stored), l_eqStoredS a a = some true :=
  eq_slice (fun _ _ => rfl) (fun _ _ => rfl) (fun b x r k h => by
    rw [l_eqStoredS_L1, ix_nat, h]
    simp [eq_Stored])
theorem eq_Cache (a : Cache) : l_eqCache a a = some true := by simp [l_eqCache, eq_StoredS]
theorem eq_AccessS : ∀ (a : List Access), l_eqAccessS a a = some true :=
  eq_slice (fun _ _ => rfl) (fun _ _ => rfl) (fun b x r k h => by
    rw [l_eqAccessS_L1, ix_nat, h]
    simp [eq_Access])
theorem eq_IntSS : ∀ (a : List (List Int)), l_eqIntSS a a = some true :=
  eq_slice (fun _ _ => rfl) (fun _ _ => rfl) (fun b x r k h => by
    rw [l_eqIntSS_L1, ix_nat, h]
    simp [eq_IntS])
theorem eq_IntSSS : ∀ (a : List (List (List Int))), l_eqIntSSS a a = some true :=
  eq_slice (fun _ _ => rfl) (fun _ _ => rfl) (fun b x r k h => by
    rw [l_eqIntSSS_L1, ix_nat, h]
    simp [eq_IntSS])
theorem eq_Mediator (a : Mediator) : l_eqMediator a a = some true := by simp [l_eqMediator, eq_AccessS, eq_Cache, eq_IntS, eq_IntSSS, eq_MethodS, eq_RuleS, eq_Source]
theorem mark_IntS : ∀ (a : List Int) (k : Int), (bdL bdAny) a → 0 ≤ k → k + (msL (fun _ => 1) a : Int) < 4611686018427387904 → l_markIntS a k = some (k + msL (fun _ => 1) a, mkL (fun _ k => k) (fun _ => 1) k a) :=
  mark_slice (fun _ _ => rfl) (fun m c k j h => by rw [l_markIntS_L1, if_neg (by simp; omega)]) (fun m c k j x e hl hj hp hk hm => by
    rw [l_markIntS_L1, if_pos (by simp; omega)]
    simp (disch := first | omega | assumption | (simp only [List.length_set]; omega)) only [chk_true (show (decide (0 ≤ (j : Int)) && decide ((j : Int) < (c.length : Int))) = true by simp; omega), wrap_in, Int.toNat_natCast, Option.bind_some, Int.natCast_add, Int.cast_ofNat_Int])
def bd_Method (a : Method) : Prop := (bdL bdAny) a.Inputs
def meN_Method (a : Method) : Nat := 1 + msL (fun _ => 1) a.Inputs + 1 + 1 + 1
def meK_Method (a : Method) (k : Int) : Method := { Rel := k, Inputs := mkL (fun _ k => k) (fun _ => 1) (k + 1) a.Inputs, Limit := k + 1 + msL (fun _ => 1) a.Inputs, Cost := k + 1 + msL (fun _ => 1) a.Inputs + 1, Quota := k + 1 + msL (fun _ => 1) a.Inputs + 1 + 1 }
theorem mark_MethodS : ∀ (a : List Method) (k : Int), (bdL bd_Method) a → 0 ≤ k → k + (msL meN_Method a : Int) < 4611686018427387904 → l_markMethodS a k = some (k + msL meN_Method a, mkL meK_Method meN_Method k a) :=
  mark_slice (fun _ _ => rfl) (fun m c k j h => by rw [l_markMethodS_L1, if_neg (by simp; omega)]) (fun m c k j x e hl hj hp hk hm => by
    have e' : ix c (j : Int) = some x := by rw [ix_nat, e]
    have b_x_Inputs : (bdL bdAny) x.Inputs := hp
    simp only [meN_Method, Int.natCast_add, Int.cast_ofNat_Int] at hm ⊢
    rw [l_markMethodS_L1, if_pos (by simp; omega)]
    simp (disch := first | omega | assumption | (simp only [List.length_set]; omega)) only [e', mark_IntS, meK_Method, ix_at, List.set_set, wrap_in, Int.toNat_natCast, Option.bind_some, Int.add_assoc])
def bd_Rule (a : Rule) : Prop := (bdL bdAny) a.Map
def meN_Rule (a : Rule) : Nat := 1 + 1 + msL (fun _ => 1) a.Map
def meK_Rule (a : Rule) (k : Int) : Rule := { From := k, To := k + 1, Map := mkL (fun _ k => k) (fun _ => 1) (k + 1 + 1) a.Map }
theorem mark_RuleS : ∀ (a : List Rule) (k : Int), (bdL bd_Rule) a → 0 ≤ k → k + (msL meN_Rule a : Int) < 4611686018427387904 → l_markRuleS a k = some (k + msL meN_Rule a, mkL meK_Rule meN_Rule k a) :=
  mark_slice (fun _ _ => rfl) (fun m c k j h => by rw [l_markRuleS_L1, if_neg (by simp; omega)]) (fun m c k j x e hl hj hp hk hm => by
    have e' : ix c (j : Int) = some x := by rw [ix_nat, e]
    have b_x_Map : (bdL bdAny) x.Map := hp
    simp only [meN_Rule, Int.natCast_add, Int.cast_ofNat_Int] at hm ⊢
    rw [l_markRuleS_L1, if_pos (by simp; omega)]
    simp (disch := first | omega | assumption | (simp only [List.length_set]; omega)) only [e', mark_IntS, meK_Rule, ix_at, List.set_set, wrap_in, Int.toNat_natCast, Option.bind_some, Int.add_assoc])
def bd_Fact (a : Fact) : Prop := (bdL bdAny) a.Values
def meN_Fact (a : Fact) : Nat := 1 + msL (fun _ => 1) a.Values
def meK_Fact (a : Fact) (k : Int) : Fact := { Rel := k, Values := mkL (fun _ k => k) (fun _ => 1) (k + 1) a.Values }
theorem mark_FactS : ∀ (a : List Fact) (k : Int), (bdL bd_Fact) a → 0 ≤ k → k + (msL meN_Fact a : Int) < 4611686018427387904 → l_markFactS a k = some (k + msL meN_Fact a, mkL meK_Fact meN_Fact k a) :=
  mark_slice (fun _ _ => rfl) (fun m c k j h => by rw [l_markFactS_L1, if_neg (by simp; omega)]) (fun m c k j x e hl hj hp hk hm => by
    have e' : ix c (j : Int) = some x := by rw [ix_nat, e]
    have b_x_Values : (bdL bdAny) x.Values := hp
    simp only [meN_Fact, Int.natCast_add, Int.cast_ofNat_Int] at hm ⊢
    rw [l_markFactS_L1, if_pos (by simp; omega)]
    simp (disch := first | omega | assumption | (simp only [List.length_set]; omega)) only [e', mark_IntS, meK_Fact, ix_at, List.set_set, wrap_in, Int.toNat_natCast, Option.bind_some, Int.add_assoc])
def mtN_Source (a : Source) : Nat := msL meN_Fact a.Facts
def mtK_Source (a : Source) (k : Int) : Source := { Facts := mkL meK_Fact meN_Fact (k) a.Facts, Version := a.Version }
def bd_Source (a : Source) : Prop := (bdL bd_Fact) a.Facts
theorem mark_Source (a : Source) (k : Int) (h : bd_Source a) (hk : 0 ≤ k) (hm : k + (mtN_Source a : Int) < 4611686018427387904) : l_markSource a k = some (k + mtN_Source a, mtK_Source a k) := by
  have b_a_Facts : (bdL bd_Fact) a.Facts := h
  simp only [mtN_Source] at hm ⊢
  simp (disch := first | omega | assumption | (simp only [mtN_Source, Int.natCast_add, Int.cast_ofNat_Int]; omega)) only [l_markSource, mtK_Source, mark_FactS, Option.bind_some]
def bd_Access (a : Access) : Prop := (bdL bdAny) a.Values
def bd_Stored (a : Stored) : Prop := bd_Access a.Access ∧ (bdL bd_Fact) a.Facts
def meN_Access (a : Access) : Nat := 1 + msL (fun _ => 1) a.Values
def meK_Access (a : Access) (k : Int) : Access := { Method := k, Values := mkL (fun _ k => k) (fun _ => 1) (k + 1) a.Values }
def meN_Stored (a : Stored) : Nat := meN_Access a.Access + msL meN_Fact a.Facts + 1
def meK_Stored (a : Stored) (k : Int) : Stored := { Access := meK_Access a.Access (k), Facts := mkL meK_Fact meN_Fact (k + meN_Access a.Access) a.Facts, At := k + meN_Access a.Access + msL meN_Fact a.Facts }
theorem mark_StoredS : ∀ (a : List Stored) (k : Int), (bdL bd_Stored) a → 0 ≤ k → k + (msL meN_Stored a : Int) < 4611686018427387904 → l_markStoredS a k = some (k + msL meN_Stored a, mkL meK_Stored meN_Stored k a) :=
  mark_slice (fun _ _ => rfl) (fun m c k j h => by rw [l_markStoredS_L1, if_neg (by simp; omega)]) (fun m c k j x e hl hj hp hk hm => by
    have e' : ix c (j : Int) = some x := by rw [ix_nat, e]
    have b_x_Access : bd_Access x.Access := hp.1
    have b_x_Access_Values : (bdL bdAny) x.Access.Values := b_x_Access
    have b_x_Facts : (bdL bd_Fact) x.Facts := hp.2
    simp only [meN_Access, meN_Stored, Int.natCast_add, Int.cast_ofNat_Int] at hm ⊢
    rw [l_markStoredS_L1, if_pos (by simp; omega)]
    simp (disch := first | omega | assumption | (simp only [List.length_set]; omega)) only [e', mark_FactS, mark_IntS, meK_Access, meK_Stored, meN_Access, ix_at, List.set_set, wrap_in, Int.toNat_natCast, Option.bind_some, Int.natCast_add, Int.cast_ofNat_Int, Int.add_assoc])
def mtN_Cache (a : Cache) : Nat := msL meN_Stored a.Entries
def mtK_Cache (a : Cache) (k : Int) : Cache := { Entries := mkL meK_Stored meN_Stored (k) a.Entries, Age := a.Age }
def bd_Cache (a : Cache) : Prop := (bdL bd_Stored) a.Entries
theorem mark_Cache (a : Cache) (k : Int) (h : bd_Cache a) (hk : 0 ≤ k) (hm : k + (mtN_Cache a : Int) < 4611686018427387904) : l_markCache a k = some (k + mtN_Cache a, mtK_Cache a k) := by
  have b_a_Entries : (bdL bd_Stored) a.Entries := h
  simp only [mtN_Cache] at hm ⊢
  simp (disch := first | omega | assumption | (simp only [mtN_Cache, Int.natCast_add, Int.cast_ofNat_Int]; omega)) only [l_markCache, mtK_Cache, mark_StoredS, Option.bind_some]
theorem mark_AccessS : ∀ (a : List Access) (k : Int), (bdL bd_Access) a → 0 ≤ k → k + (msL meN_Access a : Int) < 4611686018427387904 → l_markAccessS a k = some (k + msL meN_Access a, mkL meK_Access meN_Access k a) :=
  mark_slice (fun _ _ => rfl) (fun m c k j h => by rw [l_markAccessS_L1, if_neg (by simp; omega)]) (fun m c k j x e hl hj hp hk hm => by
    have e' : ix c (j : Int) = some x := by rw [ix_nat, e]
    have b_x_Values : (bdL bdAny) x.Values := hp
    simp only [meN_Access, Int.natCast_add, Int.cast_ofNat_Int] at hm ⊢
    rw [l_markAccessS_L1, if_pos (by simp; omega)]
    simp (disch := first | omega | assumption | (simp only [List.length_set]; omega)) only [e', mark_IntS, meK_Access, ix_at, List.set_set, wrap_in, Int.toNat_natCast, Option.bind_some, Int.add_assoc])
theorem mark_IntSS : ∀ (a : List (List Int)) (k : Int), (bdL (bdL bdAny)) a → 0 ≤ k → k + (msL (msL (fun _ => 1)) a : Int) < 4611686018427387904 → l_markIntSS a k = some (k + msL (msL (fun _ => 1)) a, mkL (fun l k => mkL (fun _ k => k) (fun _ => 1) k l) (msL (fun _ => 1)) k a) :=
  mark_slice (fun _ _ => rfl) (fun m c k j h => by rw [l_markIntSS_L1, if_neg (by simp; omega)]) (fun m c k j x e hl hj hp hk hm => by
    have e' : ix c (j : Int) = some x := by rw [ix_nat, e]
    rw [l_markIntSS_L1, if_pos (by simp; omega)]
    simp (disch := first | omega | assumption | (simp only [List.length_set]; omega)) only [e', mark_IntS, wrap_in, Int.toNat_natCast, Option.bind_some, Int.natCast_add, Int.cast_ofNat_Int])
theorem mark_IntSSS : ∀ (a : List (List (List Int))) (k : Int), (bdL (bdL (bdL bdAny))) a → 0 ≤ k → k + (msL (msL (msL (fun _ => 1))) a : Int) < 4611686018427387904 → l_markIntSSS a k = some (k + msL (msL (msL (fun _ => 1))) a, mkL (fun l k => mkL (fun l k => mkL (fun _ k => k) (fun _ => 1) k l) (msL (fun _ => 1)) k l) (msL (msL (fun _ => 1))) k a) :=
  mark_slice (fun _ _ => rfl) (fun m c k j h => by rw [l_markIntSSS_L1, if_neg (by simp; omega)]) (fun m c k j x e hl hj hp hk hm => by
    have e' : ix c (j : Int) = some x := by rw [ix_nat, e]
    rw [l_markIntSSS_L1, if_pos (by simp; omega)]
    simp (disch := first | omega | assumption | (simp only [List.length_set]; omega)) only [e', mark_IntSS, wrap_in, Int.toNat_natCast, Option.bind_some, Int.natCast_add, Int.cast_ofNat_Int])
def mtN_Mediator (a : Mediator) : Nat := msL (fun _ => 1) a.Schema + msL meN_Method a.Methods + msL meN_Rule a.Rules + mtN_Source a.Source + mtN_Cache a.Cache + msL meN_Access a.Log + msL (fun _ => 1) a.Times + msL (msL (msL (fun _ => 1))) a.Results
def mtK_Mediator (a : Mediator) (k : Int) : Mediator := { Schema := mkL (fun _ k => k) (fun _ => 1) (k) a.Schema, Methods := mkL meK_Method meN_Method (k + msL (fun _ => 1) a.Schema) a.Methods, Rules := mkL meK_Rule meN_Rule (k + msL (fun _ => 1) a.Schema + msL meN_Method a.Methods) a.Rules, Source := mtK_Source a.Source (k + msL (fun _ => 1) a.Schema + msL meN_Method a.Methods + msL meN_Rule a.Rules), Cache := mtK_Cache a.Cache (k + msL (fun _ => 1) a.Schema + msL meN_Method a.Methods + msL meN_Rule a.Rules + mtN_Source a.Source), Now := a.Now, Log := mkL meK_Access meN_Access (k + msL (fun _ => 1) a.Schema + msL meN_Method a.Methods + msL meN_Rule a.Rules + mtN_Source a.Source + mtN_Cache a.Cache) a.Log, Times := mkL (fun _ k => k) (fun _ => 1) (k + msL (fun _ => 1) a.Schema + msL meN_Method a.Methods + msL meN_Rule a.Rules + mtN_Source a.Source + mtN_Cache a.Cache + msL meN_Access a.Log) a.Times, Spent := a.Spent, Results := mkL (fun l k => mkL (fun l k => mkL (fun _ k => k) (fun _ => 1) k l) (msL (fun _ => 1)) k l) (msL (msL (fun _ => 1))) (k + msL (fun _ => 1) a.Schema + msL meN_Method a.Methods + msL meN_Rule a.Rules + mtN_Source a.Source + mtN_Cache a.Cache + msL meN_Access a.Log + msL (fun _ => 1) a.Times) a.Results }
def bd_Mediator (a : Mediator) : Prop := (bdL bdAny) a.Schema ∧ (bdL bd_Method) a.Methods ∧ (bdL bd_Rule) a.Rules ∧ bd_Source a.Source ∧ bd_Cache a.Cache ∧ (bdL bd_Access) a.Log ∧ (bdL bdAny) a.Times ∧ (bdL (bdL (bdL bdAny))) a.Results
theorem mark_Mediator (a : Mediator) (k : Int) (h : bd_Mediator a) (hk : 0 ≤ k) (hm : k + (mtN_Mediator a : Int) < 4611686018427387904) : l_markMediator a k = some (k + mtN_Mediator a, mtK_Mediator a k) := by
  have b_a_Schema : (bdL bdAny) a.Schema := h.1
  have b_a_Methods : (bdL bd_Method) a.Methods := h.2.1
  have b_a_Rules : (bdL bd_Rule) a.Rules := h.2.2.1
  have b_a_Source : bd_Source a.Source := h.2.2.2.1
  have b_a_Source_Facts : (bdL bd_Fact) a.Source.Facts := b_a_Source
  have b_a_Cache : bd_Cache a.Cache := h.2.2.2.2.1
  have b_a_Cache_Entries : (bdL bd_Stored) a.Cache.Entries := b_a_Cache
  have b_a_Log : (bdL bd_Access) a.Log := h.2.2.2.2.2.1
  have b_a_Times : (bdL bdAny) a.Times := h.2.2.2.2.2.2.1
  have b_a_Results : (bdL (bdL (bdL bdAny))) a.Results := h.2.2.2.2.2.2.2
  simp only [mtN_Cache, mtN_Mediator, mtN_Source, Int.natCast_add] at hm ⊢
  simp (disch := first | omega | assumption | (simp only [mtN_Cache, mtN_Mediator, mtN_Source, Int.natCast_add, Int.cast_ofNat_Int]; omega)) only [l_markMediator, mtK_Cache, mtK_Mediator, mtK_Source, mtN_Cache, mtN_Source, mark_AccessS, mark_Cache, mark_IntS, mark_IntSSS, mark_MethodS, mark_RuleS, mark_Source, Option.bind_some, Int.add_assoc]
theorem held_IntS : ∀ (a : List Int) (k : Int), (bdL bdAny) a → 0 ≤ k → k + (msL (fun _ => 1) a : Int) < 4611686018427387904 → l_heldIntS (mkL (fun _ k => k) (fun _ => 1) k a) k = some (k + msL (fun _ => 1) a) :=
  held_slice (fun _ _ => rfl) (fun _ _ => rfl) (fun x r n k hp hk hm => by
    simp (disch := first | omega | assumption) only [l_heldIntS_L1, wrap_in, bne_self_eq_false, Bool.false_eq_true, if_false, Int.cast_ofNat_Int])
theorem held_MethodS : ∀ (a : List Method) (k : Int), (bdL bd_Method) a → 0 ≤ k → k + (msL meN_Method a : Int) < 4611686018427387904 → l_heldMethodS (mkL meK_Method meN_Method k a) k = some (k + msL meN_Method a) :=
  held_slice (fun _ _ => rfl) (fun _ _ => rfl) (fun x r n k hp hk hm => by
    have b_x_Inputs : (bdL bdAny) x.Inputs := hp
    simp only [meN_Method, Int.natCast_add, Int.cast_ofNat_Int] at hm ⊢
    simp (disch := first | omega | assumption) only [l_heldMethodS_L1, meK_Method, held_IntS, wrap_in, bne_self_eq_false, Bool.false_eq_true, if_false, neg_if, Option.bind_some, Int.add_assoc])
theorem held_RuleS : ∀ (a : List Rule) (k : Int), (bdL bd_Rule) a → 0 ≤ k → k + (msL meN_Rule a : Int) < 4611686018427387904 → l_heldRuleS (mkL meK_Rule meN_Rule k a) k = some (k + msL meN_Rule a) :=
  held_slice (fun _ _ => rfl) (fun _ _ => rfl) (fun x r n k hp hk hm => by
    have b_x_Map : (bdL bdAny) x.Map := hp
    simp only [meN_Rule, Int.natCast_add, Int.cast_ofNat_Int] at hm ⊢
    simp (disch := first | omega | assumption) only [l_heldRuleS_L1, meK_Rule, held_IntS, wrap_in, bne_self_eq_false, Bool.false_eq_true, if_false, neg_if, Option.bind_some, Int.add_assoc])
theorem held_FactS : ∀ (a : List Fact) (k : Int), (bdL bd_Fact) a → 0 ≤ k → k + (msL meN_Fact a : Int) < 4611686018427387904 → l_heldFactS (mkL meK_Fact meN_Fact k a) k = some (k + msL meN_Fact a) :=
  held_slice (fun _ _ => rfl) (fun _ _ => rfl) (fun x r n k hp hk hm => by
    have b_x_Values : (bdL bdAny) x.Values := hp
    simp only [meN_Fact, Int.natCast_add, Int.cast_ofNat_Int] at hm ⊢
    simp (disch := first | omega | assumption) only [l_heldFactS_L1, meK_Fact, held_IntS, wrap_in, bne_self_eq_false, Bool.false_eq_true, if_false, neg_if, Option.bind_some, Int.add_assoc])
theorem held_Source (a : Source) (k : Int) (h : bd_Source a) (hk : 0 ≤ k) (hm : k + (mtN_Source a : Int) < 4611686018427387904) : l_heldSource (mtK_Source a k) k = some (k + mtN_Source a) := by
  have b_a_Facts : (bdL bd_Fact) a.Facts := h
  simp only [mtN_Source] at hm ⊢
  simp only [l_heldSource, mtK_Source]
  rw [held_FactS a.Facts (k) b_a_Facts (by omega) (by omega), Option.bind_some, neg_if (by omega)]
  try simp only [Int.add_assoc]
theorem held_StoredS : ∀ (a : List Stored) (k : Int), (bdL bd_Stored) a → 0 ≤ k → k + (msL meN_Stored a : Int) < 4611686018427387904 → l_heldStoredS (mkL meK_Stored meN_Stored k a) k = some (k + msL meN_Stored a) :=
  held_slice (fun _ _ => rfl) (fun _ _ => rfl) (fun x r n k hp hk hm => by
    have b_x_Access : bd_Access x.Access := hp.1
    have b_x_Access_Values : (bdL bdAny) x.Access.Values := b_x_Access
    have b_x_Facts : (bdL bd_Fact) x.Facts := hp.2
    simp only [meN_Access, meN_Stored, Int.natCast_add, Int.cast_ofNat_Int] at hm ⊢
    simp (disch := first | omega | assumption) only [l_heldStoredS_L1, meK_Access, meK_Stored, meN_Access, held_FactS, held_IntS, wrap_in, bne_self_eq_false, Bool.false_eq_true, if_false, neg_if, Option.bind_some, Int.natCast_add, Int.cast_ofNat_Int, Int.add_assoc])
theorem held_Cache (a : Cache) (k : Int) (h : bd_Cache a) (hk : 0 ≤ k) (hm : k + (mtN_Cache a : Int) < 4611686018427387904) : l_heldCache (mtK_Cache a k) k = some (k + mtN_Cache a) := by
  have b_a_Entries : (bdL bd_Stored) a.Entries := h
  simp only [mtN_Cache] at hm ⊢
  simp only [l_heldCache, mtK_Cache]
  rw [held_StoredS a.Entries (k) b_a_Entries (by omega) (by omega), Option.bind_some, neg_if (by omega)]
  try simp only [Int.add_assoc]
theorem held_AccessS : ∀ (a : List Access) (k : Int), (bdL bd_Access) a → 0 ≤ k → k + (msL meN_Access a : Int) < 4611686018427387904 → l_heldAccessS (mkL meK_Access meN_Access k a) k = some (k + msL meN_Access a) :=
  held_slice (fun _ _ => rfl) (fun _ _ => rfl) (fun x r n k hp hk hm => by
    have b_x_Values : (bdL bdAny) x.Values := hp
    simp only [meN_Access, Int.natCast_add, Int.cast_ofNat_Int] at hm ⊢
    simp (disch := first | omega | assumption) only [l_heldAccessS_L1, meK_Access, held_IntS, wrap_in, bne_self_eq_false, Bool.false_eq_true, if_false, neg_if, Option.bind_some, Int.add_assoc])
theorem held_IntSS : ∀ (a : List (List Int)) (k : Int), (bdL (bdL bdAny)) a → 0 ≤ k → k + (msL (msL (fun _ => 1)) a : Int) < 4611686018427387904 → l_heldIntSS (mkL (fun l k => mkL (fun _ k => k) (fun _ => 1) k l) (msL (fun _ => 1)) k a) k = some (k + msL (msL (fun _ => 1)) a) :=
  held_slice (fun _ _ => rfl) (fun _ _ => rfl) (fun x r n k hp hk hm => by
    simp (disch := first | omega | assumption) only [l_heldIntSS_L1, held_IntS, neg_if, Option.bind_some])
theorem held_IntSSS : ∀ (a : List (List (List Int))) (k : Int), (bdL (bdL (bdL bdAny))) a → 0 ≤ k → k + (msL (msL (msL (fun _ => 1))) a : Int) < 4611686018427387904 → l_heldIntSSS (mkL (fun l k => mkL (fun l k => mkL (fun _ k => k) (fun _ => 1) k l) (msL (fun _ => 1)) k l) (msL (msL (fun _ => 1))) k a) k = some (k + msL (msL (msL (fun _ => 1))) a) :=
  held_slice (fun _ _ => rfl) (fun _ _ => rfl) (fun x r n k hp hk hm => by
    simp (disch := first | omega | assumption) only [l_heldIntSSS_L1, held_IntSS, neg_if, Option.bind_some])
theorem held_Mediator (a : Mediator) (k : Int) (h : bd_Mediator a) (hk : 0 ≤ k) (hm : k + (mtN_Mediator a : Int) < 4611686018427387904) : l_heldMediator (mtK_Mediator a k) k = some (k + mtN_Mediator a) := by
  have b_a_Schema : (bdL bdAny) a.Schema := h.1
  have b_a_Methods : (bdL bd_Method) a.Methods := h.2.1
  have b_a_Rules : (bdL bd_Rule) a.Rules := h.2.2.1
  have b_a_Source : bd_Source a.Source := h.2.2.2.1
  have b_a_Source_Facts : (bdL bd_Fact) a.Source.Facts := b_a_Source
  have b_a_Cache : bd_Cache a.Cache := h.2.2.2.2.1
  have b_a_Cache_Entries : (bdL bd_Stored) a.Cache.Entries := b_a_Cache
  have b_a_Log : (bdL bd_Access) a.Log := h.2.2.2.2.2.1
  have b_a_Times : (bdL bdAny) a.Times := h.2.2.2.2.2.2.1
  have b_a_Results : (bdL (bdL (bdL bdAny))) a.Results := h.2.2.2.2.2.2.2
  simp only [mtN_Cache, mtN_Mediator, mtN_Source, Int.natCast_add] at hm ⊢
  simp only [l_heldMediator, mtK_Cache, mtK_Mediator, mtK_Source, mtN_Cache, mtN_Source]
  rw [held_IntS a.Schema (k) b_a_Schema (by omega) (by omega), Option.bind_some, neg_if (by omega)]
  rw [held_MethodS a.Methods (k + msL (fun _ => 1) a.Schema) b_a_Methods (by omega) (by omega), Option.bind_some, neg_if (by omega)]
  rw [held_RuleS a.Rules (k + msL (fun _ => 1) a.Schema + msL meN_Method a.Methods) b_a_Rules (by omega) (by omega), Option.bind_some, neg_if (by omega)]
  have hx_Source := held_Source a.Source (k + msL (fun _ => 1) a.Schema + msL meN_Method a.Methods + msL meN_Rule a.Rules) b_a_Source (by omega) (by simp only [mtN_Source]; omega)
  simp only [mtK_Source, mtN_Source] at hx_Source
  rw [hx_Source, Option.bind_some, neg_if (by omega)]
  have hx_Cache := held_Cache a.Cache (k + msL (fun _ => 1) a.Schema + msL meN_Method a.Methods + msL meN_Rule a.Rules + msL meN_Fact a.Source.Facts) b_a_Cache (by omega) (by simp only [mtN_Cache]; omega)
  simp only [mtK_Cache, mtN_Cache] at hx_Cache
  rw [hx_Cache, Option.bind_some, neg_if (by omega)]
  rw [held_AccessS a.Log (k + msL (fun _ => 1) a.Schema + msL meN_Method a.Methods + msL meN_Rule a.Rules + msL meN_Fact a.Source.Facts + msL meN_Stored a.Cache.Entries) b_a_Log (by omega) (by omega), Option.bind_some, neg_if (by omega)]
  rw [held_IntS a.Times (k + msL (fun _ => 1) a.Schema + msL meN_Method a.Methods + msL meN_Rule a.Rules + msL meN_Fact a.Source.Facts + msL meN_Stored a.Cache.Entries + msL meN_Access a.Log) b_a_Times (by omega) (by omega), Option.bind_some, neg_if (by omega)]
  rw [held_IntSSS a.Results (k + msL (fun _ => 1) a.Schema + msL meN_Method a.Methods + msL meN_Rule a.Rules + msL meN_Fact a.Source.Facts + msL meN_Stored a.Cache.Entries + msL meN_Access a.Log + msL (fun _ => 1) a.Times) b_a_Results (by omega) (by omega), Option.bind_some, neg_if (by omega)]
  try simp only [Int.add_assoc]
end Go.Proofs.Ytabpeldbccicaaa

/-
  Plain laws: NewMediator.
-/
set_option maxRecDepth 100000
set_option linter.unusedVariables false
namespace Go.Proofs.Ytabpeldbccicaaa
open Go Go.Fw

def in13 (n : Int) : Bool := decide (1 ≤ n) && decide (n ≤ 3)
def pSchema (s : List Int) : Bool := in13 (s.length : Int) && s.all in13
theorem s_IsSchema_eq (s : List Int) : s_IsSchema s = some (pSchema s) := by
  unfold s_IsSchema
  rw [all_loop (L := s_IsSchema_L1 s) (f := fun n => s_l1In n 1 3) (p := in13) (e := in13 (s.length : Int)) (fun k => by simp [s_IsSchema_L1, s_l1In, in13]) (fun x r k => rfl) s 0 (fun x _ => rfl), pSchema, Bool.and_comm]
theorem i_IsSchema_eq (s : List Int) : i_IsSchema s = some (pSchema s) := by
  have h : g_slices_ContainsFunc_int_int_iIsSchema1 s = some (s.any fun n => !in13 n) := by
    unfold g_slices_ContainsFunc_int_int_iIsSchema1 g_slices_IndexFunc_int_int_iIsSchema1
    rw [index_loop (L := g_slices_IndexFunc_int_int_iIsSchema1_L1) (f := i_IsSchema_1) (p := fun n => !in13 n) (fun k => rfl) (fun x r k => rfl) s 0 (fun x _ => rfl), Option.bind_some, ixF_neg]
  unfold i_IsSchema
  rw [h]
  simp only [i_within, Option.bind_some, pSchema, in13]
  cases hh : (decide (1 ≤ (s.length : Int)) && decide ((s.length : Int) ≤ 3))
  · simp
  · simp [List.all_eq_not_any_not, in13]
def pNew (s : List Int) (age : Int) : Mediator × Bool :=
  if pSchema s && (decide (0 ≤ age) && decide (age ≤ 100)) then ({ Schema := s, Methods := [], Rules := [], Source := { Facts := [], Version := 0 }, Cache := { Entries := [], Age := age }, Now := 0, Log := [], Times := [], Spent := 0, Results := [] }, true)
  else ({ Schema := [], Methods := [], Rules := [], Source := { Facts := [], Version := 0 }, Cache := { Entries := [], Age := 0 }, Now := 0, Log := [], Times := [], Spent := 0, Results := [] }, false)
theorem s_NewMediator_eq (s : List Int) (age : Int) (h : s.length < 4294967296) : s_NewMediator s age = some (pNew s age) := by
  unfold s_NewMediator pNew
  rw [s_IsSchema_eq]
  cases pSchema s
  · simp
  · cases hh : (decide (0 ≤ age) && decide (age ≤ 100))
    · simp [s_l1In, hh]
    · simp [s_l1In, hh, app_nil h]
theorem i_NewMediator_eq (s : List Int) (age : Int) (h : s.length < 4294967296) : i_NewMediator s age = some (pNew s age) := by
  unfold i_NewMediator pNew
  rw [i_IsSchema_eq]
  cases pSchema s
  · simp
  · cases hh : (decide (0 ≤ age) && decide (age ≤ 100))
    · simp [i_within, hh]
    · simp [i_within, hh, g_slices_Clone_int_int, app_nil h]
theorem pNew_bd (s : List Int) (age : Int) (h : s.length < 4294967296) : bd_Mediator (pNew s age).1 ∧ mtN_Mediator (pNew s age).1 ≤ s.length := by
  unfold pNew
  split
  · exact ⟨⟨bdL_flat _ h, bdL_nil, bdL_nil, bdL_nil, bdL_nil, bdL_nil, bdL_nil, bdL_nil⟩, by simp [mtN_Mediator, mtN_Source, mtN_Cache, msL_one, msL_nil]⟩
  · exact ⟨⟨bdL_nil, bdL_nil, bdL_nil, bdL_nil, bdL_nil, bdL_nil, bdL_nil, bdL_nil⟩, by simp [mtN_Mediator, mtN_Source, mtN_Cache, msL_nil]⟩

theorem law_fnExactNewMediator {s : List Int} {age : Int} (ws : wfSl wfInt s) (wa : wfInt age) : l_FnExactNewMediator s age = some true := by
  unfold l_FnExactNewMediator
  by_cases h : (1048576 : Int) < (s.length : Int)
  · rw [if_pos (by simpa using h)]
  · rw [if_neg (by simpa using h)]
    have hl : s.length < 4294967296 := by omega
    have hb : bdL bdAny s := bdL_flat s hl
    obtain ⟨b1, b2⟩ := pNew_bd s age hl
    have e1 := mark_IntS s 1 hb (by omega) (by rw [msL_one]; omega)
    have e2 := mark_Mediator (pNew s age).1 1 b1 (by omega) (by omega)
    have e3 := held_Mediator (pNew s age).1 1 b1 (by omega) (by omega)
    have e4 : ∀ x : Nat, (decide (1 + (x : Int) < 0)) = false := fun x => by simp; omega
    simp only [to_IntS s hb, s_NewMediator_eq s age hl, i_NewMediator_eq s age hl, eq_Mediator, eq_IntS, e1, e2, Option.bind_some, Bool.not_true, cond_false, beq_self_eq_true, Bool.false_eq_true, if_false, e4]
    rw [show ({ Schema := (mtK_Mediator (pNew s age).1 1).Schema, Methods := (mtK_Mediator (pNew s age).1 1).Methods, Rules := (mtK_Mediator (pNew s age).1 1).Rules, Source := { Facts := (mtK_Mediator (pNew s age).1 1).Source.Facts, Version := (pNew s age).1.Source.Version }, Cache := { Entries := (mtK_Mediator (pNew s age).1 1).Cache.Entries, Age := (pNew s age).1.Cache.Age }, Now := (pNew s age).1.Now, Log := (mtK_Mediator (pNew s age).1 1).Log, Times := (mtK_Mediator (pNew s age).1 1).Times, Spent := (pNew s age).1.Spent, Results := (mtK_Mediator (pNew s age).1 1).Results } : Mediator) = mtK_Mediator (pNew s age).1 1 from rfl, e3]
    simp
    rw [if_neg (by omega), if_neg (by omega)]
end Go.Proofs.Ytabpeldbccicaaa

/-
  The row FnExactNewMediator.
-/
set_option maxRecDepth 100000
namespace Go.Proofs.Ytabpeldbccicaaa.fnExactNewMediator
open Go Go.Fw Go.ChangeShapes Go.WideShapes Go.ChangeAt Go.RowKit

theorem own : ownKnob Try.prog.godebug = none := by kernel_rfl
theorem laidOut : laidOutB Try.prog = true := by kernel_rfl

set_option maxRecDepth 100000 in
theorem lifted (os : Os) (started : os.Started) (H : Type) (enc : TypeId × Value → H) :
    ReturnsInHanded {} Try.checked os 6 .any (Rows.fnExactNewMediatorSpec.pre6 enc Try.prog Try.f6 Rows.fnExactNewMediatorRow.domain false) (Rows.fnExactNewMediatorSpec.post enc Try.prog Try.f6 false true false false) := by
  refine returnsInHanded_of_change_sized (C := Try.checked) own started (by kernel_rfl) Try.func6
    (ChangeSpec.witness6 (enc := enc) (C := Try.checked) false ⟨#[], #[.slice none 0 0, .int .i64 0], []⟩ 16 (by kernel_rfl) (by kernel_rfl) (by kernel_rfl) (by kernel_rfl)) ?_
  intro W base args ds gs before hval hW _ hwt _
  have hW' := hW
  obtain ⟨p, q, hA0, hV, rfl, hfz, hnd⟩ := hW
  obtain ⟨rfl, rfl⟩ := trodVars_none hV
  have hA : DataW.TrodAll enc Try.prog W 0 (fun _ => true) true [45, 3] args.toList ds p := hA0
  have hw : ∀ n ∈ DataW.weightsEach Try.prog [45, 3] ds, n ≤ reachBytes := fun n hn => by
    have := List.all_eq_true.1 hwt n (by rw [List.append_nil]; exact hn)
    simpa using this
  obtain ⟨v0, vs0, d0, ds0, p0, ρ0, H0, av0, a0, e0, rfl, hA0, hw0, r0, f0, u0, i0, rv0, q0, w0⟩ := opn_arg hA hw (Opn.slice (s := 1) (by kernel_rfl) (by kernel_rfl) (by decide) (Nat.lt_of_lt_of_le (by decide) (Nat.le_of_eq (show 8 = _ from by kernel_rfl))) (Opn.int (by kernel_rfl))) (fun H v a h => by obtain ⟨_, _, rfl⟩ := RdS.len h; kernel_rfl) (r := .any) (base := base) (fun v h => hval 0 45 v rfl (arg_at h)) (Rel.nil _ W trivial) Frn.nil
  obtain ⟨v1, vs1, d1, ds1, p1, ρ1, H1, av1, a1, e1, rfl, hA1, hw1, r1, f1, u1, i1, rv1, q1, w1⟩ := opn_arg hA0 hw0 (Opn.int (by kernel_rfl)) (fun H v a h => by subst h; kernel_rfl) (r := .any) (base := base) (fun v h => hval 1 3 v rfl (arg_at (by rw [e0]; exact h))) r0 f0
  obtain ⟨en, rfl⟩ := opn_none hA1
  subst en
  obtain ⟨sa0, sm0, rfl⟩ := RdS.len q0
  obtain rfl : av1 = (.int .i64 a1) := q1
  have hargs : RelVs ρ1 [(.slice sa0 a0.length sm0), (.int .i64 a1)] args.toList := by
    rw [e0, e1]
    exact (.cons _ _ _ _ (rv0.up u1) (.cons _ _ _ _ rv1 .nil))
  have hlaw := law_fnExactNewMediator w0 w1
  refine ((l_FnExactNewMediator_ok a0 ⟨sa0, _, sm0⟩ a1 true hlaw) H1 [] (Ctx.dup (Ctx.start _) (Mono.up q0 i1) rfl) ρ1 W args r1 hargs).mono ?_
  rintro e w' ⟨v, r, ρ', H', rfl, h1, h2, h3, x, h5, -⟩
  have h6 : r = .bool true := h5
  subst h6
  refine ⟨_, rfl, ?_⟩
  rw [h1.bool_inv]
  refine law_post hW' rfl laidOut (by kernel_rfl) rfl (by kernel_rfl) (fun d => ?_) (h3.below f1)
  by_cases hd : d = [d0, d1]
  · subst hd; exact .inl ⟨rfl, rfl, rfl⟩
  · exact .inr (by simpa using hd)

theorem over : Rows.fnExactNewMediatorRow.holds Try.pinned (OpenSpec.ofChange Rows.fnExactNewMediatorSpec) :=
  OpenClaim.holds_of_wide 6 Try.f6 rfl rfl rfl rfl rfl rfl rfl ⟨rfl, rfl, rfl, rfl, rfl⟩ rfl rfl rfl rfl rfl (by kernel_rfl) Try.func6 (by kernel_rfl)
    (of_decide_eq_true (by kernel_rfl)) (by unfold Func.isWrapper; first | (rw [if_pos (by decide +kernel)]; kernel_rfl) | (rw [if_neg (by decide +kernel)]; exact ⟨rfl, rfl⟩))
    (fun os started H enc _ => lifted os started H enc)

theorem proved : Rows.FnExactNewMediatorSaid := over
end Go.Proofs.Ytabpeldbccicaaa.fnExactNewMediator
