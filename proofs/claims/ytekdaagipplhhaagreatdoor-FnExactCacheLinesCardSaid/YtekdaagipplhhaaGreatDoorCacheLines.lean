/-
  FnExactCacheLines: the plain law and the row: for all arguments.
-/
import Derived.Test.YtekdaagipplhhaaGreatDoorCacheLinesG2
import Derived.Test.YtekdaagipplhhaaGreatDoorFcCacheLines
import Derived.Test.YtekdaagipplhhaaGreatDoorRows
import Derived.Test.YtekdaagipplhhaaGreatDoorTie
import Derived.Test.YtekdaagipplhhaaGreatDoorCards
import Derived.LaidMore
import Derived.OpenShut
import Derived.Stop.Joined
import Derived.Stop.LaidErr
import Derived.SevenTiedAt
import Derived.Lib.LaidTab
import Derived.WalkKit
import Derived.KernelRfl
/-
  Plain laws of the helpers. Written by a program.
-/
set_option maxRecDepth 100000
set_option maxHeartbeats 4000000
set_option linter.unusedVariables false
namespace Go.Proofs.YtekdaagipplhhaaGreatDoor
open Go Go.Fw
def bd_Fact (a : Fact) : Prop := (bdL bdAny) a.Values
def bd_Access (a : Access) : Prop := (bdL bdAny) a.Values
theorem sz_IntS : Sz l_szIntS (fun a : List Int => a.length) (wfSl wfInt) := sz_flat (fun _ _ => rfl)
def tot_Method (a : Method) : Nat := a.Inputs.length
theorem sz_Method : Sz l_szMethod tot_Method wf103 := by
  intro a ⟨w_Rel, w_Inputs, w_Limit, w_Cost, w_Quota⟩ left hl hm
  unfold l_szMethod
  have ht : tot_Method a = a.Inputs.length := rfl
  obtain ⟨n1, e1, h1⟩ := sz_IntS a.Inputs w_Inputs _ hl hm
  rw [e1, Option.bind_some]
  try dsimp only at h1
  rcases h1 with ⟨rfl, p1⟩ | p1
  rotate_left
  · rw [if_pos (by simpa using p1)]; exact ⟨-1, rfl, .inr (by omega)⟩
  rw [if_neg (by simp only [decide_eq_true_eq]; omega)]
  exact ⟨_, rfl, .inl ⟨by rw [ht] <;> omega, p1⟩⟩
theorem sz_MethodS : Sz l_szMethodS (totL tot_Method) (wfSl wf103) := sz_slice sz_Method (fun _ _ => rfl) (fun _ _ _ _ => rfl) (fun _ _ => rfl)
def tot_Rule (a : Rule) : Nat := a.Map.length
theorem sz_Rule : Sz l_szRule tot_Rule wf135 := by
  intro a ⟨w_From, w_To, w_Map⟩ left hl hm
  unfold l_szRule
  have ht : tot_Rule a = a.Map.length := rfl
  obtain ⟨n1, e1, h1⟩ := sz_IntS a.Map w_Map _ hl hm
  rw [e1, Option.bind_some]
  try dsimp only at h1
  rcases h1 with ⟨rfl, p1⟩ | p1
  rotate_left
  · rw [if_pos (by simpa using p1)]; exact ⟨-1, rfl, .inr (by omega)⟩
  rw [if_neg (by simp only [decide_eq_true_eq]; omega)]
  exact ⟨_, rfl, .inl ⟨by rw [ht] <;> omega, p1⟩⟩
theorem sz_RuleS : Sz l_szRuleS (totL tot_Rule) (wfSl wf135) := sz_slice sz_Rule (fun _ _ => rfl) (fun _ _ _ _ => rfl) (fun _ _ => rfl)
def tot_Fact (a : Fact) : Nat := a.Values.length
theorem sz_Fact : Sz l_szFact tot_Fact wf106 := by
  intro a ⟨w_Rel, w_Values⟩ left hl hm
  unfold l_szFact
  have ht : tot_Fact a = a.Values.length := rfl
  obtain ⟨n1, e1, h1⟩ := sz_IntS a.Values w_Values _ hl hm
  rw [e1, Option.bind_some]
  try dsimp only at h1
  rcases h1 with ⟨rfl, p1⟩ | p1
  rotate_left
  · rw [if_pos (by simpa using p1)]; exact ⟨-1, rfl, .inr (by omega)⟩
  rw [if_neg (by simp only [decide_eq_true_eq]; omega)]
  exact ⟨_, rfl, .inl ⟨by rw [ht] <;> omega, p1⟩⟩
theorem sz_FactS : Sz l_szFactS (totL tot_Fact) (wfSl wf106) := sz_slice sz_Fact (fun _ _ => rfl) (fun _ _ _ _ => rfl) (fun _ _ => rfl)
def tot_Source (a : Source) : Nat := (totL tot_Fact) a.Facts
theorem sz_Source : Sz l_szSource tot_Source wf27 := by
  intro a ⟨w_Facts, w_Version⟩ left hl hm
  unfold l_szSource
  have ht : tot_Source a = (totL tot_Fact) a.Facts := rfl
  obtain ⟨n1, e1, h1⟩ := sz_FactS a.Facts w_Facts _ hl hm
  rw [e1, Option.bind_some]
  try dsimp only at h1
  rcases h1 with ⟨rfl, p1⟩ | p1
  rotate_left
  · rw [if_pos (by simpa using p1)]; exact ⟨-1, rfl, .inr (by omega)⟩
  rw [if_neg (by simp only [decide_eq_true_eq]; omega)]
  exact ⟨_, rfl, .inl ⟨by rw [ht] <;> omega, p1⟩⟩
def tot_Access (a : Access) : Nat := a.Values.length
theorem sz_Access : Sz l_szAccess tot_Access wf120 := by
  intro a ⟨w_Method, w_Values⟩ left hl hm
  unfold l_szAccess
  have ht : tot_Access a = a.Values.length := rfl
  obtain ⟨n1, e1, h1⟩ := sz_IntS a.Values w_Values _ hl hm
  rw [e1, Option.bind_some]
  try dsimp only at h1
  rcases h1 with ⟨rfl, p1⟩ | p1
  rotate_left
  · rw [if_pos (by simpa using p1)]; exact ⟨-1, rfl, .inr (by omega)⟩
  rw [if_neg (by simp only [decide_eq_true_eq]; omega)]
  exact ⟨_, rfl, .inl ⟨by rw [ht] <;> omega, p1⟩⟩
def tot_Stored (a : Stored) : Nat := tot_Access a.Access + (totL tot_Fact) a.Facts
theorem sz_Stored : Sz l_szStored tot_Stored wf184 := by
  intro a ⟨w_Access, w_Facts, w_At⟩ left hl hm
  unfold l_szStored
  have ht : tot_Stored a = tot_Access a.Access + (totL tot_Fact) a.Facts := rfl
  obtain ⟨n1, e1, h1⟩ := sz_Access a.Access w_Access _ hl hm
  rw [e1, Option.bind_some]
  try dsimp only at h1
  rcases h1 with ⟨rfl, p1⟩ | p1
  rotate_left
  · rw [if_pos (by simpa using p1)]; exact ⟨-1, rfl, .inr (by omega)⟩
  rw [if_neg (by simp only [decide_eq_true_eq]; omega)]
  obtain ⟨n2, e2, h2⟩ := sz_FactS a.Facts w_Facts _ p1 (by omega)
  rw [e2, Option.bind_some]
  try dsimp only at h2
  rcases h2 with ⟨rfl, p2⟩ | p2
  rotate_left
  · rw [if_pos (by simpa using p2)]; exact ⟨-1, rfl, .inr (by omega)⟩
  rw [if_neg (by simp only [decide_eq_true_eq]; omega)]
  exact ⟨_, rfl, .inl ⟨by rw [ht] <;> omega, p2⟩⟩
theorem sz_StoredS : Sz l_szStoredS (totL tot_Stored) (wfSl wf184) := sz_slice sz_Stored (fun _ _ => rfl) (fun _ _ _ _ => rfl) (fun _ _ => rfl)
def tot_Cache (a : Cache) : Nat := (totL tot_Stored) a.Entries
theorem sz_Cache : Sz l_szCache tot_Cache wf30 := by
  intro a ⟨w_Entries, w_Age⟩ left hl hm
  unfold l_szCache
  have ht : tot_Cache a = (totL tot_Stored) a.Entries := rfl
  obtain ⟨n1, e1, h1⟩ := sz_StoredS a.Entries w_Entries _ hl hm
  rw [e1, Option.bind_some]
  try dsimp only at h1
  rcases h1 with ⟨rfl, p1⟩ | p1
  rotate_left
  · rw [if_pos (by simpa using p1)]; exact ⟨-1, rfl, .inr (by omega)⟩
  rw [if_neg (by simp only [decide_eq_true_eq]; omega)]
  exact ⟨_, rfl, .inl ⟨by rw [ht] <;> omega, p1⟩⟩
theorem sz_AccessS : Sz l_szAccessS (totL tot_Access) (wfSl wf120) := sz_slice sz_Access (fun _ _ => rfl) (fun _ _ _ _ => rfl) (fun _ _ => rfl)
theorem sz_IntSS : Sz l_szIntSS (totL (fun a : List Int => a.length)) (wfSl (wfSl wfInt)) := sz_slice sz_IntS (fun _ _ => rfl) (fun _ _ _ _ => rfl) (fun _ _ => rfl)
theorem sz_IntSSS : Sz l_szIntSSS (totL (totL (fun a : List Int => a.length))) (wfSl (wfSl (wfSl wfInt))) := sz_slice sz_IntSS (fun _ _ => rfl) (fun _ _ _ _ => rfl) (fun _ _ => rfl)
def tot_Mediator (a : Mediator) : Nat := a.Schema.length + (totL tot_Method) a.Methods + (totL tot_Rule) a.Rules + tot_Source a.Source + tot_Cache a.Cache + (totL tot_Access) a.Log + a.Times.length + (totL (totL (fun a : List Int => a.length))) a.Results
theorem sz_Mediator : Sz l_szMediator tot_Mediator wf34 := by
  intro a ⟨w_Schema, w_Methods, w_Rules, w_Source, w_Cache, w_Now, w_Log, w_Times, w_Spent, w_Results⟩ left hl hm
  unfold l_szMediator
  have ht : tot_Mediator a = a.Schema.length + (totL tot_Method) a.Methods + (totL tot_Rule) a.Rules + tot_Source a.Source + tot_Cache a.Cache + (totL tot_Access) a.Log + a.Times.length + (totL (totL (fun a : List Int => a.length))) a.Results := rfl
  obtain ⟨n1, e1, h1⟩ := sz_IntS a.Schema w_Schema _ hl hm
  rw [e1, Option.bind_some]
  try dsimp only at h1
  rcases h1 with ⟨rfl, p1⟩ | p1
  rotate_left
  · rw [if_pos (by simpa using p1)]; exact ⟨-1, rfl, .inr (by omega)⟩
  rw [if_neg (by simp only [decide_eq_true_eq]; omega)]
  obtain ⟨n2, e2, h2⟩ := sz_MethodS a.Methods w_Methods _ p1 (by omega)
  rw [e2, Option.bind_some]
  try dsimp only at h2
  rcases h2 with ⟨rfl, p2⟩ | p2
  rotate_left
  · rw [if_pos (by simpa using p2)]; exact ⟨-1, rfl, .inr (by omega)⟩
  rw [if_neg (by simp only [decide_eq_true_eq]; omega)]
  obtain ⟨n3, e3, h3⟩ := sz_RuleS a.Rules w_Rules _ p2 (by omega)
  rw [e3, Option.bind_some]
  try dsimp only at h3
  rcases h3 with ⟨rfl, p3⟩ | p3
  rotate_left
  · rw [if_pos (by simpa using p3)]; exact ⟨-1, rfl, .inr (by omega)⟩
  rw [if_neg (by simp only [decide_eq_true_eq]; omega)]
  obtain ⟨n4, e4, h4⟩ := sz_Source a.Source w_Source _ p3 (by omega)
  rw [e4, Option.bind_some]
  try dsimp only at h4
  rcases h4 with ⟨rfl, p4⟩ | p4
  rotate_left
  · rw [if_pos (by simpa using p4)]; exact ⟨-1, rfl, .inr (by omega)⟩
  rw [if_neg (by simp only [decide_eq_true_eq]; omega)]
  obtain ⟨n5, e5, h5⟩ := sz_Cache a.Cache w_Cache _ p4 (by omega)
  rw [e5, Option.bind_some]
  try dsimp only at h5
  rcases h5 with ⟨rfl, p5⟩ | p5
  rotate_left
  · rw [if_pos (by simpa using p5)]; exact ⟨-1, rfl, .inr (by omega)⟩
  rw [if_neg (by simp only [decide_eq_true_eq]; omega)]
  obtain ⟨n6, e6, h6⟩ := sz_AccessS a.Log w_Log _ p5 (by omega)
  rw [e6, Option.bind_some]
  try dsimp only at h6
  rcases h6 with ⟨rfl, p6⟩ | p6
  rotate_left
  · rw [if_pos (by simpa using p6)]; exact ⟨-1, rfl, .inr (by omega)⟩
  rw [if_neg (by simp only [decide_eq_true_eq]; omega)]
  obtain ⟨n7, e7, h7⟩ := sz_IntS a.Times w_Times _ p6 (by omega)
  rw [e7, Option.bind_some]
  try dsimp only at h7
  rcases h7 with ⟨rfl, p7⟩ | p7
  rotate_left
  · rw [if_pos (by simpa using p7)]; exact ⟨-1, rfl, .inr (by omega)⟩
  rw [if_neg (by simp only [decide_eq_true_eq]; omega)]
  obtain ⟨n8, e8, h8⟩ := sz_IntSSS a.Results w_Results _ p7 (by omega)
  rw [e8, Option.bind_some]
  try dsimp only at h8
  rcases h8 with ⟨rfl, p8⟩ | p8
  rotate_left
  · rw [if_pos (by simpa using p8)]; exact ⟨-1, rfl, .inr (by omega)⟩
  rw [if_neg (by simp only [decide_eq_true_eq]; omega)]
  exact ⟨_, rfl, .inl ⟨by rw [ht] <;> omega, p8⟩⟩
theorem to_IntS : ∀ (a : List Int), (bdL bdAny) a → l_toIntS a = some a :=
  to_slice (fun _ => rfl) (fun _ _ => rfl) (fun x r k c hx hk => by
    rw [l_toIntS_L1]
    simp [chk, hk])
def bd_Method (a : Method) : Prop := (bdL bdAny) a.Inputs
theorem to_Method (a : Method) (h : bd_Method a) : l_toMethod a = some a := by
  have b_a_Inputs : (bdL bdAny) a.Inputs := h
  simp (disch := assumption) only [l_toMethod, to_IntS, Option.bind_some]
theorem to_MethodS : ∀ (a : List Method), (bdL bd_Method) a → l_toMethodS a = some a :=
  to_slice (fun _ => rfl) (fun _ _ => rfl) (fun x r k c hx hk => by
    rw [l_toMethodS_L1]
    rw [to_Method _ hx]
    simp [chk, hk])
def bd_Rule (a : Rule) : Prop := (bdL bdAny) a.Map
theorem to_Rule (a : Rule) (h : bd_Rule a) : l_toRule a = some a := by
  have b_a_Map : (bdL bdAny) a.Map := h
  simp (disch := assumption) only [l_toRule, to_IntS, Option.bind_some]
theorem to_RuleS : ∀ (a : List Rule), (bdL bd_Rule) a → l_toRuleS a = some a :=
  to_slice (fun _ => rfl) (fun _ _ => rfl) (fun x r k c hx hk => by
    rw [l_toRuleS_L1]
    rw [to_Rule _ hx]
    simp [chk, hk])
theorem to_Fact (a : Fact) (h : bd_Fact a) : l_toFact a = some a := by
  have b_a_Values : (bdL bdAny) a.Values := h
  simp (disch := assumption) only [l_toFact, to_IntS, Option.bind_some]
theorem to_FactS : ∀ (a : List Fact), (bdL bd_Fact) a → l_toFactS a = some a :=
  to_slice (fun _ => rfl) (fun _ _ => rfl) (fun x r k c hx hk => by
    rw [l_toFactS_L1]
    rw [to_Fact _ hx]
    simp [chk, hk])
def bd_Source (a : Source) : Prop := (bdL bd_Fact) a.Facts
theorem to_Source (a : Source) (h : bd_Source a) : l_toSource a = some a := by
  have b_a_Facts : (bdL bd_Fact) a.Facts := h
  simp (disch := assumption) only [l_toSource, to_FactS, Option.bind_some]
theorem to_Access (a : Access) (h : bd_Access a) : l_toAccess a = some a := by
  have b_a_Values : (bdL bdAny) a.Values := h
  simp (disch := assumption) only [l_toAccess, to_IntS, Option.bind_some]
def bd_Stored (a : Stored) : Prop := bd_Access a.Access ∧ (bdL bd_Fact) a.Facts
theorem to_Stored (a : Stored) (h : bd_Stored a) : l_toStored a = some a := by
  have b_a_Access : bd_Access a.Access := h.1
  have b_a_Access_Values : (bdL bdAny) a.Access.Values := b_a_Access
  have b_a_Facts : (bdL bd_Fact) a.Facts := h.2
  simp (disch := assumption) only [l_toStored, to_Access, to_FactS, Option.bind_some]
theorem to_StoredS : ∀ (a : List Stored), (bdL bd_Stored) a → l_toStoredS a = some a :=
  to_slice (fun _ => rfl) (fun _ _ => rfl) (fun x r k c hx hk => by
    rw [l_toStoredS_L1]
    rw [to_Stored _ hx]
    simp [chk, hk])
def bd_Cache (a : Cache) : Prop := (bdL bd_Stored) a.Entries
theorem to_Cache (a : Cache) (h : bd_Cache a) : l_toCache a = some a := by
  have b_a_Entries : (bdL bd_Stored) a.Entries := h
  simp (disch := assumption) only [l_toCache, to_StoredS, Option.bind_some]
theorem to_AccessS : ∀ (a : List Access), (bdL bd_Access) a → l_toAccessS a = some a :=
  to_slice (fun _ => rfl) (fun _ _ => rfl) (fun x r k c hx hk => by
    rw [l_toAccessS_L1]
    rw [to_Access _ hx]
    simp [chk, hk])
theorem to_IntSS : ∀ (a : List (List Int)), (bdL (bdL bdAny)) a → l_toIntSS a = some a :=
  to_slice (fun _ => rfl) (fun _ _ => rfl) (fun x r k c hx hk => by
    rw [l_toIntSS_L1]
    rw [to_IntS _ hx]
    simp [chk, hk])
theorem to_IntSSS : ∀ (a : List (List (List Int))), (bdL (bdL (bdL bdAny))) a → l_toIntSSS a = some a :=
  to_slice (fun _ => rfl) (fun _ _ => rfl) (fun x r k c hx hk => by
    rw [l_toIntSSS_L1]
    rw [to_IntSS _ hx]
    simp [chk, hk])
def bd_Mediator (a : Mediator) : Prop := (bdL bdAny) a.Schema ∧ (bdL bd_Method) a.Methods ∧ (bdL bd_Rule) a.Rules ∧ bd_Source a.Source ∧ bd_Cache a.Cache ∧ (bdL bd_Access) a.Log ∧ (bdL bdAny) a.Times ∧ (bdL (bdL (bdL bdAny))) a.Results
theorem to_Mediator (a : Mediator) (h : bd_Mediator a) : l_toMediator a = some a := by
  have b_a_Schema : (bdL bdAny) a.Schema := h.1
  have b_a_Methods : (bdL bd_Method) a.Methods := h.2.1
  have b_a_Rules : (bdL bd_Rule) a.Rules := h.2.2.1
  have b_a_Source : bd_Source a.Source := h.2.2.2.1
  have b_a_Source_Facts : (bdL bd_Fact) a.Source.Facts := b_a_Source
  have b_a_Cache : bd_Cache a.Cache := h.2.2.2.2.1
  have b_a_Cache_Entries : (bdL bd_Stored) a.Cache.Entries := b_a_Cache
  have b_a_Log : (bdL bd_Access) a.Log := h.2.2.2.2.2.1
  have b_a_Times : (bdL bdAny) a.Times := h.2.2.2.2.2.2.1
  have b_a_Results : (bdL (bdL (bdL bdAny))) a.Results := h.2.2.2.2.2.2.2
  simp (disch := assumption) only [l_toMediator, to_AccessS, to_Cache, to_IntS, to_IntSSS, to_MethodS, to_RuleS, to_Source, Option.bind_some]
theorem eq_StringS : ∀ (a : List (List UInt8)), l_eqStringS a a = some true :=
  eq_slice (fun _ _ => rfl) (fun _ _ => rfl) (fun b x r k h => by
    rw [l_eqStringS_L1, ix_nat, h]
    simp)
theorem eq_IntS : ∀ (a : List Int), l_eqIntS a a = some true :=
  eq_slice (fun _ _ => rfl) (fun _ _ => rfl) (fun b x r k h => by
    rw [l_eqIntS_L1, ix_nat, h]
    simp)
theorem eq_Method (a : Method) : l_eqMethod a a = some true := by simp [l_eqMethod, eq_IntS]
theorem eq_MethodS : ∀ (a : List Method), l_eqMethodS a a = some true :=
  eq_slice (fun _ _ => rfl) (fun _ _ => rfl) (fun b x r k h => by
    rw [l_eqMethodS_L1, ix_nat, h]
    simp [eq_Method])
theorem eq_Rule (a : Rule) : l_eqRule a a = some true := by simp [l_eqRule, eq_IntS]
theorem eq_RuleS : ∀ (a : List Rule), l_eqRuleS a a = some true :=
  eq_slice (fun _ _ => rfl) (fun _ _ => rfl) (fun b x r k h => by
    rw [l_eqRuleS_L1, ix_nat, h]
    simp [eq_Rule])
theorem eq_Fact (a : Fact) : l_eqFact a a = some true := by simp [l_eqFact, eq_IntS]
theorem eq_FactS : ∀ (a : List Fact), l_eqFactS a a = some true :=
  eq_slice (fun _ _ => rfl) (fun _ _ => rfl) (fun b x r k h => by
    rw [l_eqFactS_L1, ix_nat, h]
    simp [eq_Fact])
theorem eq_Source (a : Source) : l_eqSource a a = some true := by simp [l_eqSource, eq_FactS]
theorem eq_Access (a : Access) : l_eqAccess a a = some true := by simp [l_eqAccess, eq_IntS]
theorem eq_Stored (a : Stored) : l_eqStored a a = some true := by simp [l_eqStored, eq_Access, eq_FactS]
theorem eq_StoredS : ∀ (a : List Stored), l_eqStoredS a a = some true :=
  eq_slice (fun _ _ => rfl) (fun _ _ => rfl) (fun b x r k h => by
    rw [l_eqStoredS_L1, ix_nat, h]
    simp [eq_Stored])
theorem eq_Cache (a : Cache) : l_eqCache a a = some true := by simp [l_eqCache, eq_StoredS]
theorem eq_AccessS : ∀ (a : List Access), l_eqAccessS a a = some true :=
  eq_slice (fun _ _ => rfl) (fun _ _ => rfl) (fun b x r k h => by
    rw [l_eqAccessS_L1, ix_nat, h]
    simp [eq_Access])
theorem eq_IntSS : ∀ (a : List (List Int)), l_eqIntSS a a = some true :=
  eq_slice (fun _ _ => rfl) (fun _ _ => rfl) (fun b x r k h => by
    rw [l_eqIntSS_L1, ix_nat, h]
    simp [eq_IntS])
theorem eq_IntSSS : ∀ (a : List (List (List Int))), l_eqIntSSS a a = some true :=
  eq_slice (fun _ _ => rfl) (fun _ _ => rfl) (fun b x r k h => by
    rw [l_eqIntSSS_L1, ix_nat, h]
    simp [eq_IntSS])
theorem eq_Mediator (a : Mediator) : l_eqMediator a a = some true := by simp [l_eqMediator, eq_AccessS, eq_Cache, eq_IntS, eq_IntSSS, eq_MethodS, eq_RuleS, eq_Source]
theorem mark_IntS : ∀ (a : List Int) (k : Int), (bdL bdAny) a → 0 ≤ k → k + (msL (fun _ => 1) a : Int) < 4611686018427387904 → l_markIntS a k = some (k + msL (fun _ => 1) a, mkL (fun _ k => k) (fun _ => 1) k a) :=
  mark_slice (fun _ _ => rfl) (fun m c k j h => by rw [l_markIntS_L1, if_neg (by simp; omega)]) (fun m c k j x e hl hj hp hk hm => by
    rw [l_markIntS_L1, if_pos (by simp; omega)]
    simp (disch := first | omega | assumption | (simp only [List.length_set]; omega)) only [chk_true (show (decide (0 ≤ (j : Int)) && decide ((j : Int) < (c.length : Int))) = true by simp; omega), wrap_in, Int.toNat_natCast, Option.bind_some, Int.natCast_add, Int.cast_ofNat_Int])
def meN_Method (a : Method) : Nat := 1 + msL (fun _ => 1) a.Inputs + 1 + 1 + 1
def meK_Method (a : Method) (k : Int) : Method := { Rel := k, Inputs := mkL (fun _ k => k) (fun _ => 1) (k + 1) a.Inputs, Limit := k + 1 + msL (fun _ => 1) a.Inputs, Cost := k + 1 + msL (fun _ => 1) a.Inputs + 1, Quota := k + 1 + msL (fun _ => 1) a.Inputs + 1 + 1 }
theorem mark_MethodS : ∀ (a : List Method) (k : Int), (bdL bd_Method) a → 0 ≤ k → k + (msL meN_Method a : Int) < 4611686018427387904 → l_markMethodS a k = some (k + msL meN_Method a, mkL meK_Method meN_Method k a) :=
  mark_slice (fun _ _ => rfl) (fun m c k j h => by rw [l_markMethodS_L1, if_neg (by simp; omega)]) (fun m c k j x e hl hj hp hk hm => by
    have e' : ix c (j : Int) = some x := by rw [ix_nat, e]
    have b_x_Inputs : (bdL bdAny) x.Inputs := hp
    simp only [meN_Method, Int.natCast_add, Int.cast_ofNat_Int] at hm ⊢
    rw [l_markMethodS_L1, if_pos (by simp; omega)]
    simp (disch := first | omega | assumption | (simp only [List.length_set]; omega)) only [e', mark_IntS, meK_Method, ix_at, List.set_set, wrap_in, Int.toNat_natCast, Option.bind_some, Int.add_assoc])
def meN_Rule (a : Rule) : Nat := 1 + 1 + msL (fun _ => 1) a.Map
def meK_Rule (a : Rule) (k : Int) : Rule := { From := k, To := k + 1, Map := mkL (fun _ k => k) (fun _ => 1) (k + 1 + 1) a.Map }
theorem mark_RuleS : ∀ (a : List Rule) (k : Int), (bdL bd_Rule) a → 0 ≤ k → k + (msL meN_Rule a : Int) < 4611686018427387904 → l_markRuleS a k = some (k + msL meN_Rule a, mkL meK_Rule meN_Rule k a) :=
  mark_slice (fun _ _ => rfl) (fun m c k j h => by rw [l_markRuleS_L1, if_neg (by simp; omega)]) (fun m c k j x e hl hj hp hk hm => by
    have e' : ix c (j : Int) = some x := by rw [ix_nat, e]
    have b_x_Map : (bdL bdAny) x.Map := hp
    simp only [meN_Rule, Int.natCast_add, Int.cast_ofNat_Int] at hm ⊢
    rw [l_markRuleS_L1, if_pos (by simp; omega)]
    simp (disch := first | omega | assumption | (simp only [List.length_set]; omega)) only [e', mark_IntS, meK_Rule, ix_at, List.set_set, wrap_in, Int.toNat_natCast, Option.bind_some, Int.add_assoc])
def meN_Fact (a : Fact) : Nat := 1 + msL (fun _ => 1) a.Values
def meK_Fact (a : Fact) (k : Int) : Fact := { Rel := k, Values := mkL (fun _ k => k) (fun _ => 1) (k + 1) a.Values }
theorem mark_FactS : ∀ (a : List Fact) (k : Int), (bdL bd_Fact) a → 0 ≤ k → k + (msL meN_Fact a : Int) < 4611686018427387904 → l_markFactS a k = some (k + msL meN_Fact a, mkL meK_Fact meN_Fact k a) :=
  mark_slice (fun _ _ => rfl) (fun m c k j h => by rw [l_markFactS_L1, if_neg (by simp; omega)]) (fun m c k j x e hl hj hp hk hm => by
    have e' : ix c (j : Int) = some x := by rw [ix_nat, e]
    have b_x_Values : (bdL bdAny) x.Values := hp
    simp only [meN_Fact, Int.natCast_add, Int.cast_ofNat_Int] at hm ⊢
    rw [l_markFactS_L1, if_pos (by simp; omega)]
    simp (disch := first | omega | assumption | (simp only [List.length_set]; omega)) only [e', mark_IntS, meK_Fact, ix_at, List.set_set, wrap_in, Int.toNat_natCast, Option.bind_some, Int.add_assoc])
def mtN_Source (a : Source) : Nat := msL meN_Fact a.Facts
def mtK_Source (a : Source) (k : Int) : Source := { Facts := mkL meK_Fact meN_Fact (k) a.Facts, Version := a.Version }
theorem mark_Source (a : Source) (k : Int) (h : bd_Source a) (hk : 0 ≤ k) (hm : k + (mtN_Source a : Int) < 4611686018427387904) : l_markSource a k = some (k + mtN_Source a, mtK_Source a k) := by
  have b_a_Facts : (bdL bd_Fact) a.Facts := h
  simp only [mtN_Source] at hm ⊢
  simp (disch := first | omega | assumption | (simp only [mtN_Source, Int.natCast_add, Int.cast_ofNat_Int]; omega)) only [l_markSource, mtK_Source, mark_FactS, Option.bind_some]
def meN_Access (a : Access) : Nat := 1 + msL (fun _ => 1) a.Values
def meK_Access (a : Access) (k : Int) : Access := { Method := k, Values := mkL (fun _ k => k) (fun _ => 1) (k + 1) a.Values }
def meN_Stored (a : Stored) : Nat := meN_Access a.Access + msL meN_Fact a.Facts + 1
def meK_Stored (a : Stored) (k : Int) : Stored := { Access := meK_Access a.Access (k), Facts := mkL meK_Fact meN_Fact (k + meN_Access a.Access) a.Facts, At := k + meN_Access a.Access + msL meN_Fact a.Facts }
theorem mark_StoredS : ∀ (a : List Stored) (k : Int), (bdL bd_Stored) a → 0 ≤ k → k + (msL meN_Stored a : Int) < 4611686018427387904 → l_markStoredS a k = some (k + msL meN_Stored a, mkL meK_Stored meN_Stored k a) :=
  mark_slice (fun _ _ => rfl) (fun m c k j h => by rw [l_markStoredS_L1, if_neg (by simp; omega)]) (fun m c k j x e hl hj hp hk hm => by
    have e' : ix c (j : Int) = some x := by rw [ix_nat, e]
    have b_x_Access : bd_Access x.Access := hp.1
    have b_x_Access_Values : (bdL bdAny) x.Access.Values := b_x_Access
    have b_x_Facts : (bdL bd_Fact) x.Facts := hp.2
    simp only [meN_Access, meN_Stored, Int.natCast_add, Int.cast_ofNat_Int] at hm ⊢
    rw [l_markStoredS_L1, if_pos (by simp; omega)]
    simp (disch := first | omega | assumption | (simp only [List.length_set]; omega)) only [e', mark_FactS, mark_IntS, meK_Access, meK_Stored, meN_Access, ix_at, List.set_set, wrap_in, Int.toNat_natCast, Option.bind_some, Int.natCast_add, Int.cast_ofNat_Int, Int.add_assoc])
def mtN_Cache (a : Cache) : Nat := msL meN_Stored a.Entries
def mtK_Cache (a : Cache) (k : Int) : Cache := { Entries := mkL meK_Stored meN_Stored (k) a.Entries, Age := a.Age }
theorem mark_Cache (a : Cache) (k : Int) (h : bd_Cache a) (hk : 0 ≤ k) (hm : k + (mtN_Cache a : Int) < 4611686018427387904) : l_markCache a k = some (k + mtN_Cache a, mtK_Cache a k) := by
  have b_a_Entries : (bdL bd_Stored) a.Entries := h
  simp only [mtN_Cache] at hm ⊢
  simp (disch := first | omega | assumption | (simp only [mtN_Cache, Int.natCast_add, Int.cast_ofNat_Int]; omega)) only [l_markCache, mtK_Cache, mark_StoredS, Option.bind_some]
theorem mark_AccessS : ∀ (a : List Access) (k : Int), (bdL bd_Access) a → 0 ≤ k → k + (msL meN_Access a : Int) < 4611686018427387904 → l_markAccessS a k = some (k + msL meN_Access a, mkL meK_Access meN_Access k a) :=
  mark_slice (fun _ _ => rfl) (fun m c k j h => by rw [l_markAccessS_L1, if_neg (by simp; omega)]) (fun m c k j x e hl hj hp hk hm => by
    have e' : ix c (j : Int) = some x := by rw [ix_nat, e]
    have b_x_Values : (bdL bdAny) x.Values := hp
    simp only [meN_Access, Int.natCast_add, Int.cast_ofNat_Int] at hm ⊢
    rw [l_markAccessS_L1, if_pos (by simp; omega)]
    simp (disch := first | omega | assumption | (simp only [List.length_set]; omega)) only [e', mark_IntS, meK_Access, ix_at, List.set_set, wrap_in, Int.toNat_natCast, Option.bind_some, Int.add_assoc])
theorem mark_IntSS : ∀ (a : List (List Int)) (k : Int), (bdL (bdL bdAny)) a → 0 ≤ k → k + (msL (msL (fun _ => 1)) a : Int) < 4611686018427387904 → l_markIntSS a k = some (k + msL (msL (fun _ => 1)) a, mkL (fun l k => mkL (fun _ k => k) (fun _ => 1) k l) (msL (fun _ => 1)) k a) :=
  mark_slice (fun _ _ => rfl) (fun m c k j h => by rw [l_markIntSS_L1, if_neg (by simp; omega)]) (fun m c k j x e hl hj hp hk hm => by
    have e' : ix c (j : Int) = some x := by rw [ix_nat, e]
    rw [l_markIntSS_L1, if_pos (by simp; omega)]
    simp (disch := first | omega | assumption | (simp only [List.length_set]; omega)) only [e', mark_IntS, wrap_in, Int.toNat_natCast, Option.bind_some, Int.natCast_add, Int.cast_ofNat_Int])
theorem mark_IntSSS : ∀ (a : List (List (List Int))) (k : Int), (bdL (bdL (bdL bdAny))) a → 0 ≤ k → k + (msL (msL (msL (fun _ => 1))) a : Int) < 4611686018427387904 → l_markIntSSS a k = some (k + msL (msL (msL (fun _ => 1))) a, mkL (fun l k => mkL (fun l k => mkL (fun _ k => k) (fun _ => 1) k l) (msL (fun _ => 1)) k l) (msL (msL (fun _ => 1))) k a) :=
  mark_slice (fun _ _ => rfl) (fun m c k j h => by rw [l_markIntSSS_L1, if_neg (by simp; omega)]) (fun m c k j x e hl hj hp hk hm => by
    have e' : ix c (j : Int) = some x := by rw [ix_nat, e]
    rw [l_markIntSSS_L1, if_pos (by simp; omega)]
    simp (disch := first | omega | assumption | (simp only [List.length_set]; omega)) only [e', mark_IntSS, wrap_in, Int.toNat_natCast, Option.bind_some, Int.natCast_add, Int.cast_ofNat_Int])
def mtN_Mediator (a : Mediator) : Nat := msL (fun _ => 1) a.Schema + msL meN_Method a.Methods + msL meN_Rule a.Rules + mtN_Source a.Source + mtN_Cache a.Cache + msL meN_Access a.Log + msL (fun _ => 1) a.Times + msL (msL (msL (fun _ => 1))) a.Results
def mtK_Mediator (a : Mediator) (k : Int) : Mediator := { Schema := mkL (fun _ k => k) (fun _ => 1) (k) a.Schema, Methods := mkL meK_Method meN_Method (k + msL (fun _ => 1) a.Schema) a.Methods, Rules := mkL meK_Rule meN_Rule (k + msL (fun _ => 1) a.Schema + msL meN_Method a.Methods) a.Rules, Source := mtK_Source a.Source (k + msL (fun _ => 1) a.Schema + msL meN_Method a.Methods + msL meN_Rule a.Rules), Cache := mtK_Cache a.Cache (k + msL (fun _ => 1) a.Schema + msL meN_Method a.Methods + msL meN_Rule a.Rules + mtN_Source a.Source), Now := a.Now, Log := mkL meK_Access meN_Access (k + msL (fun _ => 1) a.Schema + msL meN_Method a.Methods + msL meN_Rule a.Rules + mtN_Source a.Source + mtN_Cache a.Cache) a.Log, Times := mkL (fun _ k => k) (fun _ => 1) (k + msL (fun _ => 1) a.Schema + msL meN_Method a.Methods + msL meN_Rule a.Rules + mtN_Source a.Source + mtN_Cache a.Cache + msL meN_Access a.Log) a.Times, Spent := a.Spent, Results := mkL (fun l k => mkL (fun l k => mkL (fun _ k => k) (fun _ => 1) k l) (msL (fun _ => 1)) k l) (msL (msL (fun _ => 1))) (k + msL (fun _ => 1) a.Schema + msL meN_Method a.Methods + msL meN_Rule a.Rules + mtN_Source a.Source + mtN_Cache a.Cache + msL meN_Access a.Log + msL (fun _ => 1) a.Times) a.Results }
theorem mark_Mediator (a : Mediator) (k : Int) (h : bd_Mediator a) (hk : 0 ≤ k) (hm : k + (mtN_Mediator a : Int) < 4611686018427387904) : l_markMediator a k = some (k + mtN_Mediator a, mtK_Mediator a k) := by
  have b_a_Schema : (bdL bdAny) a.Schema := h.1
  have b_a_Methods : (bdL bd_Method) a.Methods := h.2.1
  have b_a_Rules : (bdL bd_Rule) a.Rules := h.2.2.1
  have b_a_Source : bd_Source a.Source := h.2.2.2.1
  have b_a_Source_Facts : (bdL bd_Fact) a.Source.Facts := b_a_Source
  have b_a_Cache : bd_Cache a.Cache := h.2.2.2.2.1
  have b_a_Cache_Entries : (bdL bd_Stored) a.Cache.Entries := b_a_Cache
  have b_a_Log : (bdL bd_Access) a.Log := h.2.2.2.2.2.1
  have b_a_Times : (bdL bdAny) a.Times := h.2.2.2.2.2.2.1
  have b_a_Results : (bdL (bdL (bdL bdAny))) a.Results := h.2.2.2.2.2.2.2
  simp only [mtN_Cache, mtN_Mediator, mtN_Source, Int.natCast_add] at hm ⊢
  simp (disch := first | omega | assumption | (simp only [mtN_Cache, mtN_Mediator, mtN_Source, Int.natCast_add, Int.cast_ofNat_Int]; omega)) only [l_markMediator, mtK_Cache, mtK_Mediator, mtK_Source, mtN_Cache, mtN_Source, mark_AccessS, mark_Cache, mark_IntS, mark_IntSSS, mark_MethodS, mark_RuleS, mark_Source, Option.bind_some, Int.add_assoc]
def mtx (k : Int) : List UInt8 := (l_markText k).getD []
theorem markText_L1 : ∀ (m d : Nat) (k : Int) (c : List UInt8), 0 ≤ k → k < 10 ^ d → k < m → c.length + d < 4294967296 → k < 4611686018427387904 → ∃ r, l_markText_L1 m k c = some r ∧ r.length ≤ c.length + d
  | 0, d, k, c, h0, _, hm, _, _ => by omega
  | m + 1, d, k, c, h0, hd, hm, hc, hk => by
    unfold l_markText_L1
    by_cases hz : 0 < k
    · obtain ⟨d, rfl⟩ : ∃ e, d = e + 1 := by
        cases d with
        | zero => simp at hd; omega
        | succ e => exact ⟨e, rfl⟩
      have hq : k.tdiv 10 = k / 10 := Int.tdiv_eq_ediv_of_nonneg h0
      have hw : IntKind.i64.wrap (k.tdiv 10) = k / 10 := by rw [hq]; exact wrap_in (by omega) (by omega)
      rw [if_pos (by simpa using hz), hw, show cat [(u8of (IntKind.i64.wrap (48 + (Int.tmod k 10))))] c = some ([(u8of (IntKind.i64.wrap (48 + (Int.tmod k 10))))] ++ c) from by unfold cat; rw [if_pos (by simp; omega)], Option.bind_some]
      obtain ⟨r, h1, h2⟩ := markText_L1 m d (k / 10) ([(u8of (IntKind.i64.wrap (48 + (Int.tmod k 10))))] ++ c) (by omega) (by rw [Int.pow_succ] at hd; omega) (by omega) (by simp; omega) (by omega)
      exact ⟨r, h1, by simp at h2; omega⟩
    · rw [if_neg (by simpa using hz)]
      exact ⟨c, rfl, by omega⟩
theorem mark_text (k : Int) (h0 : 0 ≤ k) (h : k < 4611686018427387904) : l_markText k = some (mtx k) := by
  have : ∃ r, l_markText k = some r := by
    unfold l_markText
    by_cases hz : k ≤ 0
    · rw [if_pos (by simpa using hz)]; exact ⟨_, rfl⟩
    · obtain ⟨r, h1, h2⟩ := markText_L1 ((k - 0).toNat + 2) 19 k [] h0 (by omega) (by omega) (by simp) h
      rw [if_neg (by simpa using hz), h1, Option.bind_some]
      simp only [List.length_nil] at h2
      refine ⟨[109] ++ r, ?_⟩
      show (cat [109] r).bind _ = _
      unfold cat
      rw [if_pos (by simp; omega)]; rfl
  obtain ⟨r, hr⟩ := this
  rw [mtx, hr]; rfl
theorem mark_StringS : ∀ (a : List (List UInt8)) (k : Int), (bdL bdAny) a → 0 ≤ k → k + (msL (fun _ => 1) a : Int) < 4611686018427387904 → l_markStringS a k = some (k + msL (fun _ => 1) a, mkL (fun _ k => mtx k) (fun _ => 1) k a) :=
  mark_slice (fun _ _ => rfl) (fun m c k j h => by rw [l_markStringS_L1, if_neg (by simp; omega)]) (fun m c k j x e hl hj hp hk hm => by
    rw [l_markStringS_L1, if_pos (by simp; omega)]
    simp (disch := first | omega | assumption | (simp only [List.length_set]; omega)) only [chk_true (show (decide (0 ≤ (j : Int)) && decide ((j : Int) < (c.length : Int))) = true by simp; omega), mark_text, wrap_in, Int.toNat_natCast, Option.bind_some, Int.natCast_add, Int.cast_ofNat_Int])
theorem held_StringS : ∀ (a : List (List UInt8)) (k : Int), (bdL bdAny) a → 0 ≤ k → k + (msL (fun _ => 1) a : Int) < 4611686018427387904 → l_heldStringS (mkL (fun _ k => mtx k) (fun _ => 1) k a) k = some (k + msL (fun _ => 1) a) :=
  held_slice (fun _ _ => rfl) (fun _ _ => rfl) (fun x r n k hp hk hm => by
    simp (disch := first | omega | assumption) only [l_heldStringS_L1, Option.bind_some, mark_text, beq_self_eq_true, Bool.not_true, wrap_in, Bool.false_eq_true, if_false, Option.bind_some, Int.cast_ofNat_Int])
end Go.Proofs.YtekdaagipplhhaaGreatDoor

/-
  Plain laws.
-/
set_option maxRecDepth 100000
set_option linter.unusedVariables false
namespace Go.Proofs.YtekdaagipplhhaaGreatDoor
open Go Go.Fw

theorem g_cmp_Compare_int_eq (x y : Int) : g_cmp_Compare_int x y = some (cmpI x y) := by
  simp only [g_cmp_Compare_int, g_cmp_isNaN_int, Option.bind_some, cmpI, bne_self_eq_false, Bool.false_eq_true, if_false, decide_eq_true_eq]
  split
  · rfl
  · split <;> rfl
theorem g_slices_Compare_loop (s1 b : List Int) : ∀ (l : List Int) (k : Nat), s1.drop k = l → k ≤ s1.length → g_slices_Compare_int_int_L1 s1 b l k = some (cmpL l (b.drop k))
  | [], k, hd, hk => by
    have h1 : s1.length ≤ k := List.drop_eq_nil_iff.1 hd
    rw [g_slices_Compare_int_int_L1]
    cases hb : b.drop k with
    | nil =>
      have h2 : b.length ≤ k := List.drop_eq_nil_iff.1 hb
      rw [if_neg (by simp; omega)]; rfl
    | cons y t =>
      have h2 : k < b.length := (drop_cons hb).1
      rw [if_pos (by simp; omega)]; rfl
  | x :: r, k, hd, hk => by
    have h1 : k < s1.length := (drop_cons hd).1
    rw [g_slices_Compare_int_int_L1]
    cases hb : b.drop k with
    | nil =>
      have h2 : b.length ≤ k := List.drop_eq_nil_iff.1 hb
      rw [if_pos (by simp; omega)]; rfl
    | cons y t =>
      have h2 : k < b.length := (drop_cons hb).1
      obtain ⟨e1, e2⟩ := get_drop hb
      rw [if_neg (by simp; omega), ix_nat, e1, Option.bind_some, g_cmp_Compare_int_eq, Option.bind_some, cmpL]
      split
      · rfl
      · rw [g_slices_Compare_loop s1 b r (k + 1) (get_drop hd).2 h1, e2]
theorem g_slices_Compare_eq (a b : List Int) : g_slices_Compare_int_int a b = some (cmpL a b) := by
  have := g_slices_Compare_loop a b a 0 rfl (by omega)
  simpa [g_slices_Compare_int_int] using this
theorem g_cmp_Or2_eq (x y : Int) : g_cmp_Or_int [x, y] = some (if x != 0 then x else y) := by
  simp only [g_cmp_Or_int, g_cmp_Or_int_L1]
  split
  · rfl
  · split
    · rfl
    · rename_i h; simp at h; rw [h]
def pCmpFact (a b : Fact) : Int := if cmpI a.Rel b.Rel != 0 then cmpI a.Rel b.Rel else cmpL a.Values b.Values
theorem i_CompareFacts_eq (a b : Fact) : i_CompareFacts a b = some (pCmpFact a b) := by
  simp only [i_CompareFacts, g_cmp_Compare_int_eq, g_slices_Compare_eq, Option.bind_some, g_cmp_Or2_eq, pCmpFact]
theorem s_CompareFacts_loop (a b : Fact) (ha : a.Values.length < 4294967296) : ∀ (m k : Nat), k ≤ a.Values.length → k ≤ b.Values.length → a.Values.length < k + m → s_CompareFacts_L1 a b m k = some (cmpL (a.Values.drop k) (b.Values.drop k))
  | 0, k, h1, _, h2 => by omega
  | m + 1, k, h1, h1', h2 => by
    rw [s_CompareFacts_L1]
    by_cases h : k < a.Values.length ∧ k < b.Values.length
    · rw [if_pos (by simp [h.1, h.2])]
      simp only [ix_nat, List.getElem?_eq_getElem h.1, List.getElem?_eq_getElem h.2, Option.bind_some]
      rw [List.drop_eq_getElem_cons h.1, List.drop_eq_getElem_cons h.2, cmpL, cmpI]
      by_cases e1 : a.Values[k] < b.Values[k]
      · simp [e1]
      · rw [if_neg (by simpa using e1)]
        by_cases e2 : b.Values[k] < a.Values[k]
        · simp [e1, e2]
        · rw [if_neg (by simpa using e2), if_neg e1, if_neg e2, show ((k : Int) + 1) = ((k + 1 : Nat) : Int) from rfl, wrap_nat (by omega), s_CompareFacts_loop a b ha m (k + 1) h.1 h.2 (by omega)]
          simp
    · rw [if_neg (by simp only [Bool.and_eq_true, decide_eq_true_eq]; omega)]
      by_cases h3 : k < b.Values.length
      · have : k = a.Values.length := by omega
        subst this
        rw [if_pos (by simp; omega), List.drop_of_length_le (Nat.le_refl _), List.drop_eq_getElem_cons h3]; rfl
      · rw [List.drop_of_length_le (show b.Values.length ≤ k by omega), if_neg (by simp; omega)]
        by_cases h4 : k < a.Values.length
        · rw [if_pos (by simp; omega), List.drop_eq_getElem_cons h4]; rfl
        · rw [if_neg (by simp; omega), List.drop_of_length_le (by omega)]; rfl
theorem s_CompareFacts_eq (a b : Fact) (ha : a.Values.length < 4294967296) : s_CompareFacts a b = some (pCmpFact a b) := by
  unfold s_CompareFacts pCmpFact cmpI
  by_cases h : a.Rel = b.Rel
  · rw [if_neg (by simp [h])]
    have := s_CompareFacts_loop a b ha (((a.Values.length : Int) - 0).toNat + 2) 0 (by omega) (by omega) (by omega)
    rw [show s_CompareFacts_L1 a b (((a.Values.length : Int) - 0).toNat + 2) 0 = _ from this]
    simp [h]
  · rw [if_pos (by simpa using h)]
    by_cases h2 : a.Rel < b.Rel
    · simp [h2]
    · have : b.Rel < a.Rel := by omega
      simp [h2, this]
theorem g_slices_Clone_int_int_eq (a : List Int) (h : a.length < 4294967296) : g_slices_Clone_int_int a = some a := by simp [g_slices_Clone_int_int, app_nil h]
def in13 (n : Int) : Bool := decide (1 ≤ n) && decide (n ≤ 3)
def pSchema (s : List Int) : Bool := in13 (s.length : Int) && s.all in13
theorem s_IsSchema_eq (s : List Int) : s_IsSchema s = some (pSchema s) := by
  unfold s_IsSchema
  rw [all_loop (L := s_IsSchema_L1 s) (f := fun n => s_l1In n 1 3) (p := in13) (e := in13 (s.length : Int)) (fun k => by simp [s_IsSchema_L1, s_l1In, in13]) (fun x r k => rfl) s 0 (fun x _ => rfl), pSchema, Bool.and_comm]
theorem g_slices_ContainsFunc_int_int_iIsSchema1_eq (l : List Int) : g_slices_ContainsFunc_int_int_iIsSchema1 l = some (l.any fun x => !in13 x) := by
  unfold g_slices_ContainsFunc_int_int_iIsSchema1 g_slices_IndexFunc_int_int_iIsSchema1
  rw [index_loop (L := g_slices_IndexFunc_int_int_iIsSchema1_L1) (f := fun x => i_IsSchema_1 x) (p := fun x => !in13 x) (fun k => rfl) (fun x r k => rfl) l 0 (fun x hx => rfl), Option.bind_some, ixF_neg]
theorem i_IsSchema_eq (s : List Int) : i_IsSchema s = some (pSchema s) := by
  unfold i_IsSchema
  rw [g_slices_ContainsFunc_int_int_iIsSchema1_eq]
  simp only [i_within, Option.bind_some, pSchema, in13]
  cases hh : (decide (1 ≤ (s.length : Int)) && decide ((s.length : Int) ≤ 3))
  · simp
  · simp [List.all_eq_not_any_not, in13]
theorem pSchema_len {s : List Int} (h : pSchema s = true) : s.length ≤ 3 ∧ ∀ x ∈ s, 1 ≤ x ∧ x ≤ 3 := by
  simp [pSchema, in13] at h
  exact ⟨by omega, h.2⟩
theorem s_l1In_eq (x lo hi : Int) : s_l1In x lo hi = some (pIn lo hi x) := rfl
theorem i_within_eq (x lo hi : Int) : i_within x lo hi = some (pIn lo hi x) := rfl
def pHasRel (s : List Int) (rel : Int) : Bool := pSchema s && pIn 0 ((s.length : Int) - 1) rel
theorem i_hasRel_eq (s : List Int) (rel : Int) (hs : s.length < 4294967296) : i_hasRel s rel = some (pHasRel s rel) := by
  simp only [i_hasRel, i_IsSchema_eq, i_within_eq, Option.bind_some, pHasRel]
  rw [wrap_in (by omega) (by omega)]
  cases pSchema s <;> rfl
theorem pHasRel_ix {s : List Int} {rel : Int} (h : pHasRel s rel = true) : ∃ x, ix s rel = some x ∧ 1 ≤ x ∧ x ≤ 3 := by
  simp only [pHasRel, Bool.and_eq_true] at h
  obtain ⟨x, h1, h2⟩ := pIn_ix h.2
  exact ⟨x, h1, (pSchema_len h.1).2 x (List.mem_of_getElem? h2)⟩
def pAr (s : List Int) (rel : Int) : Int := (ix s rel).getD 0
theorem pAr_ix {s : List Int} {rel : Int} (h : pHasRel s rel = true) : ix s rel = some (pAr s rel) ∧ 1 ≤ pAr s rel ∧ pAr s rel ≤ 3 := by
  obtain ⟨x, h1, h2⟩ := pHasRel_ix h
  unfold pAr
  rw [h1]; exact ⟨rfl, h2⟩
def pMethod (s : List Int) (m : Method) : Bool := pHasRel s m.Rel && (pIn 0 9 m.Limit && (pIn 0 99 m.Cost && (pIn 1 99 m.Quota && (adjB (fun _ => true) (fun y x => decide (x ≤ y)) none m.Inputs && m.Inputs.all (pIn 0 (pAr s m.Rel - 1))))))
theorem s_IsMethod_eq (s : List Int) (m : Method) (hs : s.length < 4294967296) (hm : m.Inputs.length < 4294967296) : s_IsMethod s m = some (pMethod s m) := by
  simp only [s_IsMethod, s_IsSchema_eq, s_l1In_eq, Option.bind_some]
  rw [wrap_in (by omega) (by omega)]
  have hL : pHasRel s m.Rel = true → s_IsMethod_L1 s m m.Inputs 0 = some (adjB (pIn 0 (pAr s m.Rel - 1)) (fun y x => decide (x ≤ y)) none m.Inputs) := fun h => by
    obtain ⟨e1, e2, e3⟩ := pAr_ix h
    have := adj_loop (L := s_IsMethod_L1 s m) (P := fun _ => True) (p := pIn 0 (pAr s m.Rel - 1)) (q := fun y x => decide (x ≤ y)) (e := true) m.Inputs (fun _ _ => trivial) hm (fun _ => rfl) (fun x r _ => by
      rw [s_IsMethod_L1]
      simp only [e1, Option.bind_some, s_l1In_eq, dec_zero]
      rw [wrap_in (by omega) (by omega)]
      cases pIn 0 (pAr s m.Rel - 1) x <;> rfl) (fun x r k y _ _ hy hk => by
      rw [s_IsMethod_L1]
      simp only [e1, Option.bind_some, s_l1In_eq, dec_succ, ix_prev _ k hk, hy]
      rw [wrap_in (by omega) (by omega)]
      cases pIn 0 (pAr s m.Rel - 1) x <;> cases decide (x ≤ y) <;> rfl)
    simpa using this
  unfold pMethod
  cases hh : pHasRel s m.Rel
  · simp only [pHasRel] at hh
    cases h1 : pSchema s
    · rfl
    · rw [h1, Bool.true_and] at hh
      simp [hh]
  · rw [hL hh, adjB_and]
    simp only [pHasRel, Bool.and_eq_true] at hh
    rw [hh.1, hh.2]
    cases pIn 0 9 m.Limit
    · rfl
    cases pIn 0 99 m.Cost
    · rfl
    cases pIn 1 99 m.Quota <;> rfl
theorem i_ascending_eq (l : List Int) (hl : l.length < 4294967296) : i_ascending l = some (adjB (fun _ => true) (fun y x => decide (x ≤ y)) none l) := by
  have := adj_loop (L := i_ascending_L1 l) (P := fun _ => True) (p := fun _ => true) (q := fun y x => decide (x ≤ y)) (e := true) l (fun _ _ => trivial) hl (fun _ => rfl) (fun x r _ => rfl) (fun x r k y _ _ hy hk => by
      rw [i_ascending_L1]
      simp only [Option.bind_some, dec_succ, ix_prev _ k hk, hy, cond_true]
      cases decide (x ≤ y) <;> rfl)
  simpa [i_ascending] using this
theorem g_slices_ContainsFunc_int_int_iMethodfits1_eq (l : List Int) (a1 : Int) (h1 : -1000 ≤ a1 ∧ a1 ≤ 1000) : g_slices_ContainsFunc_int_int_iMethodfits1 l a1 = some (l.any fun x => !pIn 0 (a1 - 1) x) := by
  unfold g_slices_ContainsFunc_int_int_iMethodfits1 g_slices_IndexFunc_int_int_iMethodfits1
  rw [index_loop (L := g_slices_IndexFunc_int_int_iMethodfits1_L1 a1) (f := fun x => i_Method_fits_1 x a1) (p := fun x => !pIn 0 (a1 - 1) x) (fun k => rfl) (fun x r k => rfl) l 0 (fun x hx => by rw [i_Method_fits_1, i_within_eq, wrap_in (by omega) (by omega)]; rfl), Option.bind_some, ixF_neg]
theorem i_isCost_eq (n : Int) : i_isCost n = some (pIn 0 99 n) := rfl
theorem i_IsMethod_eq (s : List Int) (m : Method) (hs : s.length < 4294967296) (hm : m.Inputs.length < 4294967296) : i_IsMethod s m = some (pMethod s m) := by
  simp only [i_IsMethod, i_hasRel_eq _ _ hs, Option.bind_some, pMethod]
  cases hh : pHasRel s m.Rel
  · rfl
  obtain ⟨e1, e2, e3⟩ := pAr_ix hh
  simp only [e1, Option.bind_some, i_Method_fits, i_ascending_eq _ hm, g_slices_ContainsFunc_int_int_iMethodfits1_eq _ _ (show -1000 ≤ pAr s m.Rel ∧ pAr s m.Rel ≤ 1000 by omega), i_within_eq, i_isCost_eq, cond_true, Bool.true_and]
  have e4 : (m.Inputs.any fun x => !pIn 0 (pAr s m.Rel - 1) x) = !(m.Inputs.all (pIn 0 (pAr s m.Rel - 1))) := by simp [List.all_eq_not_any_not]
  rw [e4]
  cases adjB (fun _ => true) (fun y x => decide (x ≤ y)) none m.Inputs <;> cases m.Inputs.all (pIn 0 (pAr s m.Rel - 1)) <;> cases pIn 0 9 m.Limit <;> cases pIn 0 99 m.Cost <;> cases pIn 1 99 m.Quota <;> rfl
def pMethods (s : List Int) (l : List Method) : Bool := pSchema s && (decide ((l.length : Int) ≤ 5) && l.all (pMethod s))
theorem s_AreMethods_eq (s : List Int) (l : List Method) (hs : s.length < 4294967296) (hl : bdL bd_Method l) : s_AreMethods s l = some (pMethods s l) := by
  unfold s_AreMethods
  rw [all_loop (L := s_AreMethods_L1 s l) (f := fun m => s_IsMethod s m) (p := pMethod s) (e := pSchema s && decide ((l.length : Int) ≤ 5)) (fun k => by
    rw [s_AreMethods_L1, s_IsSchema_eq]
    cases pSchema s <;> rfl) (fun x r k => rfl) l 0 (fun x hx => s_IsMethod_eq s x hs (hl.2 x hx).1), pMethods]
  cases pSchema s <;> cases decide ((l.length : Int) ≤ 5) <;> cases l.all (pMethod s) <;> rfl
theorem g_slices_ContainsFunc_impl_Method_impl_Method_iAreMethods1_eq (l : List Method) (s : List Int) (hs : s.length < 4294967296) (hl : bdL bd_Method l) : g_slices_ContainsFunc_impl_Method_impl_Method_iAreMethods1 l s = some (l.any fun x => !pMethod s x) := by
  unfold g_slices_ContainsFunc_impl_Method_impl_Method_iAreMethods1 g_slices_IndexFunc_impl_Method_impl_Method_iAreMethods1
  rw [index_loop (L := g_slices_IndexFunc_impl_Method_impl_Method_iAreMethods1_L1 s) (f := fun x => i_AreMethods_1 x s) (p := fun x => !pMethod s x) (fun k => rfl) (fun x r k => rfl) l 0 (fun x hx => by rw [i_AreMethods_1, i_IsMethod_eq s x hs (hl.2 x hx).1]; rfl), Option.bind_some, ixF_neg]
theorem i_AreMethods_eq (s : List Int) (l : List Method) (hs : s.length < 4294967296) (hl : bdL bd_Method l) : i_AreMethods s l = some (pMethods s l) := by
  simp only [i_AreMethods, i_IsSchema_eq, Option.bind_some, g_slices_ContainsFunc_impl_Method_impl_Method_iAreMethods1_eq l s hs hl, pMethods, List.all_eq_not_any_not]
  cases pSchema s <;> cases decide ((l.length : Int) ≤ 5) <;> rfl
def pRule (s : List Int) (r : Rule) : Bool := pHasRel s r.From && (pHasRel s r.To && (((r.Map.length : Int) == pAr s r.To) && r.Map.all (pIn 0 (pAr s r.From - 1))))
theorem s_IsRule_eq (s : List Int) (r : Rule) (hs : s.length < 4294967296) : s_IsRule s r = some (pRule s r) := by
  simp only [s_IsRule, s_IsSchema_eq, s_l1In_eq, Option.bind_some]
  rw [wrap_in (by omega) (by omega)]
  have hL : pHasRel s r.From = true → s_IsRule_L1 s r r.Map 0 = some (r.Map.all (pIn 0 (pAr s r.From - 1))) := fun h => by
    obtain ⟨e1, e2, e3⟩ := pAr_ix h
    have := all_loop (L := s_IsRule_L1 s r) (f := fun x => some (pIn 0 (pAr s r.From - 1) x)) (p := pIn 0 (pAr s r.From - 1)) (e := true) (fun _ => rfl) (fun x r' k => by
      rw [s_IsRule_L1]
      simp only [e1, Option.bind_some, s_l1In_eq]
      rw [wrap_in (by omega) (by omega)]) r.Map 0 (fun _ _ => rfl)
    simpa using this
  unfold pRule
  cases hF : pHasRel s r.From
  · simp only [pHasRel] at hF
    cases h1 : pSchema s
    · rfl
    · rw [h1, Bool.true_and] at hF
      simp [hF]
  · cases hT : pHasRel s r.To
    · simp only [pHasRel] at hT hF
      simp only [Bool.and_eq_true] at hF
      rw [hF.1, Bool.true_and] at hT
      simp [hF, hT]
    · obtain ⟨e1, -⟩ := pAr_ix hT
      rw [hL hF, e1]
      simp only [pHasRel, Bool.and_eq_true] at hF hT
      simp only [hF, hT, Bool.not_true, cond_false, Option.bind_some, bne]
      cases ((r.Map.length : Int) == pAr s r.To) <;> rfl
theorem g_slices_ContainsFunc_int_int_iarePositions1_eq (l : List Int) (a1 : Int) (h1 : -1000 ≤ a1 ∧ a1 ≤ 1000) : g_slices_ContainsFunc_int_int_iarePositions1 l a1 = some (l.any fun x => !pIn 0 (a1 - 1) x) := by
  unfold g_slices_ContainsFunc_int_int_iarePositions1 g_slices_IndexFunc_int_int_iarePositions1
  rw [index_loop (L := g_slices_IndexFunc_int_int_iarePositions1_L1 a1) (f := fun x => i_arePositions_1 x a1) (p := fun x => !pIn 0 (a1 - 1) x) (fun k => rfl) (fun x r k => rfl) l 0 (fun x hx => by rw [i_arePositions_1, i_within_eq, wrap_in (by omega) (by omega)]; rfl), Option.bind_some, ixF_neg]
theorem i_IsRule_eq (s : List Int) (r : Rule) (hs : s.length < 4294967296) : i_IsRule s r = some (pRule s r) := by
  simp only [i_IsRule, i_hasRel_eq _ _ hs, Option.bind_some, pRule]
  cases hF : pHasRel s r.From
  · rfl
  cases hT : pHasRel s r.To
  · rfl
  obtain ⟨e1, e2, e3⟩ := pAr_ix hF
  obtain ⟨e4, -⟩ := pAr_ix hT
  simp only [e1, e4, Option.bind_some, i_arePositions, g_slices_ContainsFunc_int_int_iarePositions1_eq _ _ (show -1000 ≤ pAr s r.From ∧ pAr s r.From ≤ 1000 by omega), cond_true, Bool.true_and, List.all_eq_not_any_not]
  cases ((r.Map.length : Int) == pAr s r.To) <;> rfl
def pRules (s : List Int) (l : List Rule) : Bool := pSchema s && (decide ((l.length : Int) ≤ 4) && l.all (pRule s))
theorem s_AreRules_eq (s : List Int) (l : List Rule) (hs : s.length < 4294967296) : s_AreRules s l = some (pRules s l) := by
  unfold s_AreRules
  rw [all_loop (L := s_AreRules_L1 s l) (f := fun m => s_IsRule s m) (p := pRule s) (e := pSchema s && decide ((l.length : Int) ≤ 4)) (fun k => by
    rw [s_AreRules_L1, s_IsSchema_eq]
    cases pSchema s <;> rfl) (fun x r k => rfl) l 0 (fun x hx => s_IsRule_eq s x hs), pRules]
  cases pSchema s <;> cases decide ((l.length : Int) ≤ 4) <;> cases l.all (pRule s) <;> rfl
theorem g_slices_ContainsFunc_impl_Rule_impl_Rule_iAreRules1_eq (l : List Rule) (s : List Int) (hs : s.length < 4294967296) : g_slices_ContainsFunc_impl_Rule_impl_Rule_iAreRules1 l s = some (l.any fun x => !pRule s x) := by
  unfold g_slices_ContainsFunc_impl_Rule_impl_Rule_iAreRules1 g_slices_IndexFunc_impl_Rule_impl_Rule_iAreRules1
  rw [index_loop (L := g_slices_IndexFunc_impl_Rule_impl_Rule_iAreRules1_L1 s) (f := fun x => i_AreRules_1 x s) (p := fun x => !pRule s x) (fun k => rfl) (fun x r k => rfl) l 0 (fun x hx => by rw [i_AreRules_1, i_IsRule_eq s x hs]; rfl), Option.bind_some, ixF_neg]
theorem i_AreRules_eq (s : List Int) (l : List Rule) (hs : s.length < 4294967296) : i_AreRules s l = some (pRules s l) := by
  simp only [i_AreRules, i_IsSchema_eq, Option.bind_some, g_slices_ContainsFunc_impl_Rule_impl_Rule_iAreRules1_eq l s hs, pRules, List.all_eq_not_any_not]
  cases pSchema s <;> cases decide ((l.length : Int) ≤ 4) <;> rfl
theorem g_slices_ContainsFunc_int_int_iareValues1_eq (l : List Int) : g_slices_ContainsFunc_int_int_iareValues1 l = some (l.any fun x => !pIn 0 9 x) := by
  unfold g_slices_ContainsFunc_int_int_iareValues1 g_slices_IndexFunc_int_int_iareValues1
  rw [index_loop (L := g_slices_IndexFunc_int_int_iareValues1_L1) (f := fun x => i_areValues_1 x) (p := fun x => !pIn 0 9 x) (fun k => rfl) (fun x r k => rfl) l 0 (fun x hx => rfl), Option.bind_some, ixF_neg]
theorem i_areValues_eq (l : List Int) : i_areValues l = some (l.all (pIn 0 9)) := by
  simp only [i_areValues, g_slices_ContainsFunc_int_int_iareValues1_eq, Option.bind_some, List.all_eq_not_any_not]
def pFact (s : List Int) (f : Fact) : Bool := pHasRel s f.Rel && (((f.Values.length : Int) == pAr s f.Rel) && f.Values.all (pIn 0 9))
theorem s_IsFact_eq (s : List Int) (f : Fact) (hs : s.length < 4294967296) : s_IsFact s f = some (pFact s f) := by
  simp only [s_IsFact, s_IsSchema_eq, s_l1In_eq, Option.bind_some]
  rw [wrap_in (by omega) (by omega)]
  have hL : s_IsFact_L1 f.Values 0 = some (f.Values.all (pIn 0 9)) := by
    have := all_loop (L := s_IsFact_L1) (f := fun x => some (pIn 0 9 x)) (p := pIn 0 9) (e := true) (fun _ => rfl) (fun x r' k => rfl) f.Values 0 (fun _ _ => rfl)
    simpa using this
  unfold pFact
  cases hF : pHasRel s f.Rel
  · simp only [pHasRel] at hF
    cases h1 : pSchema s
    · rfl
    · rw [h1, Bool.true_and] at hF
      simp [hF]
  · obtain ⟨e1, -⟩ := pAr_ix hF
    rw [hL, e1]
    simp only [pHasRel, Bool.and_eq_true] at hF
    simp only [hF, Bool.not_true, cond_false, Option.bind_some, bne]
    cases ((f.Values.length : Int) == pAr s f.Rel) <;> rfl
theorem i_IsFact_eq (s : List Int) (f : Fact) (hs : s.length < 4294967296) : i_IsFact s f = some (pFact s f) := by
  simp only [i_IsFact, i_hasRel_eq _ _ hs, Option.bind_some, pFact]
  cases hF : pHasRel s f.Rel
  · rfl
  obtain ⟨e1, -⟩ := pAr_ix hF
  simp only [e1, Option.bind_some, i_areValues_eq, cond_true, Bool.true_and]
  cases ((f.Values.length : Int) == pAr s f.Rel) <;> rfl
def pFacts (s : List Int) (l : List Fact) : Bool := adjB (pFact s) (fun y x => decide (0 ≤ pCmpFact y x)) none l && (pSchema s && decide ((l.length : Int) ≤ 24))
theorem s_AreFacts_eq (s : List Int) (l : List Fact) (hs : s.length < 4294967296) (hl : bdL bd_Fact l) : s_AreFacts s l = some (pFacts s l) :=
  adj_loop (L := s_AreFacts_L1 s l) (P := bd_Fact) (p := pFact s) (q := fun y x => decide (0 ≤ pCmpFact y x)) l hl.2 hl.1 (fun _ => by
    rw [s_AreFacts_L1, s_IsSchema_eq]
    cases pSchema s <;> rfl) (fun x r _ => by
    rw [s_AreFacts_L1, s_IsFact_eq s x hs]
    simp only [Option.bind_some, dec_zero]
    cases pFact s x <;> rfl) (fun x r k y _ hy hy2 hk => by
    rw [s_AreFacts_L1, s_IsFact_eq s x hs]
    simp only [Option.bind_some, dec_succ, ix_prev _ k hk, hy2, s_CompareFacts_eq y x hy.1]
    cases pFact s x <;> cases decide (0 ≤ pCmpFact y x) <;> rfl)
theorem i_AreFacts_eq (s : List Int) (l : List Fact) (hs : s.length < 4294967296) (hl : bdL bd_Fact l) : i_AreFacts s l = some (pFacts s l) :=
  adj_loop (L := i_AreFacts_L1 s l) (P := bd_Fact) (p := pFact s) (q := fun y x => decide (0 ≤ pCmpFact y x)) l hl.2 hl.1 (fun _ => by
    rw [i_AreFacts_L1, i_IsSchema_eq]
    cases pSchema s <;> rfl) (fun x r _ => by
    rw [i_AreFacts_L1, i_IsFact_eq s x hs]
    simp only [Option.bind_some, dec_zero]
    cases pFact s x <;> rfl) (fun x r k y _ hy hy2 hk => by
    rw [i_AreFacts_L1, i_IsFact_eq s x hs]
    simp only [Option.bind_some, dec_succ, ix_prev _ k hk, hy2, i_CompareFacts_eq y x]
    cases pFact s x <;> cases decide (0 ≤ pCmpFact y x) <;> rfl)
def pSource (s : List Int) (x : Source) : Bool := pFacts s x.Facts && pIn 0 1000 x.Version
theorem s_IsSource_eq (s : List Int) (x : Source) (hs : s.length < 4294967296) (hl : bdL bd_Fact x.Facts) : s_IsSource s x = some (pSource s x) := by
  simp only [s_IsSource, s_AreFacts_eq s _ hs hl, s_l1In_eq, Option.bind_some, pSource]
  cases pFacts s x.Facts <;> rfl
theorem i_IsSource_eq (s : List Int) (x : Source) (hs : s.length < 4294967296) (hl : bdL bd_Fact x.Facts) : i_IsSource s x = some (pSource s x) := by
  simp only [i_IsSource, i_AreFacts_eq s _ hs hl, i_within_eq, Option.bind_some, pSource]
  cases pFacts s x.Facts <;> rfl
def pMeth (l : List Method) (m : Int) : Method := (ix l m).getD ⟨0, [], 0, 0, 0⟩
theorem pMeth_ix {l : List Method} {m : Int} (h : pIn 0 ((l.length : Int) - 1) m = true) : ix l m = some (pMeth l m) ∧ pMeth l m ∈ l := by
  obtain ⟨x, h1, h2⟩ := pIn_ix h
  unfold pMeth
  rw [h1]; exact ⟨rfl, List.mem_of_getElem? h2⟩
def pAccess (s : List Int) (l : List Method) (a : Access) : Bool := pMethods s l && (pIn 0 ((l.length : Int) - 1) a.Method && (((a.Values.length : Int) == ((pMeth l a.Method).Inputs.length : Int)) && a.Values.all (pIn 0 9)))
theorem s_IsAccess_eq (s : List Int) (l : List Method) (a : Access) (hs : s.length < 4294967296) (hl : bdL bd_Method l) : s_IsAccess s l a = some (pAccess s l a) := by
  have h1 := hl.1
  have hL : s_IsAccess_L1 a.Values 0 = some (a.Values.all (pIn 0 9)) := by
    have := all_loop (L := s_IsAccess_L1) (f := fun x => some (pIn 0 9 x)) (p := pIn 0 9) (e := true) (fun _ => rfl) (fun x r' k => rfl) a.Values 0 (fun _ _ => rfl)
    simpa using this
  simp only [s_IsAccess, s_AreMethods_eq s l hs hl, s_l1In_eq, Option.bind_some, pAccess, hL]
  rw [wrap_in (by omega) (by omega)]
  cases pMethods s l
  · rfl
  cases hm : pIn 0 ((l.length : Int) - 1) a.Method
  · rfl
  rw [(pMeth_ix hm).1]
  simp only [Option.bind_some, Bool.not_true, cond_false, bne]
  cases ((a.Values.length : Int) == ((pMeth l a.Method).Inputs.length : Int)) <;> rfl
theorem i_IsAccess_eq (s : List Int) (l : List Method) (a : Access) (hs : s.length < 4294967296) (hl : bdL bd_Method l) : i_IsAccess s l a = some (pAccess s l a) := by
  have h1 := hl.1
  simp only [i_IsAccess, i_AreMethods_eq s l hs hl, i_within_eq, Option.bind_some, pAccess, i_areValues_eq]
  rw [wrap_in (by omega) (by omega)]
  cases pMethods s l
  · rfl
  cases hm : pIn 0 ((l.length : Int) - 1) a.Method
  · rfl
  rw [(pMeth_ix hm).1]
  simp only [Option.bind_some, cond_true]
  cases ((a.Values.length : Int) == ((pMeth l a.Method).Inputs.length : Int)) <;> rfl
def pCmpAcc (a b : Access) : Int := if cmpI a.Method b.Method != 0 then cmpI a.Method b.Method else cmpL a.Values b.Values
theorem i_compareAccesses_eq (a b : Access) : i_compareAccesses a b = some (pCmpAcc a b) := by
  simp only [i_compareAccesses, g_cmp_Compare_int_eq, g_slices_Compare_eq, Option.bind_some, g_cmp_Or2_eq, pCmpAcc]
theorem s_l4Less_loop (a b : List Int) (ha : a.length < 4294967296) : ∀ (m k : Nat), k ≤ a.length → k ≤ b.length → a.length < k + m → s_l4Less_L1 a b m k = some (decide (cmpL (a.drop k) (b.drop k) < 0))
  | 0, k, h1, _, h2 => by omega
  | m + 1, k, h1, h1', h2 => by
    rw [s_l4Less_L1]
    by_cases h : k < a.length ∧ k < b.length
    · rw [if_pos (by simp [h.1, h.2])]
      simp only [ix_nat, List.getElem?_eq_getElem h.1, List.getElem?_eq_getElem h.2, Option.bind_some]
      rw [List.drop_eq_getElem_cons h.1, List.drop_eq_getElem_cons h.2, cmpL, cmpI]
      by_cases e : a[k] = b[k]
      · rw [if_neg (by simp [e]), show ((k : Int) + 1) = ((k + 1 : Nat) : Int) from rfl, wrap_nat (by omega), s_l4Less_loop a b ha m (k + 1) h.1 h.2 (by omega)]
        simp [e]
      · rw [if_pos (by simpa using e)]
        by_cases e1 : a[k] < b[k]
        · simp [e1]
        · have e2 : b[k] < a[k] := by omega
          simp [e1, e2]
    · rw [if_neg (by simp only [Bool.and_eq_true, decide_eq_true_eq]; omega)]
      by_cases h3 : k < b.length
      · have : k = a.length := by omega
        subst this
        rw [List.drop_of_length_le (Nat.le_refl _), List.drop_eq_getElem_cons h3]
        simp [cmpL, h3]
      · rw [List.drop_of_length_le (show b.length ≤ k by omega)]
        by_cases h4 : k < a.length
        · rw [List.drop_eq_getElem_cons h4]
          simp [cmpL]; omega
        · rw [List.drop_of_length_le (by omega)]
          simp [cmpL]; omega
theorem s_l4Less_eq (a b : List Int) (ha : a.length < 4294967296) : s_l4Less a b = some (decide (cmpL a b < 0)) := by
  have := s_l4Less_loop a b ha (((a.length : Int) - 0).toNat + 2) 0 (by omega) (by omega) (by omega)
  simpa [s_l4Less] using this
theorem s_l22Less_eq (a b : Access) (ha : a.Values.length < 4294967296) : s_l22Less a b = some (decide (pCmpAcc a b < 0)) := by
  unfold s_l22Less pCmpAcc cmpI
  by_cases h : a.Method = b.Method
  · rw [if_neg (by simp [h]), s_l4Less_eq _ _ ha]
    simp [h]
  · rw [if_pos (by simpa using h)]
    by_cases h2 : a.Method < b.Method
    · simp [h2]
    · have : b.Method < a.Method := by omega
      simp [h2, this]
def pFitL (f : Fact) (vals : List Int) : List Int → Nat → Bool
  | [], _ => true
  | x :: r, k => (f.Values[x.toNat]?.getD 0 == vals[k]?.getD 0) && pFitL f vals r (k + 1)
def pFits (m : Method) (vals : List Int) (f : Fact) : Bool := f.Rel == m.Rel && pFitL f vals m.Inputs 0
theorem ix_getD (l : List Int) (x : Int) (h : 0 ≤ x ∧ x < (l.length : Int)) : ix l x = some (l[x.toNat]?.getD 0) := by
  have hlt : x.toNat < l.length := by omega
  unfold ix
  rw [if_pos h.1, List.getElem?_eq_getElem hlt]; rfl
theorem s_l5Fits_loop (vals : List Int) (f : Fact) : ∀ (l : List Int) (k : Nat), (∀ x ∈ l, 0 ≤ x ∧ x < (f.Values.length : Int)) → k + l.length ≤ vals.length → s_l5Fits_L1 vals f l k = some (pFitL f vals l k)
  | [], _, _, _ => rfl
  | x :: r, k, h, hl => by
    simp only [List.length_cons] at hl
    rw [s_l5Fits_L1, ix_getD _ _ (h x (by simp)), ix_getD _ _ ⟨by omega, by omega⟩, Option.bind_some, Option.bind_some, pFitL, Int.toNat_natCast]
    by_cases e : f.Values[x.toNat]?.getD 0 = vals[k]?.getD 0
    · rw [if_neg (by simp [e]), s_l5Fits_loop vals f r (k + 1) (fun y hy => h y (by simp [hy])) (by omega)]; simp [e]
    · rw [if_pos (by simpa using e)]; simp [e]
theorem i_matches_loop (f : Fact) (a : Access) : ∀ (l : List Int) (k : Nat), (∀ x ∈ l, 0 ≤ x ∧ x < (f.Values.length : Int)) → k + l.length ≤ a.Values.length → i_matches_1_L1 f a l k = some (!pFitL f a.Values l k)
  | [], _, _, _ => rfl
  | x :: r, k, h, hl => by
    simp only [List.length_cons] at hl
    rw [i_matches_1_L1, ix_getD _ _ (h x (by simp)), ix_getD _ _ ⟨by omega, by omega⟩, Option.bind_some, Option.bind_some, pFitL, Int.toNat_natCast]
    by_cases e : f.Values[x.toNat]?.getD 0 = a.Values[k]?.getD 0
    · rw [if_neg (by simp [e]), i_matches_loop f a r (k + 1) (fun y hy => h y (by simp [hy])) (by omega)]; simp [e]
    · rw [if_pos (by simpa using e)]; simp [e]
def pFitOK (m : Method) (vals : List Int) (f : Fact) : Prop := (f.Rel = m.Rel → ∀ x ∈ m.Inputs, 0 ≤ x ∧ x < (f.Values.length : Int)) ∧ m.Inputs.length ≤ vals.length
theorem s_l5Fits_eq (m : Method) (vals : List Int) (f : Fact) (h : pFitOK m vals f) : s_l5Fits m vals f = some (pFits m vals f) := by
  unfold s_l5Fits pFits
  by_cases e : f.Rel = m.Rel
  · rw [if_neg (by simp [e]), s_l5Fits_loop vals f m.Inputs 0 (h.1 e) (by have := h.2; omega)]; simp [e]
  · rw [if_pos (by simpa using e)]; simp [e]
theorem i_matches_1_eq (f : Fact) (m : Method) (a : Access) (h : pFitOK m a.Values f) : i_matches_1 f m a = some (!pFits m a.Values f) := by
  unfold i_matches_1 pFits
  by_cases e : f.Rel = m.Rel
  · rw [if_neg (by simp [e]), i_matches_loop f a m.Inputs 0 (h.1 e) (by have := h.2; omega)]; simp [e]
  · rw [if_pos (by simpa using e)]; simp [e]
theorem pFitOK_of {s : List Int} {l : List Method} {a : Access} {f : Fact} (h1 : pAccess s l a = true) (h2 : pFact s f = true) : pFitOK (pMeth l a.Method) a.Values f := by
  simp only [pAccess, pMethods, Bool.and_eq_true, List.all_eq_true] at h1
  obtain ⟨⟨-, -, hm⟩, hi, hv, -⟩ := h1
  have hmm := hm _ (pMeth_ix hi).2
  simp only [pMethod, Bool.and_eq_true, List.all_eq_true] at hmm
  obtain ⟨-, -, -, -, -, hin⟩ := hmm
  simp only [pFact, Bool.and_eq_true] at h2
  obtain ⟨-, hf, -⟩ := h2
  refine ⟨fun e x hx => ?_, by simp at hv; omega⟩
  have := hin x hx
  simp [pIn] at this hf
  rw [hf, e]
  omega
theorem pFacts_all {s : List Int} {l : List Fact} (h : pFacts s l = true) : ∀ f ∈ l, pFact s f = true := by
  unfold pFacts at h
  rw [adjB_and] at h
  simp only [Bool.and_eq_true, List.all_eq_true] at h
  exact h.1.2
theorem i_copyFact_eq (a : Fact) (h : bd_Fact a) : i_copyFact a = some a := by simp [i_copyFact, g_slices_Clone_int_int_eq _ h.1]
theorem i_copyFacts_eq (l : List Fact) (h : bdL bd_Fact l) : i_copyFacts l = some l :=
  copy_all (L := i_copyFacts_L1) (fun _ _ => rfl) (fun x r k c hx hc => by rw [i_copyFacts_L1, i_copyFact_eq x hx, Option.bind_some, app1 hc, Option.bind_some]) l h
theorem i_matches_eq (s : List Int) (l : List Method) (facts : List Fact) (a : Access) (h1 : pAccess s l a = true) (h2 : ∀ f ∈ facts, pFact s f = true) (hb : bdL bd_Fact facts) : i_matches l facts a = some (facts.filter (pFits (pMeth l a.Method) a.Values)) := by
  have hi : pIn 0 ((l.length : Int) - 1) a.Method = true := by
    simp only [pAccess, Bool.and_eq_true] at h1
    exact h1.2.1
  rw [i_matches, (pMeth_ix hi).1, Option.bind_some, i_copyFacts_eq facts hb, Option.bind_some, g_slices_DeleteFunc_impl_Fact_impl_Fact_imatches1,
    delL_of (p := fun f => !pFits (pMeth l a.Method) a.Values f) (fun f hf => i_matches_1_eq f _ a (pFitOK_of h1 (h2 f hf)))]
  simp
theorem i_isTime_eq (n : Int) : i_isTime n = some (pIn 0 10000 n) := rfl
def pStored (s : List Int) (l : List Method) (x : Stored) : Bool := pAccess s l x.Access && (pFacts s x.Facts && (x.Facts.all (pFits (pMeth l x.Access.Method) x.Access.Values) && pIn 0 10000 x.At))
theorem i_isStored_eq (s : List Int) (l : List Method) (x : Stored) (hs : s.length < 4294967296) (hl : bdL bd_Method l) (hx : bd_Stored x) : i_isStored s l x = some (pStored s l x) := by
  simp only [i_isStored, i_IsAccess_eq s l _ hs hl, i_AreFacts_eq s _ hs hx.2, Option.bind_some, pStored]
  cases h1 : pAccess s l x.Access
  · rfl
  cases h2 : pFacts s x.Facts
  · rfl
  rw [i_matches_eq s l x.Facts x.Access h1 (pFacts_all h2) hx.2]
  simp only [Option.bind_some, cond_true, Bool.true_and, i_isTime_eq]
  have e : (((x.Facts.filter (pFits (pMeth l x.Access.Method) x.Access.Values)).length : Int) == (x.Facts.length : Int)) = x.Facts.all (pFits (pMeth l x.Access.Method) x.Access.Values) := by
    rw [Bool.eq_iff_iff]
    simp only [beq_iff_eq, List.all_eq_true, Int.natCast_inj]
    exact List.length_filter_eq_length_iff
  rw [e]
  cases x.Facts.all (pFits (pMeth l x.Access.Method) x.Access.Values) <;> rfl
def pCache (s : List Int) (l : List Method) (c : Cache) : Bool := adjB (pStored s l) (fun y x => decide (0 ≤ pCmpAcc y.Access x.Access)) none c.Entries && (pMethods s l && (pIn 0 100 c.Age && decide ((c.Entries.length : Int) ≤ 100)))
theorem i_IsCache_eq (s : List Int) (l : List Method) (c : Cache) (hs : s.length < 4294967296) (hl : bdL bd_Method l) (hc : bd_Cache c) : i_IsCache s l c = some (pCache s l c) :=
  adj_loop (L := i_IsCache_L1 s l c) (P := bd_Stored) (p := pStored s l) (q := fun y x => decide (0 ≤ pCmpAcc y.Access x.Access)) c.Entries hc.2 hc.1 (fun _ => by
    rw [i_IsCache_L1, i_AreMethods_eq s l hs hl]
    simp only [Option.bind_some, i_within_eq]
    cases pMethods s l <;> cases pIn 0 100 c.Age <;> rfl) (fun x r hx => by
    rw [i_IsCache_L1, i_isStored_eq s l x hs hl hx]
    simp only [Option.bind_some, dec_zero]
    cases pStored s l x <;> rfl) (fun x r k y hx hy hy2 hk => by
    rw [i_IsCache_L1, i_isStored_eq s l x hs hl hx]
    simp only [Option.bind_some, dec_succ, ix_prev _ k hk, hy2, i_compareAccesses_eq]
    cases pStored s l x <;> cases decide (0 ≤ pCmpAcc y.Access x.Access) <;> rfl)
theorem s_IsCache_L2_eq (l : List Method) (x : Stored) (hi : pIn 0 ((l.length : Int) - 1) x.Access.Method = true) : ∀ (fs : List Fact) (k : Nat), (∀ f ∈ fs, pFitOK (pMeth l x.Access.Method) x.Access.Values f) →
    s_IsCache_L2 l x fs k = some (if fs.all (pFits (pMeth l x.Access.Method) x.Access.Values) then .inr () else .inl false)
  | [], _, _ => rfl
  | f :: r, k, h => by
    rw [s_IsCache_L2, (pMeth_ix hi).1, Option.bind_some, s_l5Fits_eq _ _ _ (h f (by simp)), Option.bind_some, List.all_cons]
    cases pFits (pMeth l x.Access.Method) x.Access.Values f
    · rfl
    · simp [s_IsCache_L2_eq l x hi r (k + 1) fun g hg => h g (by simp [hg])]
theorem s_IsCache_eq (s : List Int) (l : List Method) (c : Cache) (hs : s.length < 4294967296) (hl : bdL bd_Method l) (hc : bd_Cache c) : s_IsCache s l c = some (pCache s l c) := by
  have hL : s_IsCache_L1 s l c c.Entries 0 = some (adjB (pStored s l) (fun y x => decide (0 ≤ pCmpAcc y.Access x.Access)) none c.Entries) := by
    have key : ∀ x : Stored, pAccess s l x.Access = true → pFacts s x.Facts = true → s_IsCache_L2 l x x.Facts 0 = some (if x.Facts.all (pFits (pMeth l x.Access.Method) x.Access.Values) then .inr () else .inl false) := fun x h1 h2 => by
      have hi : pIn 0 ((l.length : Int) - 1) x.Access.Method = true := by
        simp only [pAccess, Bool.and_eq_true] at h1
        exact h1.2.1
      exact s_IsCache_L2_eq l x hi x.Facts 0 fun f hf => pFitOK_of h1 (pFacts_all h2 f hf)
    have := adj_loop (L := s_IsCache_L1 s l c) (P := bd_Stored) (p := pStored s l) (q := fun y x => decide (0 ≤ pCmpAcc y.Access x.Access)) (e := true) c.Entries hc.2 hc.1 (fun _ => rfl) (fun x r hx => by
      rw [s_IsCache_L1, s_IsAccess_eq s l _ hs hl, s_AreFacts_eq s _ hs hx.2]
      simp only [Option.bind_some, dec_zero, s_l1In_eq, pStored]
      rcases Bool.eq_false_or_eq_true (pAccess s l x.Access) with h1 | h1
      rotate_left
      · simp only [h1]; rfl
      rcases Bool.eq_false_or_eq_true (pFacts s x.Facts) with h2 | h2
      rotate_left
      · simp only [h1, h2]; rfl
      simp only [key x h1 h2, h1, h2]
      cases pIn 0 10000 x.At <;> cases x.Facts.all (pFits (pMeth l x.Access.Method) x.Access.Values) <;> rfl) (fun x r k y hx hy hy2 hk => by
      rw [s_IsCache_L1, s_IsAccess_eq s l _ hs hl, s_AreFacts_eq s _ hs hx.2]
      simp only [Option.bind_some, dec_succ, ix_prev _ k hk, hy2, s_l1In_eq, pStored, s_l22Less_eq _ _ hy.1.1]
      have e : decide (0 ≤ pCmpAcc y.Access x.Access) = !decide (pCmpAcc y.Access x.Access < 0) := by
        rw [Bool.eq_iff_iff]; simp
      rw [e]
      rcases Bool.eq_false_or_eq_true (pAccess s l x.Access) with h1 | h1
      rotate_left
      · simp only [h1]; rfl
      rcases Bool.eq_false_or_eq_true (pFacts s x.Facts) with h2 | h2
      rotate_left
      · simp only [h1, h2]; rfl
      simp only [key x h1 h2, h1, h2]
      cases pIn 0 10000 x.At <;> cases x.Facts.all (pFits (pMeth l x.Access.Method) x.Access.Values) <;> cases decide (pCmpAcc y.Access x.Access < 0) <;> rfl)
    simpa using this
  simp only [s_IsCache, s_AreMethods_eq s l hs hl, s_l1In_eq, Option.bind_some, pCache, hL]
  have e : decide ((c.Entries.length : Int) ≤ 100) = !decide ((100 : Int) < (c.Entries.length : Int)) := by
    rw [Bool.eq_iff_iff]; simp
  rw [e]
  cases pMethods s l
  · simp
  cases pIn 0 100 c.Age
  · simp
  cases decide ((100 : Int) < (c.Entries.length : Int)) <;> simp
def pTimes (l : List Int) : Bool := adjB (fun _ => true) (fun y x => decide (x < y)) none l && l.all (pIn 0 10000)
theorem s_l18Times_eq (l : List Int) (hl : l.length < 4294967296) : s_l18Times l = some (pTimes l && decide ((l.length : Int) ≤ 1000)) := by
  have := adj_loop (L := s_l18Times_L1 l) (P := fun _ => True) (p := pIn 0 10000) (q := fun y x => decide (x < y)) (e := decide ((l.length : Int) ≤ 1000)) l (fun _ _ => trivial) hl (fun _ => rfl) (fun x r _ => by
      rw [s_l18Times_L1]
      simp only [Option.bind_some, s_l1In_eq, dec_zero]
      cases pIn 0 10000 x <;> rfl) (fun x r k y _ _ hy hk => by
      rw [s_l18Times_L1]
      simp only [Option.bind_some, s_l1In_eq, dec_succ, ix_prev _ k hk, hy]
      cases pIn 0 10000 x <;> cases decide (x < y) <;> rfl)
  rw [s_l18Times, this, adjB_and, pTimes]
theorem adjB_snoc {α : Type} (p : α → Bool) (q : α → α → Bool) (x y : α) : ∀ (l : List α) (o : Option α), (l.getLast? = some y ∨ l = [] ∧ o = some y) → adjB p q o (l ++ [x]) = (adjB p q o l && (p x && !q y x))
  | [], o, h => by
    rcases h with h | ⟨-, rfl⟩
    · simp at h
    · simp [adjB]
  | [z], none, h => by
    obtain rfl : z = y := by simpa using h
    simp [adjB]
  | [z], some w, h => by
    obtain rfl : z = y := by simpa using h
    simp [adjB]
  | z :: z2 :: r, none, h => by
    have h' : (z2 :: r).getLast? = some y := by simpa using h
    rw [List.cons_append, adjB, adjB, adjB_snoc p q x y (z2 :: r) (some z) (.inl h'), Bool.and_assoc]
  | z :: z2 :: r, some w, h => by
    have h' : (z2 :: r).getLast? = some y := by simpa using h
    rw [List.cons_append, adjB, adjB, adjB_snoc p q x y (z2 :: r) (some z) (.inl h')]
    simp only [Bool.and_assoc]
theorem g_cmp_Less_int_eq (x y : Int) : g_cmp_Less_int x y = some (decide (x < y)) := by
  simp [g_cmp_Less_int, g_cmp_isNaN_int]
theorem g_slices_IsSorted_loop (l : List Int) (hl : l.length < 4294967296) : ∀ (k m : Nat), k < l.length → k < m → g_slices_IsSorted_int_int_L1 l m k = some (adjB (fun _ => true) (fun y x => decide (x < y)) none (l.take (k + 1)))
  | 0, m + 1, h, _ => by
    rw [g_slices_IsSorted_int_int_L1, if_neg (by simp)]
    cases l with
    | nil => simp at h
    | cons x r => rfl
  | k + 1, m + 1, h, hm => by
    rw [g_slices_IsSorted_int_int_L1, if_pos (dec_succ k)]
    rw [ix_nat, List.getElem?_eq_getElem h, Option.bind_some, show (((k + 1 : Nat) : Int)) - 1 = (k : Int) by omega, wrap_nat (by omega), ix_nat, List.getElem?_eq_getElem (by omega : k < l.length), Option.bind_some, g_cmp_Less_int_eq, Option.bind_some,
      g_slices_IsSorted_loop l hl k m (by omega) (by omega), show l.take (k + 1 + 1) = l.take (k + 1) ++ [l[k + 1]] from List.take_succ_eq_append_getElem h, adjB_snoc _ _ _ l[k] (l.take (k + 1)) none (.inl (by rw [List.getLast?_take]; simp [List.getElem?_eq_getElem (show k < l.length by omega)]))]
    cases decide (l[k + 1] < l[k]) <;> simp
theorem g_slices_IsSorted_eq (l : List Int) (hl : l.length < 4294967296) : g_slices_IsSorted_int_int l = some (adjB (fun _ => true) (fun y x => decide (x < y)) none l) := by
  unfold g_slices_IsSorted_int_int
  rw [wrap_in (by omega) (by omega)]
  by_cases h : l.length = 0
  · have : l = [] := List.length_eq_zero_iff.1 h
    subst this; rfl
  · rw [show ((l.length : Int) - 1) = ((l.length - 1 : Nat) : Int) by omega, g_slices_IsSorted_loop l hl (l.length - 1) _ (by omega) (by omega), show l.length - 1 + 1 = l.length by omega, List.take_length]
theorem g_slices_ContainsFunc_int_int_iareTimes1_eq (l : List Int) : g_slices_ContainsFunc_int_int_iareTimes1 l = some (l.any fun x => !pIn 0 10000 x) := by
  unfold g_slices_ContainsFunc_int_int_iareTimes1 g_slices_IndexFunc_int_int_iareTimes1
  rw [index_loop (L := g_slices_IndexFunc_int_int_iareTimes1_L1) (f := fun x => i_areTimes_1 x) (p := fun x => !pIn 0 10000 x) (fun k => rfl) (fun x r k => rfl) l 0 (fun x hx => rfl), Option.bind_some, ixF_neg]
theorem i_areTimes_eq (l : List Int) (hl : l.length < 4294967296) : i_areTimes l = some (pTimes l) := by
  simp only [i_areTimes, g_slices_IsSorted_eq l hl, g_slices_ContainsFunc_int_int_iareTimes1_eq, Option.bind_some, pTimes, List.all_eq_not_any_not]
  cases adjB (fun _ => true) (fun y x => decide (x < y)) none l <;> rfl
theorem g_slices_ContainsFunc_impl_Access_impl_Access_iIsMediator1_eq (l : List Access) (m : Mediator) (hm : bd_Mediator m) : g_slices_ContainsFunc_impl_Access_impl_Access_iIsMediator1 l m = some (l.any fun x => !pAccess m.Schema m.Methods x) := by
  unfold g_slices_ContainsFunc_impl_Access_impl_Access_iIsMediator1 g_slices_IndexFunc_impl_Access_impl_Access_iIsMediator1
  rw [index_loop (L := g_slices_IndexFunc_impl_Access_impl_Access_iIsMediator1_L1 m) (f := fun x => i_IsMediator_1 x m) (p := fun x => !pAccess m.Schema m.Methods x) (fun k => rfl) (fun x r k => rfl) l 0 (fun x hx => by rw [i_IsMediator_1, i_IsAccess_eq _ _ x hm.1.1 hm.2.1]; rfl), Option.bind_some, ixF_neg]
def pMed (m : Mediator) : Bool := pMethods m.Schema m.Methods && (pRules m.Schema m.Rules && (pSource m.Schema m.Source && (pCache m.Schema m.Methods m.Cache && (pIn 0 10000 m.Now && (decide ((m.Log.length : Int) ≤ 1000) && (m.Log.all (pAccess m.Schema m.Methods) &&
  (((m.Times.length : Int) == (m.Log.length : Int)) && (pTimes m.Times && (pIn 0 1000000 m.Spent && decide ((m.Results.length : Int) ≤ 100))))))))))
theorem i_IsMediator_eq (m : Mediator) (hm : bd_Mediator m) : i_IsMediator m = some (pMed m) := by
  obtain ⟨h1, h2, h3, h4, h5, h6, h7, h8⟩ := id hm
  simp only [i_IsMediator, i_AreMethods_eq _ _ h1.1 h2, i_AreRules_eq _ _ h1.1, i_IsSource_eq _ _ h1.1 (show bdL bd_Fact m.Source.Facts from h4), i_IsCache_eq _ _ _ h1.1 h2 h5, i_isTime_eq, g_slices_ContainsFunc_impl_Access_impl_Access_iIsMediator1_eq _ m hm, i_areTimes_eq _ h7.1, i_within_eq, Option.bind_some, pMed, List.all_eq_not_any_not (p := pAccess m.Schema m.Methods)]
  cases pMethods m.Schema m.Methods
  · rfl
  cases pRules m.Schema m.Rules
  · rfl
  cases pSource m.Schema m.Source
  · rfl
  cases pCache m.Schema m.Methods m.Cache
  · rfl
  cases pIn 0 10000 m.Now
  · rfl
  cases decide ((m.Log.length : Int) ≤ 1000)
  · rfl
  cases m.Log.any fun a => !pAccess m.Schema m.Methods a
  rotate_left
  · rfl
  cases ((m.Times.length : Int) == (m.Log.length : Int))
  · rfl
  cases pTimes m.Times
  · rfl
  cases pIn 0 1000000 m.Spent <;> rfl
theorem s_IsMediator_eq (m : Mediator) (hm : bd_Mediator m) : s_IsMediator m = some (pMed m) := by
  obtain ⟨h1, h2, h3, h4, h5, h6, h7, h8⟩ := id hm
  have hL : s_IsMediator_L1 m m.Log 0 = some (m.Log.all (pAccess m.Schema m.Methods) && (pIn 0 10000 m.Now && (decide ((m.Log.length : Int) ≤ 1000) && (((m.Times.length : Int) == (m.Log.length : Int)) && (pTimes m.Times && (pIn 0 1000000 m.Spent && decide ((m.Results.length : Int) ≤ 100))))))) := by
    refine all_loop (L := s_IsMediator_L1 m) (f := fun a => s_IsAccess m.Schema m.Methods a) (p := pAccess m.Schema m.Methods) (fun k => ?_) (fun x r k => rfl) m.Log 0 (fun x _ => s_IsAccess_eq _ _ x h1.1 h2)
    rw [s_IsMediator_L1]
    simp only [s_l1In_eq, s_l18Times_eq _ h7.1, Option.bind_some]
    cases pIn 0 10000 m.Now
    · rfl
    by_cases hl : (m.Log.length : Int) ≤ 1000
    · by_cases ht : (m.Times.length : Int) = (m.Log.length : Int)
      · simp only [hl, ht, decide_true, beq_self_eq_true, cond_true, Bool.and_true, Bool.true_and]
        cases pTimes m.Times <;> cases pIn 0 1000000 m.Spent <;> rfl
      · have e : ((m.Times.length : Int) == (m.Log.length : Int)) = false := beq_false_of_ne ht
        simp only [hl, e, decide_true, cond_true, cond_false, Bool.true_and, Bool.false_and, Option.bind_some]
    · simp [hl]
  simp only [s_IsMediator, s_IsSchema_eq, s_AreMethods_eq _ _ h1.1 h2, s_AreRules_eq _ _ h1.1, s_IsSource_eq _ _ h1.1 (show bdL bd_Fact m.Source.Facts from h4), s_IsCache_eq _ _ _ h1.1 h2 h5, Option.bind_some, pMed, hL]
  cases hS : pSchema m.Schema
  · simp [pMethods, hS]
  cases pMethods m.Schema m.Methods
  · rfl
  cases pRules m.Schema m.Rules
  · rfl
  cases pSource m.Schema m.Source
  · rfl
  cases pCache m.Schema m.Methods m.Cache
  · rfl
  cases pIn 0 10000 m.Now <;> cases decide ((m.Log.length : Int) ≤ 1000) <;> cases m.Log.all (pAccess m.Schema m.Methods) <;> rfl
theorem bd_Med (a : Mediator) (h : tot_Mediator a < 4294967296) : bd_Mediator a := by
  unfold tot_Mediator tot_Source tot_Cache at h
  have hF : ∀ l : List Fact, totL tot_Fact l < 4294967296 → bdL bd_Fact l := bdL_of fun x hx => bdL_flat _ hx
  have hA : ∀ x : Access, tot_Access x < 4294967296 → bd_Access x := fun x hx => bdL_flat _ hx
  exact ⟨bdL_flat _ (by omega), bdL_of (f := tot_Method) (fun x hx => bdL_flat _ hx) _ (by omega), bdL_of (f := tot_Rule) (fun x hx => bdL_flat _ hx) _ (by omega), hF _ (by omega),
    bdL_of (f := tot_Stored) (fun x hx => ⟨hA _ (by unfold tot_Stored at hx; omega), hF _ (by unfold tot_Stored at hx; omega)⟩) _ (by omega), bdL_of hA _ (by omega), bdL_flat _ (by omega),
    bdL_of (f := totL fun a : List Int => a.length) (fun x hx => bdL_of (f := fun a : List Int => a.length) (fun y hy => bdL_flat y hy) x hx) _ (by omega)⟩
theorem ms_Mediator (m : Mediator) : mtN_Mediator m ≤ 4 * tot_Mediator m := by
  have h1 := msL_le (ms := meN_Method) (tot := tot_Method) 4 (fun x => by simp only [meN_Method, msL_one, tot_Method]; omega) m.Methods
  have h2 := msL_le (ms := meN_Rule) (tot := tot_Rule) 2 (fun x => by simp only [meN_Rule, msL_one, tot_Rule]; omega) m.Rules
  have h3 : ∀ l, msL meN_Fact l ≤ 1 * totL tot_Fact l := msL_le (ms := meN_Fact) (tot := tot_Fact) 1 (fun x => by simp only [meN_Fact, msL_one, tot_Fact]; omega)
  have h4 := msL_le (ms := meN_Stored) (tot := tot_Stored) 2 (fun x => by have := h3 x.Facts; simp only [meN_Stored, meN_Access, msL_one, tot_Stored, tot_Access]; omega) m.Cache.Entries
  have h5 := msL_le (ms := meN_Access) (tot := tot_Access) 1 (fun x => by simp only [meN_Access, msL_one, tot_Access]; omega) m.Log
  have h6 := msL_le (ms := msL (msL (fun _ : Int => 1))) (tot := totL (fun a : List Int => a.length)) 1 (fun x => by have := msL_le (ms := msL (fun _ : Int => 1)) (tot := fun a : List Int => a.length) 1 (fun y => by rw [msL_one]; omega) x; omega) m.Results
  have h7 := h3 m.Source.Facts
  unfold mtN_Mediator tot_Mediator mtN_Source mtN_Cache tot_Source tot_Cache
  rw [msL_one, msL_one]
  omega
def pDig (n : Int) : List UInt8 := [UInt8.ofNat (48 + n.toNat)]
theorem s_FormatInt_eq {K : Nat} (hK : 2 ≤ K) (n : Int) (h : 0 ≤ n ∧ n ≤ 9) : s_FormatInt K n = some (pDig n) := by
  obtain ⟨k, rfl⟩ : ∃ k, K = k + 2 := ⟨K - 2, by omega⟩
  obtain ⟨h0, h1⟩ := h
  have : n = 0 ∨ n = 1 ∨ n = 2 ∨ n = 3 ∨ n = 4 ∨ n = 5 ∨ n = 6 ∨ n = 7 ∨ n = 8 ∨ n = 9 := by omega
  rcases this with rfl | rfl | rfl | rfl | rfl | rfl | rfl | rfl | rfl | rfl <;> rfl
theorem itoa_dig (n : Int) (h : 0 ≤ n ∧ n ≤ 9) : Lib.itoa n = pDig n := by
  unfold Lib.itoa pDig
  rw [if_neg (by omega), Lib.decDigits, dif_pos (by omega)]
theorem i_FormatInt_eq (n : Int) (h : 0 ≤ n ∧ n ≤ 9) : i_FormatInt n = some (pDig n) := by
  rw [i_FormatInt, g_strconv_Itoa, if_pos (by omega), itoa_dig n h]; rfl
theorem join_cons2 (x y : List UInt8) (l : List (List UInt8)) (sep : List UInt8) : Lib.join (x :: y :: l) sep = x ++ (sep ++ Lib.join (y :: l) sep) := by
  simp [Lib.join, List.intercalate, List.intersperse]
theorem join_one (x : List UInt8) (sep : List UInt8) : Lib.join [x] sep = x := by
  simp [Lib.join, List.intercalate, List.intersperse]
def pTail (sep : List UInt8) (l : List (List UInt8)) : List UInt8 := l.flatMap fun x => sep ++ x
theorem join_tail (x : List UInt8) (sep : List UInt8) : ∀ l : List (List UInt8), Lib.join (x :: l) sep = x ++ pTail sep l
  | [] => by rw [join_one]; simp [pTail]
  | y :: l => by rw [join_cons2, join_tail y sep l]; simp [pTail]
theorem pTail_len (sep : List UInt8) (n : Nat) : ∀ l : List (List UInt8), (∀ x ∈ l, x.length ≤ n) → (pTail sep l).length ≤ (sep.length + n) * l.length
  | [], _ => by simp [pTail]
  | x :: l, h => by
    have h1 := pTail_len sep n l fun y hy => h y (by simp [hy])
    have h2 := h x (by simp)
    simp only [pTail, List.flatMap_cons, List.length_append, List.length_cons, Nat.mul_succ] at *
    omega
theorem s_l2List_L1_eq {K : Nat} (hK : 2 ≤ K) : ∀ (l : List Int) (k : Nat) (c : List UInt8), 0 < k → (∀ x ∈ l, 0 ≤ x ∧ x ≤ 9) → c.length + 2 * l.length < 4294967296 → s_l2List_L1 K l k c = some (c ++ pTail [44] (l.map pDig))
  | [], k, c, _, _, _ => by simp [s_l2List_L1, pTail]
  | x :: l, k, c, hk, h, hl => by
    simp only [List.length_cons] at hl
    have e1 : cat c [44] = some (c ++ [44]) := by unfold cat; rw [if_pos (by simp; omega)]
    have e2 : cat (c ++ [44]) (pDig x) = some (c ++ [44] ++ pDig x) := by unfold cat; rw [if_pos (by simp [pDig]; omega)]
    unfold s_l2List_L1
    rw [if_pos (by simpa using hk), e1, Option.bind_some, s_FormatInt_eq hK x (h x (by simp)), Option.bind_some, e2, Option.bind_some, Option.bind_some]
    dsimp only
    rw [s_l2List_L1_eq hK l _ _ (by omega) (fun y hy => h y (by simp [hy])) (by simp [pDig]; omega)]
    simp [pTail]
theorem s_l2List_eq {K : Nat} (hK : 2 ≤ K) (l : List Int) (h : ∀ x ∈ l, 0 ≤ x ∧ x ≤ 9) (hl : l.length ≤ 3) : s_l2List K l = some (Lib.join (l.map pDig) [44]) := by
  unfold s_l2List
  cases l with
  | nil => rfl
  | cons x l =>
    simp only [List.length_cons] at hl
    have e2 : cat [] (pDig x) = some (pDig x) := by unfold cat; rw [if_pos (by simp [pDig])]; rfl
    unfold s_l2List_L1
    rw [if_neg (by simp), s_FormatInt_eq hK x (h x (by simp)), Option.bind_some, e2, Option.bind_some, Option.bind_some]
    dsimp only
    rw [s_l2List_L1_eq hK l _ _ (by omega) (fun y hy => h y (by simp [hy])) (by simp [pDig]; omega), List.map_cons, join_tail]
theorem i_joined_L1_eq : ∀ (l : List Int) (k : Nat) (c : List (List UInt8)), (∀ x ∈ l, 0 ≤ x ∧ x ≤ 9) → c.length + l.length ≤ 3 → (∀ x ∈ c, x.length ≤ 1) → i_joined_L1 [44] l k c = some (Lib.join (c ++ l.map pDig) [44])
  | [], k, c, _, hl, hc => by
    have hj : (Lib.join c [44]).length ≤ 10 := by
      cases c with
      | nil => simp [Lib.join, List.intercalate]
      | cons x c =>
        rw [join_tail, List.length_append]
        have h1 := pTail_len [44] 1 c fun y hy => hc y (by simp [hy])
        have h2 := hc x (by simp)
        simp only [List.length_cons, List.length_nil] at h1 hl
        omega
    simp only [List.length_nil, Nat.add_zero] at hl
    unfold i_joined_L1
    rw [g_strings_Join, if_pos ⟨by omega, by omega⟩]
    simp
  | x :: l, k, c, h, hl, hc => by
    simp only [List.length_cons] at hl
    unfold i_joined_L1
    rw [i_FormatInt_eq x (h x (by simp)), Option.bind_some, app_ok (by simp; omega), Option.bind_some, i_joined_L1_eq l _ _ (fun y hy => h y (by simp [hy])) (by simp; omega) (fun y hy => by
      rcases List.mem_append.1 hy with hy | hy
      · exact hc y hy
      · rw [List.mem_singleton.1 hy]; simp [pDig])]
    simp
theorem i_joined_eq (l : List Int) (h : ∀ x ∈ l, 0 ≤ x ∧ x ≤ 9) (hl : l.length ≤ 3) : i_joined l [44] = some (Lib.join (l.map pDig) [44]) := by
  rw [i_joined, i_joined_L1_eq l 0 [] h (by simpa using hl) (by simp)]; rfl
def pAccOK (a : Access) : Bool := pIn 0 4 a.Method && (!decide ((3 : Int) < (a.Values.length : Int)) && a.Values.all (pIn 0 9))
def pFmtA (a : Access) : List UInt8 := if pAccOK a then [109] ++ pDig a.Method ++ [40] ++ Lib.join (a.Values.map pDig) [44] ++ [41] else []
theorem join_digs (l : List Int) (hl : l.length ≤ 3) : (Lib.join (l.map pDig) [44]).length ≤ 7 := by
  cases l with
  | nil => simp [Lib.join, List.intercalate]
  | cons x l =>
    rw [List.map_cons, join_tail, List.length_append]
    have h1 := pTail_len [44] 1 (l.map pDig) fun y hy => by
      obtain ⟨z, -, rfl⟩ := List.mem_map.1 hy
      simp [pDig]
    simp only [List.length_cons, List.length_nil, List.length_map] at h1 hl
    have : (pDig x).length = 1 := rfl
    omega
theorem pAccOK_vals {a : Access} (h : pAccOK a = true) : (0 ≤ a.Method ∧ a.Method ≤ 4) ∧ a.Values.length ≤ 3 ∧ ∀ x ∈ a.Values, 0 ≤ x ∧ x ≤ 9 := by
  simp only [pAccOK, Bool.and_eq_true, Bool.not_eq_true', decide_eq_false_iff_not, List.all_eq_true, pIn, decide_eq_true_eq] at h
  exact ⟨h.1, by omega, h.2.2⟩
theorem pFmtA_cats {m v : List UInt8} (hm : m.length ≤ 1) (hv : v.length ≤ 7) : (((cat [109] m).bind fun x => (cat x [40]).bind fun y => (cat y v).bind fun z => cat z [41]) : Option (List UInt8)) = some ([109] ++ m ++ [40] ++ v ++ [41]) := by
  have e1 : cat [109] m = some ([109] ++ m) := by unfold cat; rw [if_pos (by simp; omega)]
  have e2 : cat ([109] ++ m) [40] = some ([109] ++ m ++ [40]) := by unfold cat; rw [if_pos (by simp; omega)]
  have e3 : cat ([109] ++ m ++ [40]) v = some ([109] ++ m ++ [40] ++ v) := by unfold cat; rw [if_pos (by simp; omega)]
  have e4 : cat ([109] ++ m ++ [40] ++ v) [41] = some ([109] ++ m ++ [40] ++ v ++ [41]) := by unfold cat; rw [if_pos (by simp; omega)]
  rw [e1, Option.bind_some, e2, Option.bind_some, e3, Option.bind_some, e4]
theorem s_FormatAccess_L1_eq {K : Nat} (hK : 2 ≤ K) (a : Access) (hm : 0 ≤ a.Method ∧ a.Method ≤ 4) (hl : a.Values.length ≤ 3) : ∀ (l : List Int) (k : Nat), (l.all (pIn 0 9) = true → ∀ x ∈ a.Values, 0 ≤ x ∧ x ≤ 9) → s_FormatAccess_L1 a K l k = some (if l.all (pIn 0 9) then [109] ++ pDig a.Method ++ [40] ++ Lib.join (a.Values.map pDig) [44] ++ [41] else [])
  | [], k, hv => by
    have hv' := hv rfl
    have hj := join_digs a.Values hl
    have := pFmtA_cats (m := pDig a.Method) (v := Lib.join (a.Values.map pDig) [44]) (by simp [pDig]) hj
    unfold s_FormatAccess_L1
    rw [s_FormatInt_eq hK _ (by omega), Option.bind_some, s_l2List_eq hK a.Values hv' hl]
    simp only [Option.bind_some] at this ⊢
    rw [if_pos (by rfl), ← this]
    cases cat [109] (pDig a.Method) with
    | none => rfl
    | some x =>
      simp only [Option.bind_some]
      cases cat x [40] with
      | none => rfl
      | some y =>
        simp only [Option.bind_some]
        cases cat y (Lib.join (a.Values.map pDig) [44]) with
        | none => rfl
        | some z =>
          simp only [Option.bind_some]
          cases cat z [41] <;> rfl
  | x :: l, k, hv => by
    unfold s_FormatAccess_L1
    rw [s_l1In_eq, Option.bind_some]
    cases h : pIn 0 9 x
    · simp [h]
    · rw [if_neg (by simp), s_FormatAccess_L1_eq hK a hm hl l _ (fun h' => hv (by simp [h, h']))]; simp [h]
theorem pIn9_vals {l : List Int} (h : l.all (pIn 0 9) = true) : ∀ x ∈ l, 0 ≤ x ∧ x ≤ 9 := by
  simpa only [List.all_eq_true, pIn, Bool.and_eq_true, decide_eq_true_eq] using h
theorem s_FormatAccess_eq {K : Nat} (hK : 2 ≤ K) (a : Access) : s_FormatAccess K a = some (pFmtA a) := by
  unfold s_FormatAccess pFmtA pAccOK
  rw [s_l1In_eq, Option.bind_some]
  cases h1 : pIn 0 4 a.Method
  · rfl
  by_cases h2 : (3 : Int) < (a.Values.length : Int)
  · simp [h2]
  · have hm : 0 ≤ a.Method ∧ a.Method ≤ 4 := by simpa only [pIn, Bool.and_eq_true, decide_eq_true_eq] using h1
    simp only [h2, Bool.not_true, cond_false, decide_false, Option.bind_some, Bool.false_eq_true, if_false, Bool.not_false, Bool.true_and]
    exact s_FormatAccess_L1_eq hK a hm (by omega) a.Values 0 pIn9_vals
theorem i_FormatAccess_eq (a : Access) : i_FormatAccess a = some (pFmtA a) := by
  unfold i_FormatAccess pFmtA pAccOK
  rw [i_within_eq, Option.bind_some]
  cases h1 : pIn 0 4 a.Method
  · rfl
  by_cases h2 : (3 : Int) < (a.Values.length : Int)
  · simp [h2]
  · have hm : 0 ≤ a.Method ∧ a.Method ≤ 4 := by simpa only [pIn, Bool.and_eq_true, decide_eq_true_eq] using h1
    simp only [h2, Bool.not_true, cond_false, decide_false, i_areValues_eq, Option.bind_some, Bool.not_false, Bool.true_and]
    cases h3 : a.Values.all (pIn 0 9)
    · rfl
    · have hl : a.Values.length ≤ 3 := by omega
      have := pFmtA_cats (m := pDig a.Method) (v := Lib.join (a.Values.map pDig) [44]) (by simp [pDig]) (join_digs a.Values hl)
      simp only [Bool.not_true, Bool.false_eq_true, if_false, if_true]
      rw [i_FormatInt_eq _ (by omega), Option.bind_some, i_joined_eq a.Values (pIn9_vals h3) hl]
      simp only [Option.bind_some] at this ⊢
      rw [← this]
      cases cat [109] (pDig a.Method) with
      | none => rfl
      | some x =>
        simp only [Option.bind_some]
        cases cat x [40] with
        | none => rfl
        | some y =>
          simp only [Option.bind_some]
          cases cat y (Lib.join (a.Values.map pDig) [44]) with
          | none => rfl
          | some z =>
            simp only [Option.bind_some]
            cases cat z [41] <;> rfl
theorem pFmtA_len (a : Access) : (pFmtA a).length ≤ 11 := by
  unfold pFmtA
  split
  · rename_i h
    have := join_digs a.Values (pAccOK_vals h).2.1
    simp [pDig]; omega
  · simp
theorem decDigits_rec (u : Nat) : Lib.decDigits u = if u < 10 then [UInt8.ofNat (48 + u)] else Lib.decDigits (u / 10) ++ [UInt8.ofNat (48 + u % 10)] := by
  rw [Lib.decDigits]
  by_cases h : u < 10
  · rw [dif_pos h, if_pos h]
  · rw [dif_neg h, if_neg h]
theorem decDigits_len : ∀ (m u : Nat), u < 10 ^ (m + 1) → (Lib.decDigits u).length ≤ m + 1
  | 0, u, h => by rw [decDigits_rec, if_pos (by simpa using h)]; simp
  | m + 1, u, h => by
    rw [decDigits_rec]
    split
    · simp
    · have := decDigits_len m (u / 10) (by rw [Nat.pow_succ] at h; omega)
      rw [List.length_append, List.length_singleton]; omega
theorem itoa_len (n : Int) (h : -9223372036854775808 ≤ n ∧ n ≤ 9223372036854775807) : (Lib.itoa n).length ≤ 20 := by
  unfold Lib.itoa
  split
  · have := decDigits_len 18 n.natAbs (by omega)
    rw [List.length_cons]; omega
  · have := decDigits_len 18 n.toNat (by omega)
    omega
theorem s_FormatInt_L1_gen : ∀ (m u : Nat) (n : Int) (c : List UInt8), n.natAbs = u → u < 10 ^ m → -9223372036854775808 ≤ n ∧ n ≤ 9223372036854775807 → c.length + m < 4294967296 → s_FormatInt_L1 (m + 1) n c = some ((if u = 0 then [] else Lib.decDigits u) ++ c)
  | 0, u, n, c, hu, h, _, _ => by
    have h0 : n = 0 := by simp at h; omega
    subst h0
    have : u = 0 := by simpa using hu.symm
    subst this
    unfold s_FormatInt_L1
    rw [if_neg (by simp)]; rfl
  | m + 1, u, n, c, hu, h, hr, hc => by
    by_cases h0 : u = 0
    · have hn : n = 0 := by omega
      subst hn
      subst h0
      unfold s_FormatInt_L1
      rw [if_neg (by simp)]; rfl
    · have hn : n ≠ 0 := by omega
      have hc1 : ∀ b : UInt8, cat [b] c = some (b :: c) := fun b => by unfold cat; rw [if_pos (by simp; omega)]; rfl
      have hd : n.tdiv 10 = if n < 0 then -((u / 10 : Nat) : Int) else ((u / 10 : Nat) : Int) := by
        split
        · have : n = -(u : Int) := by omega
          rw [this, Int.neg_tdiv]; rfl
        · have : n = (u : Int) := by omega
          rw [this]; rfl
      have hm : n.tmod 10 = if n < 0 then -((u % 10 : Nat) : Int) else ((u % 10 : Nat) : Int) := by
        split
        · have : n = -(u : Int) := by omega
          rw [this, Int.neg_tmod]; rfl
        · have : n = (u : Int) := by omega
          rw [this]; rfl
      have hw : IntKind.i64.wrap (n.tdiv 10) = n.tdiv 10 := wrap_in (by rw [hd]; split <;> omega) (by rw [hd]; split <;> omega)
      have hu8 : ∀ r : Nat, r < 10 → u8of (IntKind.i64.wrap (48 + (r : Int))) = UInt8.ofNat (48 + r) := by
        intro r hr
        have : r = 0 ∨ r = 1 ∨ r = 2 ∨ r = 3 ∨ r = 4 ∨ r = 5 ∨ r = 6 ∨ r = 7 ∨ r = 8 ∨ r = 9 := by omega
        rcases this with rfl | rfl | rfl | rfl | rfl | rfl | rfl | rfl | rfl | rfl <;> decide
      have hlt : u % 10 < 10 := Nat.mod_lt _ (by omega)
      have hgo := s_FormatInt_L1_gen m (u / 10) (n.tdiv 10) (UInt8.ofNat (48 + u % 10) :: c) (by rw [hd]; split <;> omega) (by rw [Nat.pow_succ] at h; omega) (by rw [hd]; split <;> omega) (by simp; omega)
      have hfin : ((if u / 10 = 0 then [] else Lib.decDigits (u / 10)) ++ UInt8.ofNat (48 + u % 10) :: c) = (if u = 0 then [] else Lib.decDigits u) ++ c := by
        rw [if_neg h0, decDigits_rec u]
        by_cases h9 : u < 10
        · rw [if_pos h9, if_pos (by omega), Nat.mod_eq_of_lt h9]; rfl
        · rw [if_neg h9, if_neg (by omega)]; simp
      rw [hfin] at hgo
      unfold s_FormatInt_L1
      rw [if_pos (by simpa using hn), hw, hm]
      by_cases hneg : n < 0
      · rw [if_pos hneg]
        by_cases hz : u % 10 = 0
        · rw [if_neg (by simp only [decide_eq_true_eq]; omega), show -((u % 10 : Nat) : Int) = ((u % 10 : Nat) : Int) from by omega, hu8 _ hlt, hc1, Option.bind_some]
          exact hgo
        · rw [if_pos (by simp only [decide_eq_true_eq]; omega), show IntKind.i64.wrap (- -((u % 10 : Nat) : Int)) = ((u % 10 : Nat) : Int) from by rw [Int.neg_neg]; exact wrap_in (by omega) (by omega), hu8 _ hlt, hc1, Option.bind_some]
          exact hgo
      · rw [if_neg hneg, if_neg (by simp only [decide_eq_true_eq]; omega), hu8 _ hlt, hc1, Option.bind_some]
        exact hgo
theorem s_FormatInt_gen (k : Nat) (n : Int) (hr : -9223372036854775808 ≤ n ∧ n ≤ 9223372036854775807) (hk : 19 ≤ k) (hk2 : k < 1000) : s_FormatInt (k + 1) n = some (Lib.itoa n) := by
  unfold s_FormatInt Lib.itoa
  by_cases h0 : n = 0
  · subst h0
    rw [if_pos (by decide), if_neg (by decide), show Int.toNat 0 = 0 from rfl, decDigits_rec]; rfl
  · rw [if_neg (by simpa using h0), s_FormatInt_L1_gen k n.natAbs n [] rfl (Nat.lt_of_lt_of_le (show n.natAbs < 10 ^ 19 by omega) (Nat.pow_le_pow_right (by decide) hk)) hr (by simp; omega), Option.bind_some, if_neg (show ¬ n.natAbs = 0 by omega), List.append_nil]
    dsimp only
    by_cases hneg : n < 0
    · have := decDigits_len 18 n.natAbs (by omega)
      rw [if_pos (by simpa using hneg), if_pos hneg]
      unfold cat
      rw [if_pos (by simp; omega)]; rfl
    · rw [if_neg (by simpa using hneg), if_neg hneg, show n.natAbs = n.toNat from by omega]
theorem i_FormatInt_gen (n : Int) (hr : -9223372036854775808 ≤ n ∧ n ≤ 9223372036854775807) : i_FormatInt n = some (Lib.itoa n) := by
  rw [i_FormatInt, g_strconv_Itoa, if_pos hr]; rfl
theorem cat_sm {a b : List UInt8} (h : a.length + b.length < 4294967296) : cat a b = some (a ++ b) := by unfold cat; rw [if_pos (by omega)]
theorem join_len (sep : List UInt8) : ∀ l : List (List UInt8), (Lib.join l sep).length ≤ (l.map List.length).sum + sep.length * l.length
  | [] => by simp [Lib.join, List.intercalate]
  | [x] => by rw [join_one]; simp
  | x :: y :: l => by
    have := join_len sep (y :: l)
    rw [join_cons2]
    simp only [List.length_append, List.map_cons, List.sum_cons, List.length_cons, Nat.mul_succ] at *
    omega
def pFactOK (f : Fact) : Bool := pIn 0 2 f.Rel && (pIn 1 3 (f.Values.length : Int) && f.Values.all (pIn 0 9))
def pFmtF (f : Fact) : List UInt8 := if pFactOK f then [114] ++ pDig f.Rel ++ [40] ++ Lib.join (f.Values.map pDig) [44] ++ [41] else []
theorem pFmtF_cats {m v : List UInt8} (hm : m.length ≤ 1) (hv : v.length ≤ 7) : (((cat [114] m).bind fun x => (cat x [40]).bind fun y => (cat y v).bind fun z => (cat z [41]).bind fun u => some u) : Option (List UInt8)) = some ([114] ++ m ++ [40] ++ v ++ [41]) := by
  rw [cat_sm (by simp; omega), Option.bind_some, cat_sm (by simp; omega), Option.bind_some, cat_sm (by simp; omega), Option.bind_some, cat_sm (by simp; omega), Option.bind_some]
theorem s_FormatFact_L1_eq {K : Nat} (hK : 2 ≤ K) (a : Fact) (hm : 0 ≤ a.Rel ∧ a.Rel ≤ 2) (hl : a.Values.length ≤ 3) : ∀ (l : List Int) (k : Nat), (l.all (pIn 0 9) = true → ∀ x ∈ a.Values, 0 ≤ x ∧ x ≤ 9) → s_FormatFact_L1 a K l k = some (if l.all (pIn 0 9) then [114] ++ pDig a.Rel ++ [40] ++ Lib.join (a.Values.map pDig) [44] ++ [41] else [])
  | [], k, hv => by
    have hv' := hv rfl
    unfold s_FormatFact_L1
    rw [s_FormatInt_eq hK _ (by omega), Option.bind_some, s_l2List_eq hK a.Values hv' hl]
    simp only [Option.bind_some]
    rw [if_pos (by rfl)]
    exact pFmtF_cats (by simp [pDig]) (join_digs a.Values hl)
  | x :: l, k, hv => by
    unfold s_FormatFact_L1
    rw [s_l1In_eq, Option.bind_some]
    cases h : pIn 0 9 x
    · simp [h]
    · rw [if_neg (by simp), s_FormatFact_L1_eq hK a hm hl l _ (fun h' => hv (by simp [h, h']))]; simp [h]
theorem s_FormatFact_eq {K : Nat} (hK : 2 ≤ K) (a : Fact) : s_FormatFact K a = some (pFmtF a) := by
  unfold s_FormatFact pFmtF pFactOK
  rw [s_l1In_eq, Option.bind_some]
  cases h1 : pIn 0 2 a.Rel
  · rfl
  rw [s_l1In_eq, Option.bind_some]
  cases h2 : pIn 1 3 (a.Values.length : Int)
  · rfl
  have hm : 0 ≤ a.Rel ∧ a.Rel ≤ 2 := by simpa only [pIn, Bool.and_eq_true, decide_eq_true_eq] using h1
  have hn : 1 ≤ (a.Values.length : Int) ∧ (a.Values.length : Int) ≤ 3 := by simpa only [pIn, Bool.and_eq_true, decide_eq_true_eq] using h2
  simp only [Bool.not_true, cond_false, Option.bind_some, Bool.false_eq_true, if_false, Bool.true_and]
  exact s_FormatFact_L1_eq hK a hm (by omega) a.Values 0 pIn9_vals
theorem i_FormatFact_eq (a : Fact) : i_FormatFact a = some (pFmtF a) := by
  unfold i_FormatFact pFmtF pFactOK i_isRel
  rw [i_within_eq, Option.bind_some, Option.bind_some]
  cases h1 : pIn 0 2 a.Rel
  · rfl
  rw [i_within_eq, Option.bind_some]
  cases h2 : pIn 1 3 (a.Values.length : Int)
  · rfl
  have hm : 0 ≤ a.Rel ∧ a.Rel ≤ 2 := by simpa only [pIn, Bool.and_eq_true, decide_eq_true_eq] using h1
  have hn : 1 ≤ (a.Values.length : Int) ∧ (a.Values.length : Int) ≤ 3 := by simpa only [pIn, Bool.and_eq_true, decide_eq_true_eq] using h2
  simp only [Bool.not_true, cond_false, i_areValues_eq, Option.bind_some, Bool.true_and]
  cases h3 : a.Values.all (pIn 0 9)
  · rfl
  · simp only [Bool.not_true, Bool.false_eq_true, if_false, if_true]
    rw [i_FormatInt_eq _ (by omega), Option.bind_some, i_joined_eq a.Values (pIn9_vals h3) (by omega)]
    simp only [Option.bind_some]
    exact pFmtF_cats (by simp [pDig]) (join_digs a.Values (by omega))
theorem pFmtF_len (a : Fact) : (pFmtF a).length ≤ 11 := by
  unfold pFmtF
  split
  · rename_i h
    simp only [pFactOK, Bool.and_eq_true, pIn, decide_eq_true_eq] at h
    have := join_digs a.Values (by omega)
    simp [pDig]; omega
  · simp
theorem totL_mem {α : Type} {tot : α → Nat} : ∀ {l : List α} {x : α}, x ∈ l → tot x ≤ totL tot l
  | y :: l, x, h => by
    unfold totL
    simp only [List.map_cons, List.sum_cons, List.length_cons]
    rcases List.mem_cons.1 h with rfl | h
    · omega
    · have := totL_mem (tot := tot) h
      unfold totL at this
      omega
def pFactsT (l : List Fact) : List UInt8 := if Lib.join (l.map pFmtF) [32] = [] then [110, 111, 110, 101] else Lib.join (l.map pFmtF) [32]
theorem pFmtFs_sum : ∀ l : List Fact, ((l.map pFmtF).map List.length).sum ≤ 11 * l.length
  | [] => by simp
  | f :: l => by
    have h1 := pFmtFs_sum l
    have h2 := pFmtF_len f
    simp only [List.map_cons, List.sum_cons, List.length_cons] at *
    omega
theorem pFactsT_len (l : List Fact) : (pFactsT l).length ≤ 12 * l.length + 4 := by
  have h1 := join_len [32] (l.map pFmtF)
  have h2 := pFmtFs_sum l
  simp only [List.length_singleton, List.length_map] at h1
  unfold pFactsT
  split
  · simp
  · omega
theorem s_l36Facts_L1_eq {K : Nat} (hK : 2 ≤ K) : ∀ (l : List Fact) (k : Nat) (c : List UInt8), 0 < k → c.length + 12 * l.length < 4294967296 → s_l36Facts_L1 K l k c = some (if c ++ pTail [32] (l.map pFmtF) = [] then [110, 111, 110, 101] else c ++ pTail [32] (l.map pFmtF))
  | [], k, c, _, _ => by
    unfold s_l36Facts_L1
    by_cases hc : c = []
    · subst hc; rfl
    · rw [if_neg (by simpa using hc), if_neg (by simp [hc])]; simp [pTail]
  | f :: l, k, c, hk, hl => by
    simp only [List.length_cons] at hl
    have hf := pFmtF_len f
    unfold s_l36Facts_L1
    rw [if_pos (by simpa using hk), cat_sm (by simp; omega), Option.bind_some, s_FormatFact_eq hK, Option.bind_some, cat_sm (by simp; omega), Option.bind_some, Option.bind_some]
    dsimp only
    rw [s_l36Facts_L1_eq hK l _ _ (by omega) (by simp; omega)]
    simp [pTail]
theorem s_l36Facts_eq {K : Nat} (hK : 2 ≤ K) (l : List Fact) (hl : l.length ≤ 1048576) : s_l36Facts K l = some (pFactsT l) := by
  unfold s_l36Facts pFactsT
  cases l with
  | nil => rfl
  | cons f l =>
    simp only [List.length_cons] at hl
    have hf := pFmtF_len f
    unfold s_l36Facts_L1
    rw [if_neg (by simp), s_FormatFact_eq hK, Option.bind_some, cat_sm (by simp; omega), Option.bind_some, Option.bind_some, List.nil_append]
    dsimp only
    rw [s_l36Facts_L1_eq hK l _ _ (by omega) (by omega), List.map_cons, join_tail]
theorem i_factsText_L1_eq : ∀ (l : List Fact) (k : Nat) (c : List (List UInt8)), c.length + l.length ≤ 1048576 → (c.map List.length).sum ≤ 11 * c.length → i_factsText_L1 l k c = some (if Lib.join (c ++ l.map pFmtF) [32] = [] then [110, 111, 110, 101] else Lib.join (c ++ l.map pFmtF) [32])
  | [], k, c, hl, hc => by
    have hj := join_len [32] c
    simp only [List.length_singleton, List.length_nil, Nat.add_zero] at hj hl
    unfold i_factsText_L1
    rw [g_strings_Join, if_pos ⟨by omega, by omega⟩, Option.bind_some, List.map_nil, List.append_nil]
    by_cases h : Lib.join c [32] = []
    · rw [if_pos (by simpa using h), if_pos h]
    · rw [if_neg (by simpa using h), if_neg h]
  | f :: l, k, c, hl, hc => by
    simp only [List.length_cons] at hl
    have hf := pFmtF_len f
    unfold i_factsText_L1
    rw [i_FormatFact_eq, Option.bind_some, app_ok (by simp; omega), Option.bind_some, i_factsText_L1_eq l _ _ (by simp; omega) (by simp; omega)]
    simp
theorem i_factsText_eq (l : List Fact) (hl : l.length ≤ 1048576) : i_factsText l = some (pFactsT l) := by
  unfold i_factsText pFactsT
  rw [i_factsText_L1_eq l 0 [] (by simpa using hl) (by simp), List.nil_append]
def pCacheLine (e : Stored) : List UInt8 := pFmtA e.Access ++ [32, 97, 116, 32] ++ Lib.itoa e.At ++ [32] ++ pFactsT e.Facts
def StoOK (e : Stored) : Prop := (-9223372036854775808 ≤ e.At ∧ e.At ≤ 9223372036854775807) ∧ e.Facts.length ≤ 1048576
theorem i_CacheLines_L1_eq : ∀ (l : List Stored) (k : Nat) (c : List (List UInt8)), (∀ e ∈ l, StoOK e) → c.length + l.length < 4294967296 → i_CacheLines_L1 l k c = some (c ++ l.map pCacheLine)
  | [], k, c, _, _ => by simp [i_CacheLines_L1]
  | e :: l, k, c, h, hl => by
    simp only [List.length_cons] at hl
    have he := h e (by simp)
    have h1 := pFmtA_len e.Access
    have h2 := itoa_len e.At he.1
    have h3 := pFactsT_len e.Facts
    have h4 := he.2
    unfold i_CacheLines_L1
    rw [i_FormatAccess_eq, Option.bind_some, cat_sm (by simp; omega), Option.bind_some, i_FormatInt_gen e.At he.1, Option.bind_some, cat_sm (by simp; omega), Option.bind_some, cat_sm (by simp; omega), Option.bind_some, i_factsText_eq e.Facts h4, Option.bind_some, cat_sm (by simp; omega), Option.bind_some, app_ok (by simp; omega), Option.bind_some, i_CacheLines_L1_eq l _ _ (fun y hy => h y (by simp [hy])) (by simp; omega)]
    simp [pCacheLine]
def pCacheLines (m : Mediator) : List (List UInt8) := if pMed m then m.Cache.Entries.map pCacheLine else []
theorem i_CacheLines_eq (m : Mediator) (hb : bd_Mediator m) (h : ∀ e ∈ m.Cache.Entries, StoOK e) : i_CacheLines m = some (pCacheLines m) := by
  have hE : m.Cache.Entries.length < 4294967296 := hb.2.2.2.2.1.1
  unfold i_CacheLines pCacheLines
  rw [i_IsMediator_eq m hb, Option.bind_some]
  cases pMed m
  · rfl
  · rw [if_neg (by simp), i_CacheLines_L1_eq _ _ _ h (by simpa using hE)]; rfl
theorem s_CacheLines_L1_eq (m : Mediator) (hb : bd_Mediator m) (h : ∀ e ∈ m.Cache.Entries, StoOK e) (hM : pMed m = true) : ∀ (n i : Nat) (c : List (List UInt8)), i ≤ m.Cache.Entries.length → m.Cache.Entries.length - i < n → c.length ≤ i → s_CacheLines_L1 m 20 n c (i : Int) = some (c ++ (m.Cache.Entries.drop i).map pCacheLine)
  | 0, i, c, _, h, _ => by omega
  | n + 1, i, c, hi, hn, hc => by
    have hE : m.Cache.Entries.length < 4294967296 := hb.2.2.2.2.1.1
    unfold s_CacheLines_L1
    by_cases hlt : i < m.Cache.Entries.length
    · have hx : ix m.Cache.Entries (i : Int) = some m.Cache.Entries[i] := by rw [ix_nat, List.getElem?_eq_getElem hlt]
      have he := h m.Cache.Entries[i] (List.getElem_mem hlt)
      rw [List.drop_eq_getElem_cons hlt, List.map_cons]
      generalize m.Cache.Entries[i] = e at *
      have h1 := pFmtA_len e.Access
      have h2 := itoa_len e.At he.1
      have h3 := pFactsT_len e.Facts
      have h4 := he.2
      rw [show decide ((i : Int) < (m.Cache.Entries.length : Int)) = true from by simpa using hlt, cond_true, s_IsMediator_eq m hb, Option.bind_some, Option.bind_some, hM]
      simp only [if_true]
      rw [hx, Option.bind_some, s_FormatAccess_eq (by omega), Option.bind_some, cat_sm (by simp; omega), Option.bind_some, s_FormatInt_gen 19 e.At he.1 (by omega) (by omega), Option.bind_some, cat_sm (by simp; omega), Option.bind_some, cat_sm (by simp; omega), Option.bind_some, s_l36Facts_eq (by omega) e.Facts h4, Option.bind_some, cat_sm (by simp; omega), Option.bind_some, app_ok (by simp; omega), Option.bind_some, show IntKind.i64.wrap ((i : Int) + 1) = ((i + 1 : Nat) : Int) from by rw [wrap_in (by omega) (by omega)]; rfl, s_CacheLines_L1_eq m hb h hM n (i + 1) _ (by omega) (by omega) (by simp; omega)]
      simp [pCacheLine]
    · rw [show decide ((i : Int) < (m.Cache.Entries.length : Int)) = false from by simpa using hlt, cond_false, Option.bind_some, List.drop_eq_nil_of_le (by omega)]
      simp
theorem s_CacheLines_eq (m : Mediator) (hb : bd_Mediator m) (h : ∀ e ∈ m.Cache.Entries, StoOK e) : s_CacheLines 20 m = some (pCacheLines m) := by
  have hE : m.Cache.Entries.length < 4294967296 := hb.2.2.2.2.1.1
  unfold s_CacheLines pCacheLines
  cases hM : pMed m
  · unfold s_CacheLines_L1
    rw [s_IsMediator_eq m hb, hM]
    cases decide ((0 : Int) < (m.Cache.Entries.length : Int)) <;> rfl
  · rw [if_pos rfl, show (0 : Int) = ((0 : Nat) : Int) from rfl, s_CacheLines_L1_eq m hb h hM _ 0 [] (by omega) (by omega) (by simp)]; rfl

theorem law_fnExactCacheLines {m : Mediator} (wm : wf34 m) : ∃ fuel, l_FnExactCacheLines fuel m = some true := by
  refine ⟨20, ?_⟩
  unfold l_FnExactCacheLines
  obtain ⟨n1, e1, h1⟩ := sz_Mediator m wm 1048576 (by omega) (by omega)
  rw [e1, Option.bind_some]
  try dsimp only at h1
  rcases h1 with ⟨rfl, p1⟩ | p1
  rotate_left
  · rw [if_pos (by simpa using p1)]
  rw [if_neg (by simp only [decide_eq_true_eq]; omega)]
  have b := bd_Med m (by omega)
  obtain ⟨w1, w2, w3, w4, w5, w6, w7, w8, w9, w10⟩ := id wm
  have ht : tot_Mediator m ≤ 1048576 := by omega
  unfold tot_Mediator tot_Cache at ht
  have hE : m.Cache.Entries.length ≤ 1048576 := by
    have : m.Cache.Entries.length ≤ totL tot_Stored m.Cache.Entries := by unfold totL; omega
    omega
  have hS : ∀ e ∈ m.Cache.Entries, StoOK e := fun e he => by
    have h3 := totL_mem (tot := tot_Stored) he
    refine ⟨(w5.1.2 e he).2.2, ?_⟩
    have h5 : totL tot_Fact e.Facts ≤ tot_Stored e := by unfold tot_Stored; omega
    have : e.Facts.length ≤ totL tot_Fact e.Facts := by unfold totL; omega
    omega
  have hR : (pCacheLines m).length ≤ 1048576 := by
    unfold pCacheLines
    split
    · simpa using hE
    · simp
  have m1 := ms_Mediator m
  have k1 := mark_Mediator m 1 b (by omega) (by omega)
  have b3 : bdL bdAny (pCacheLines m) := bdL_flat _ (by omega)
  have m3 : msL (fun _ : List UInt8 => 1) (pCacheLines m) = (pCacheLines m).length := by
    unfold msL
    generalize pCacheLines m = R
    induction R with
    | nil => rfl
    | cons x R ih => rw [List.map_cons, List.sum_cons, ih, List.length_cons]; omega
  have k3 := mark_StringS (pCacheLines m) 1 b3 (by omega) (by omega)
  have k4 := held_StringS (pCacheLines m) 1 b3 (by omega) (by omega)
  simp only [to_Mediator m b, s_CacheLines_eq m b hS, i_CacheLines_eq m b hS, eq_StringS, eq_Mediator, k1, k3, k4, Option.bind_some, Bool.not_true, Bool.false_eq_true, if_false, neg_dec, cond_false, bne_self_eq_false]

end Go.Proofs.YtekdaagipplhhaaGreatDoor

/-
  The row FnExactCacheLines.
-/
set_option maxRecDepth 100000
namespace Go.Proofs.YtekdaagipplhhaaGreatDoor.fnExactCacheLines
open Go Go.Fw Go.ChangeShapes Go.WideShapes Go.ChangeAt Go.RowKit

theorem own : ownKnob Tryz.prog.godebug = none := by kernel_rfl
theorem door_met (os : Os) (args : Array Value) : laidMetH Tryz.prog Rows.fnExactCacheLinesRow.laid ((World.doorLaid Tryz.prog 400 os).forCall (fun _ _ => 0) ⟨#[], args, []⟩).memory :=
  laidMetH_of_parts3 (fuel := 8) (laidMet_of_run' 8 (by kernel_rfl) (by kernel_rfl)) (by kernel_rfl) (by kernel_rfl)
theorem gTab : Tryz.prog.globalNamed "internal/strconv.uint64pow10" = some 0 := by kernel_rfl
theorem gTabT : (Tryz.prog.globals[0]?).map (·.type) = some 268 := by kernel_rfl
theorem laidOut : laidOutB Tryz.prog = true := by kernel_rfl

set_option maxRecDepth 100000 in
theorem lifted (os : Os) (started : os.Started) (H : Type) (enc : TypeId × Value → H) :
    ReturnsInHanded {} Tryz.checked os 3 .any (fun w args => (Rows.fnExactCacheLinesSpec.pre enc Tryz.prog Tryz.f3 [] false w args ∧ laidMetH Tryz.prog Rows.fnExactCacheLinesRow.laid w) ∧ sizedMet enc Tryz.prog Tryz.f3 (OpenSpec.ofChange Rows.fnExactCacheLinesSpec) false w args) (Rows.fnExactCacheLinesSpec.post enc Tryz.prog Tryz.f3 false true false false) := by
  refine returnsInHanded_of_change_and (C := Tryz.checked) (X := fun w _ => laidMetH Tryz.prog Rows.fnExactCacheLinesRow.laid w) (fun _ _ _ hh h => h.of_heap hh) own started (by kernel_rfl) Tryz.func3
    (ChangeSpec.witness_shaped (enc := enc) (C := Tryz.checked) (os := os) (X := fun w _ => laidMetH Tryz.prog Rows.fnExactCacheLinesRow.laid w) false (World.doorLaid Tryz.prog 400 os) #[.agg #[.slice none 0 0, .slice none 0 0, .slice none 0 0, .slice none 0 0, .int .i64 0, .slice none 0 0, .int .i64 0, .int .i64 0, .slice none 0 0, .slice none 0 0, .int .i64 0, .slice none 0 0]] 16 rfl (World.shaped_of_RefB (by kernel_rfl) (by kernel_rfl)) (by kernel_rfl) (by kernel_rfl) (by kernel_rfl) (door_met os _)) ?_
  intro W base args ds gs before hval hW _ hwt hL _
  rw [MakeChecks.laidMetH_plain _ _ _ (by kernel_rfl)] at hL
  have htab : Lib.TabIs Tryz.prog W "internal/strconv.uint64pow10" .u64 Lib.pow10Tab := Lib.tabIs_of_head gTab gTabT (show Tryz.prog.underlying 268 = some (.array 20 251) by kernel_rfl) (show Tryz.prog.underlying 251 = some (.int .u64) by kernel_rfl) (by kernel_rfl) (by kernel_rfl) (laidMet.tail (laidMet.tail hL))
  have hW' := hW
  obtain ⟨p, q, hA0, hV, rfl, hfz, hnd⟩ := hW
  obtain ⟨rfl, rfl⟩ := trodVars_none hV
  have hA : DataW.TrodAll enc Tryz.prog W 0 (fun _ => true) true [34] args.toList ds p := hA0
  have hw : ∀ n ∈ DataW.weightsEach Tryz.prog [34] ds, n ≤ reachBytes := fun n hn => by
    have := List.all_eq_true.1 hwt n (by rw [List.append_nil]; exact hn)
    simpa using this
  obtain ⟨v0, vs0, d0, ds0, p0, ρ0, H0, av0, a0, e0, rfl, hA0, hw0, r0, f0, u0, i0, rv0, q0, w0⟩ := opn_arg hA hw op34 sh34 (r := .any) (base := base) (fun v h => hval 0 34 v rfl (arg_at h)) (Rel.nil _ W htab) Frn.nil
  obtain ⟨en, rfl⟩ := opn_none hA0
  subst en
  obtain ⟨xav0_0, xav0_1, xav0_2, xav0_3, xav0_4, xav0_5, xav0_6, xav0_7, rfl, gav0_0, gav0_1, gav0_2, gav0_3, gav0_4, gav0_5, gav0_6, gav0_7⟩ := q0
  have hargs : RelVs ρ0 [(.agg [xav0_0.v, xav0_1.v, xav0_2.v, xav0_3.v, (.int .i64 a0.Source.Version), xav0_4.v, (.int .i64 a0.Cache.Age), (.int .i64 a0.Now), xav0_5.v, xav0_6.v, (.int .i64 a0.Spent), xav0_7.v].toArray)] args.toList := by
    rw [e0]
    exact (.cons _ _ _ _ rv0 .nil)
  obtain ⟨fuel, hlaw⟩ := law_fnExactCacheLines w0
  refine ((l_FnExactCacheLines_ok fuel a0 xav0_0 xav0_1 xav0_2 xav0_3 xav0_4 xav0_5 xav0_6 xav0_7 true hlaw) H0 [] (Ctx.dup (Ctx.dup (Ctx.dup (Ctx.dup (Ctx.dup (Ctx.dup (Ctx.dup (Ctx.dup (Ctx.start _) gav0_7 rfl) gav0_6 rfl) gav0_5 rfl) gav0_4 rfl) gav0_3 rfl) gav0_2 rfl) gav0_1 rfl) gav0_0 rfl) ρ0 W args r0 hargs).mono ?_
  rintro e w' ⟨v, r, ρ', H', rfl, h1, h2, h3, x, h5, -⟩
  have h6 : r = .bool true := h5
  subst h6
  refine ⟨_, rfl, ?_⟩
  rw [h1.bool_inv]
  refine law_post hW' rfl laidOut (by kernel_rfl) rfl (by kernel_rfl) (fun d => ?_) (h3.below f0)
  by_cases hd : d = [d0]
  · subst hd; exact .inl ⟨rfl, rfl, rfl⟩
  · exact .inr (by simpa using hd)

theorem named : Tryz.pinned.checked.prog.funcNamed Rows.fnExactCacheLinesRow.func = some 3 := by kernel_rfl
set_option maxHeartbeats 10000000 in
theorem closed : joinedFacts Tryz.pinned.checked.prog 3 Tryz.f3 Rows.fnExactCacheLinesSpec Rows.fnExactCacheLinesRow = true := by
  simp only [joinedFacts, Bool.and_eq_true]
  repeat' refine And.intro ?_ ?_
  all_goals (as_aux_lemma => kernel_rfl)
theorem over : Rows.fnExactCacheLinesRow.holds Tryz.pinned (OpenSpec.ofChange Rows.fnExactCacheLinesSpec) :=
  OpenClaim.holds_of_wide 3 Tryz.f3 rfl rfl rfl rfl rfl rfl rfl ⟨rfl, rfl, rfl, rfl, rfl⟩ rfl rfl rfl rfl rfl named Tryz.func3 closed
    (of_decide_eq_true (by kernel_rfl)) (by unfold Func.isWrapper; first | (rw [if_pos (by decide +kernel)]; kernel_rfl) | (rw [if_neg (by decide +kernel)]; exact ⟨rfl, rfl⟩))
    (fun os started H enc _ => lifted os started H enc)

theorem proved : Rows.FnExactCacheLinesCardSaid :=
  Claim7.holds_tied_plain_at .later [] [.data, .data, .data] true (true, "1edc57921552ef8b53f5ff0496354f7306bb26e5c3ad2cdf7190bf558669f082") false
    over (fun _ h => by cases h) (by kernel_rfl) (fun _ h => by cases h) fnExactCacheLines_row_tie rfl ⟨rfl, rfl⟩ (by kernel_rfl) rfl
    (fun f fn hf hfn => by
      obtain rfl : f = 3 := Option.some.inj ((show Tryz.prog.funcNamed "loop.example/g01989/laws.FnExactCacheLines" = some 3 by kernel_rfl).symm.trans hf) |>.symm
      obtain rfl : fn = Tryz.f3 := (Option.some.inj (Tryz.func3.symm.trans hfn)).symm
      exact ⟨by kernel_rfl, fun j t ht => by
        have hm : t ∈ [34] := by simpa using (Array.mem_of_getElem? ht : t ∈ (#[34] : Array TypeId))
        have hall : ([34].all fun u => !Tryz.prog.wantsStandIn u) = true := by kernel_rfl
        exact (show Tryz.prog.wantsStandIn t = false by simpa using List.all_eq_true.1 hall t hm)⟩)
    (by kernel_rfl)
end Go.Proofs.YtekdaagipplhhaaGreatDoor.fnExactCacheLines
