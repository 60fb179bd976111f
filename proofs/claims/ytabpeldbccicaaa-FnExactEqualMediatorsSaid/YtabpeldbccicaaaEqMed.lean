/-
  FnExactEqualMediators: the plain law and the row: for all arguments.
-/
import Derived.Test.YtabpeldbccicaaaEqMedG2
import Derived.Test.YtabpeldbccicaaaFc
import Derived.Test.YtabpeldbccicaaaRows
import Derived.WalkKit
import Derived.KernelRfl
/-
  Plain laws of the helpers. Written by a program.
-/
set_option maxRecDepth 100000
set_option linter.unusedVariables false
namespace Go.Proofs.Ytabpeldbccicaaa
open Go Go.Fw
theorem sz_IntS : Sz l_szIntS (fun a : List Int => a.length) (wfSl wfInt) := sz_flat (fun _ _ => rfl)
def tot_Method (a : Method) : Nat := a.Inputs.length
theorem sz_Method : Sz l_szMethod tot_Method wf95 := by
  intro a ⟨w_Rel, w_Inputs, w_Limit, w_Cost, w_Quota⟩ left hl hm
  unfold l_szMethod
  have ht : tot_Method a = a.Inputs.length := rfl
  obtain ⟨n1, e1, h1⟩ := sz_IntS a.Inputs w_Inputs _ hl hm
  rw [e1, Option.bind_some]
  try dsimp only at h1
  rcases h1 with ⟨rfl, p1⟩ | p1
  rotate_left
  · rw [if_pos (by simpa using p1)]; exact ⟨-1, rfl, .inr (by omega)⟩
  rw [if_neg (by simp only [decide_eq_true_eq]; omega)]
  exact ⟨_, rfl, .inl ⟨by rw [ht] <;> omega, p1⟩⟩
theorem sz_MethodS : Sz l_szMethodS (totL tot_Method) (wfSl wf95) := sz_slice sz_Method (fun _ _ => rfl) (fun _ _ _ _ => rfl) (fun _ _ => rfl)
def tot_Rule (a : Rule) : Nat := a.Map.length
theorem sz_Rule : Sz l_szRule tot_Rule wf152 := by
  intro a ⟨w_From, w_To, w_Map⟩ left hl hm
  unfold l_szRule
  have ht : tot_Rule a = a.Map.length := rfl
  obtain ⟨n1, e1, h1⟩ := sz_IntS a.Map w_Map _ hl hm
  rw [e1, Option.bind_some]
  try dsimp only at h1
  rcases h1 with ⟨rfl, p1⟩ | p1
  rotate_left
  · rw [if_pos (by simpa using p1)]; exact ⟨-1, rfl, .inr (by omega)⟩
  rw [if_neg (by simp only [decide_eq_true_eq]; omega)]
  exact ⟨_, rfl, .inl ⟨by rw [ht] <;> omega, p1⟩⟩
theorem sz_RuleS : Sz l_szRuleS (totL tot_Rule) (wfSl wf152) := sz_slice sz_Rule (fun _ _ => rfl) (fun _ _ _ _ => rfl) (fun _ _ => rfl)
def tot_Fact (a : Fact) : Nat := a.Values.length
theorem sz_Fact : Sz l_szFact tot_Fact wf188 := by
  intro a ⟨w_Rel, w_Values⟩ left hl hm
  unfold l_szFact
  have ht : tot_Fact a = a.Values.length := rfl
  obtain ⟨n1, e1, h1⟩ := sz_IntS a.Values w_Values _ hl hm
  rw [e1, Option.bind_some]
  try dsimp only at h1
  rcases h1 with ⟨rfl, p1⟩ | p1
  rotate_left
  · rw [if_pos (by simpa using p1)]; exact ⟨-1, rfl, .inr (by omega)⟩
  rw [if_neg (by simp only [decide_eq_true_eq]; omega)]
  exact ⟨_, rfl, .inl ⟨by rw [ht] <;> omega, p1⟩⟩
theorem sz_FactS : Sz l_szFactS (totL tot_Fact) (wfSl wf188) := sz_slice sz_Fact (fun _ _ => rfl) (fun _ _ _ _ => rfl) (fun _ _ => rfl)
def tot_Source (a : Source) : Nat := (totL tot_Fact) a.Facts
theorem sz_Source : Sz l_szSource tot_Source wf68 := by
  intro a ⟨w_Facts, w_Version⟩ left hl hm
  unfold l_szSource
  have ht : tot_Source a = (totL tot_Fact) a.Facts := rfl
  obtain ⟨n1, e1, h1⟩ := sz_FactS a.Facts w_Facts _ hl hm
  rw [e1, Option.bind_some]
  try dsimp only at h1
  rcases h1 with ⟨rfl, p1⟩ | p1
  rotate_left
  · rw [if_pos (by simpa using p1)]; exact ⟨-1, rfl, .inr (by omega)⟩
  rw [if_neg (by simp only [decide_eq_true_eq]; omega)]
  exact ⟨_, rfl, .inl ⟨by rw [ht] <;> omega, p1⟩⟩
def tot_Access (a : Access) : Nat := a.Values.length
theorem sz_Access : Sz l_szAccess tot_Access wf98 := by
  intro a ⟨w_Method, w_Values⟩ left hl hm
  unfold l_szAccess
  have ht : tot_Access a = a.Values.length := rfl
  obtain ⟨n1, e1, h1⟩ := sz_IntS a.Values w_Values _ hl hm
  rw [e1, Option.bind_some]
  try dsimp only at h1
  rcases h1 with ⟨rfl, p1⟩ | p1
  rotate_left
  · rw [if_pos (by simpa using p1)]; exact ⟨-1, rfl, .inr (by omega)⟩
  rw [if_neg (by simp only [decide_eq_true_eq]; omega)]
  exact ⟨_, rfl, .inl ⟨by rw [ht] <;> omega, p1⟩⟩
def tot_Stored (a : Stored) : Nat := tot_Access a.Access + (totL tot_Fact) a.Facts
theorem sz_Stored : Sz l_szStored tot_Stored wf191 := by
  intro a ⟨w_Access, w_Facts, w_At⟩ left hl hm
  unfold l_szStored
  have ht : tot_Stored a = tot_Access a.Access + (totL tot_Fact) a.Facts := rfl
  obtain ⟨n1, e1, h1⟩ := sz_Access a.Access w_Access _ hl hm
  rw [e1, Option.bind_some]
  try dsimp only at h1
  rcases h1 with ⟨rfl, p1⟩ | p1
  rotate_left
  · rw [if_pos (by simpa using p1)]; exact ⟨-1, rfl, .inr (by omega)⟩
  rw [if_neg (by simp only [decide_eq_true_eq]; omega)]
  obtain ⟨n2, e2, h2⟩ := sz_FactS a.Facts w_Facts _ p1 (by omega)
  rw [e2, Option.bind_some]
  try dsimp only at h2
  rcases h2 with ⟨rfl, p2⟩ | p2
  rotate_left
  · rw [if_pos (by simpa using p2)]; exact ⟨-1, rfl, .inr (by omega)⟩
  rw [if_neg (by simp only [decide_eq_true_eq]; omega)]
  exact ⟨_, rfl, .inl ⟨by rw [ht] <;> omega, p2⟩⟩
theorem sz_StoredS : Sz l_szStoredS (totL tot_Stored) (wfSl wf191) := sz_slice sz_Stored (fun _ _ => rfl) (fun _ _ _ _ => rfl) (fun _ _ => rfl)
def tot_Cache (a : Cache) : Nat := (totL tot_Stored) a.Entries
theorem sz_Cache : Sz l_szCache tot_Cache wf71 := by
  intro a ⟨w_Entries, w_Age⟩ left hl hm
  unfold l_szCache
  have ht : tot_Cache a = (totL tot_Stored) a.Entries := rfl
  obtain ⟨n1, e1, h1⟩ := sz_StoredS a.Entries w_Entries _ hl hm
  rw [e1, Option.bind_some]
  try dsimp only at h1
  rcases h1 with ⟨rfl, p1⟩ | p1
  rotate_left
  · rw [if_pos (by simpa using p1)]; exact ⟨-1, rfl, .inr (by omega)⟩
  rw [if_neg (by simp only [decide_eq_true_eq]; omega)]
  exact ⟨_, rfl, .inl ⟨by rw [ht] <;> omega, p1⟩⟩
theorem sz_AccessS : Sz l_szAccessS (totL tot_Access) (wfSl wf98) := sz_slice sz_Access (fun _ _ => rfl) (fun _ _ _ _ => rfl) (fun _ _ => rfl)
theorem sz_IntSS : Sz l_szIntSS (totL (fun a : List Int => a.length)) (wfSl (wfSl wfInt)) := sz_slice sz_IntS (fun _ _ => rfl) (fun _ _ _ _ => rfl) (fun _ _ => rfl)
theorem sz_IntSSS : Sz l_szIntSSS (totL (totL (fun a : List Int => a.length))) (wfSl (wfSl (wfSl wfInt))) := sz_slice sz_IntSS (fun _ _ => rfl) (fun _ _ _ _ => rfl) (fun _ _ => rfl)
def tot_Mediator (a : Mediator) : Nat := a.Schema.length + (totL tot_Method) a.Methods + (totL tot_Rule) a.Rules + tot_Source a.Source + tot_Cache a.Cache + (totL tot_Access) a.Log + a.Times.length + (totL (totL (fun a : List Int => a.length))) a.Results
theorem sz_Mediator : Sz l_szMediator tot_Mediator wf73 := by
  intro a ⟨w_Schema, w_Methods, w_Rules, w_Source, w_Cache, w_Now, w_Log, w_Times, w_Spent, w_Results⟩ left hl hm
  unfold l_szMediator
  have ht : tot_Mediator a = a.Schema.length + (totL tot_Method) a.Methods + (totL tot_Rule) a.Rules + tot_Source a.Source + tot_Cache a.Cache + (totL tot_Access) a.Log + a.Times.length + (totL (totL (fun a : List Int => a.length))) a.Results := rfl
  obtain ⟨n1, e1, h1⟩ := sz_IntS a.Schema w_Schema _ hl hm
  rw [e1, Option.bind_some]
  try dsimp only at h1
  rcases h1 with ⟨rfl, p1⟩ | p1
  rotate_left
  · rw [if_pos (by simpa using p1)]; exact ⟨-1, rfl, .inr (by omega)⟩
  rw [if_neg (by simp only [decide_eq_true_eq]; omega)]
  obtain ⟨n2, e2, h2⟩ := sz_MethodS a.Methods w_Methods _ p1 (by omega)
  rw [e2, Option.bind_some]
  try dsimp only at h2
  rcases h2 with ⟨rfl, p2⟩ | p2
  rotate_left
  · rw [if_pos (by simpa using p2)]; exact ⟨-1, rfl, .inr (by omega)⟩
  rw [if_neg (by simp only [decide_eq_true_eq]; omega)]
  obtain ⟨n3, e3, h3⟩ := sz_RuleS a.Rules w_Rules _ p2 (by omega)
  rw [e3, Option.bind_some]
  try dsimp only at h3
  rcases h3 with ⟨rfl, p3⟩ | p3
  rotate_left
  · rw [if_pos (by simpa using p3)]; exact ⟨-1, rfl, .inr (by omega)⟩
  rw [if_neg (by simp only [decide_eq_true_eq]; omega)]
  obtain ⟨n4, e4, h4⟩ := sz_Source a.Source w_Source _ p3 (by omega)
  rw [e4, Option.bind_some]
  try dsimp only at h4
  rcases h4 with ⟨rfl, p4⟩ | p4
  rotate_left
  · rw [if_pos (by simpa using p4)]; exact ⟨-1, rfl, .inr (by omega)⟩
  rw [if_neg (by simp only [decide_eq_true_eq]; omega)]
  obtain ⟨n5, e5, h5⟩ := sz_Cache a.Cache w_Cache _ p4 (by omega)
  rw [e5, Option.bind_some]
  try dsimp only at h5
  rcases h5 with ⟨rfl, p5⟩ | p5
  rotate_left
  · rw [if_pos (by simpa using p5)]; exact ⟨-1, rfl, .inr (by omega)⟩
  rw [if_neg (by simp only [decide_eq_true_eq]; omega)]
  obtain ⟨n6, e6, h6⟩ := sz_AccessS a.Log w_Log _ p5 (by omega)
  rw [e6, Option.bind_some]
  try dsimp only at h6
  rcases h6 with ⟨rfl, p6⟩ | p6
  rotate_left
  · rw [if_pos (by simpa using p6)]; exact ⟨-1, rfl, .inr (by omega)⟩
  rw [if_neg (by simp only [decide_eq_true_eq]; omega)]
  obtain ⟨n7, e7, h7⟩ := sz_IntS a.Times w_Times _ p6 (by omega)
  rw [e7, Option.bind_some]
  try dsimp only at h7
  rcases h7 with ⟨rfl, p7⟩ | p7
  rotate_left
  · rw [if_pos (by simpa using p7)]; exact ⟨-1, rfl, .inr (by omega)⟩
  rw [if_neg (by simp only [decide_eq_true_eq]; omega)]
  obtain ⟨n8, e8, h8⟩ := sz_IntSSS a.Results w_Results _ p7 (by omega)
  rw [e8, Option.bind_some]
  try dsimp only at h8
  rcases h8 with ⟨rfl, p8⟩ | p8
  rotate_left
  · rw [if_pos (by simpa using p8)]; exact ⟨-1, rfl, .inr (by omega)⟩
  rw [if_neg (by simp only [decide_eq_true_eq]; omega)]
  exact ⟨_, rfl, .inl ⟨by rw [ht] <;> omega, p8⟩⟩
theorem to_IntS : ∀ (a : List Int), (bdL bdAny) a → l_toIntS a = some a :=
  to_slice (fun _ => rfl) (fun _ _ => rfl) (fun x r k c hx hk => by
    rw [l_toIntS_L1]
    simp [chk, hk])
def bd_Method (a : Method) : Prop := (bdL bdAny) a.Inputs
theorem to_Method (a : Method) (h : bd_Method a) : l_toMethod a = some a := by
  have b_a_Inputs : (bdL bdAny) a.Inputs := h
  simp (disch := assumption) only [l_toMethod, to_IntS, Option.bind_some]
theorem to_MethodS : ∀ (a : List Method), (bdL bd_Method) a → l_toMethodS a = some a :=
  to_slice (fun _ => rfl) (fun _ _ => rfl) (fun x r k c hx hk => by
    rw [l_toMethodS_L1]
    rw [to_Method _ hx]
    simp [chk, hk])
def bd_Rule (a : Rule) : Prop := (bdL bdAny) a.Map
theorem to_Rule (a : Rule) (h : bd_Rule a) : l_toRule a = some a := by
  have b_a_Map : (bdL bdAny) a.Map := h
  simp (disch := assumption) only [l_toRule, to_IntS, Option.bind_some]
theorem to_RuleS : ∀ (a : List Rule), (bdL bd_Rule) a → l_toRuleS a = some a :=
  to_slice (fun _ => rfl) (fun _ _ => rfl) (fun x r k c hx hk => by
    rw [l_toRuleS_L1]
    rw [to_Rule _ hx]
    simp [chk, hk])
def bd_Fact (a : Fact) : Prop := (bdL bdAny) a.Values
theorem to_Fact (a : Fact) (h : bd_Fact a) : l_toFact a = some a := by
  have b_a_Values : (bdL bdAny) a.Values := h
  simp (disch := assumption) only [l_toFact, to_IntS, Option.bind_some]
theorem to_FactS : ∀ (a : List Fact), (bdL bd_Fact) a → l_toFactS a = some a :=
  to_slice (fun _ => rfl) (fun _ _ => rfl) (fun x r k c hx hk => by
    rw [l_toFactS_L1]
    rw [to_Fact _ hx]
    simp [chk, hk])
def bd_Source (a : Source) : Prop := (bdL bd_Fact) a.Facts
theorem to_Source (a : Source) (h : bd_Source a) : l_toSource a = some a := by
  have b_a_Facts : (bdL bd_Fact) a.Facts := h
  simp (disch := assumption) only [l_toSource, to_FactS, Option.bind_some]
def bd_Access (a : Access) : Prop := (bdL bdAny) a.Values
theorem to_Access (a : Access) (h : bd_Access a) : l_toAccess a = some a := by
  have b_a_Values : (bdL bdAny) a.Values := h
  simp (disch := assumption) only [l_toAccess, to_IntS, Option.bind_some]
def bd_Stored (a : Stored) : Prop := bd_Access a.Access ∧ (bdL bd_Fact) a.Facts
theorem to_Stored (a : Stored) (h : bd_Stored a) : l_toStored a = some a := by
  have b_a_Access : bd_Access a.Access := h.1
  have b_a_Access_Values : (bdL bdAny) a.Access.Values := b_a_Access
  have b_a_Facts : (bdL bd_Fact) a.Facts := h.2
  simp (disch := assumption) only [l_toStored, to_Access, to_FactS, Option.bind_some]
theorem to_StoredS : ∀ (a : List Stored), (bdL bd_Stored) a → l_toStoredS a = some a :=
  to_slice (fun _ => rfl) (fun _ _ => rfl) (fun x r k c hx hk => by
    rw [l_toStoredS_L1]
    rw [to_Stored _ hx]
    simp [chk, hk])
def bd_Cache (a : Cache) : Prop := (bdL bd_Stored) a.Entries
theorem to_Cache (a : Cache) (h : bd_Cache a) : l_toCache a = some a := by
  have b_a_Entries : (bdL bd_Stored) a.Entries := h
  simp (disch := assumption) only [l_toCache, to_StoredS, Option.bind_some]
theorem to_AccessS : ∀ (a : List Access), (bdL bd_Access) a → l_toAccessS a = some a :=
  to_slice (fun _ => rfl) (fun _ _ => rfl) (fun x r k c hx hk => by
    rw [l_toAccessS_L1]
    rw [to_Access _ hx]
    simp [chk, hk])
theorem to_IntSS : ∀ (a : List (List Int)), (bdL (bdL bdAny)) a → l_toIntSS a = some a :=
  to_slice (fun _ => rfl) (fun _ _ => rfl) (fun x r k c hx hk => by
    rw [l_toIntSS_L1]
    rw [to_IntS _ hx]
    simp [chk, hk])
theorem to_IntSSS : ∀ (a : List (List (List Int))), (bdL (bdL (bdL bdAny))) a → l_toIntSSS a = some a :=
  to_slice (fun _ => rfl) (fun _ _ => rfl) (fun x r k c hx hk => by
    rw [l_toIntSSS_L1]
    rw [to_IntSS _ hx]
    simp [chk, hk])
def bd_Mediator (a : Mediator) : Prop := (bdL bdAny) a.Schema ∧ (bdL bd_Method) a.Methods ∧ (bdL bd_Rule) a.Rules ∧ bd_Source a.Source ∧ bd_Cache a.Cache ∧ (bdL bd_Access) a.Log ∧ (bdL bdAny) a.Times ∧ (bdL (bdL (bdL bdAny))) a.Results
theorem to_Mediator (a : Mediator) (h : bd_Mediator a) : l_toMediator a = some a := by
  have b_a_Schema : (bdL bdAny) a.Schema := h.1
  have b_a_Methods : (bdL bd_Method) a.Methods := h.2.1
  have b_a_Rules : (bdL bd_Rule) a.Rules := h.2.2.1
  have b_a_Source : bd_Source a.Source := h.2.2.2.1
  have b_a_Source_Facts : (bdL bd_Fact) a.Source.Facts := b_a_Source
  have b_a_Cache : bd_Cache a.Cache := h.2.2.2.2.1
  have b_a_Cache_Entries : (bdL bd_Stored) a.Cache.Entries := b_a_Cache
  have b_a_Log : (bdL bd_Access) a.Log := h.2.2.2.2.2.1
  have b_a_Times : (bdL bdAny) a.Times := h.2.2.2.2.2.2.1
  have b_a_Results : (bdL (bdL (bdL bdAny))) a.Results := h.2.2.2.2.2.2.2
  simp (disch := assumption) only [l_toMediator, to_AccessS, to_Cache, to_IntS, to_IntSSS, to_MethodS, to_RuleS, to_Source, Option.bind_some]
theorem eq_IntS : ∀ (a : List Int), l_eqIntS a a = some true :=
  eq_slice (fun _ _ => rfl) (fun _ _ => rfl) (fun b x r k h => by
    rw [l_eqIntS_L1, ix_nat, h]
    simp)
theorem eq_Method (a : Method) : l_eqMethod a a = some true := by simp [l_eqMethod, eq_IntS]
theorem eq_MethodS : ∀ (a : List Method), l_eqMethodS a a = some true :=
  eq_slice (fun _ _ => rfl) (fun _ _ => rfl) (fun b x r k h => by
    rw [l_eqMethodS_L1, ix_nat, h]
    simp [eq_Method])
theorem eq_Rule (a : Rule) : l_eqRule a a = some true := by simp [l_eqRule, eq_IntS]
theorem eq_RuleS : ∀ (a : List Rule), l_eqRuleS a a = some true :=
  eq_slice (fun _ _ => rfl) (fun _ _ => rfl) (fun b x r k h => by
    rw [l_eqRuleS_L1, ix_nat, h]
    simp [eq_Rule])
theorem eq_Fact (a : Fact) : l_eqFact a a = some true := by simp [l_eqFact, eq_IntS]
theorem eq_FactS : ∀ (a : List Fact), l_eqFactS a a = some true :=
  eq_slice (fun _ _ => rfl) (fun _ _ => rfl) (fun b x r k h => by
    rw [l_eqFactS_L1, ix_nat, h]
    simp [eq_Fact])
theorem eq_Source (a : Source) : l_eqSource a a = some true := by simp [l_eqSource, eq_FactS]
theorem eq_Access (a : Access) : l_eqAccess a a = some true := by simp [l_eqAccess, eq_IntS]
theorem eq_Stored (a : Stored) : l_eqStored a a = some true := by simp [l_eqStored, eq_Access, eq_FactS]
theorem eq_StoredS : ∀ (a : List Stored), l_eqStoredS a a = some true :=
  eq_slice (fun _ _ => rfl) (fun _ _ => rfl) (fun b x r k h => by
    rw [l_eqStoredS_L1, ix_nat, h]
    simp [eq_Stored])
theorem eq_Cache (a : Cache) : l_eqCache a a = some true := by simp [l_eqCache, eq_StoredS]
theorem eq_AccessS : ∀ (a : List Access), l_eqAccessS a a = some true :=
  eq_slice (fun _ _ => rfl) (fun _ _ => rfl) (fun b x r k h => by
    rw [l_eqAccessS_L1, ix_nat, h]
    simp [eq_Access])
theorem eq_IntSS : ∀ (a : List (List Int)), l_eqIntSS a a = some true :=
  eq_slice (fun _ _ => rfl) (fun _ _ => rfl) (fun b x r k h => by
    rw [l_eqIntSS_L1, ix_nat, h]
    simp [eq_IntS])
theorem eq_IntSSS : ∀ (a : List (List (List Int))), l_eqIntSSS a a = some true :=
  eq_slice (fun _ _ => rfl) (fun _ _ => rfl) (fun b x r k h => by
    rw [l_eqIntSSS_L1, ix_nat, h]
    simp [eq_IntSS])
theorem eq_Mediator (a : Mediator) : l_eqMediator a a = some true := by simp [l_eqMediator, eq_AccessS, eq_Cache, eq_IntS, eq_IntSSS, eq_MethodS, eq_RuleS, eq_Source]
end Go.Proofs.Ytabpeldbccicaaa

/-
  Plain laws.
-/
set_option maxRecDepth 100000
set_option linter.unusedVariables false
namespace Go.Proofs.Ytabpeldbccicaaa
open Go Go.Fw

theorem s_l2Ints_eq (a b : List Int) : s_l2Ints a b = some (eqF (fun x y => x == y) a b) :=
  eqf_fun (L := s_l2Ints_L1) (f := fun x y => some (x == y)) (fun _ _ => rfl) (fun _ _ => rfl) (fun b x r k y h => by rw [s_l2Ints_L1, ix_nat, h]; rfl) a b (fun _ _ _ _ => rfl)
theorem g_slices_Equal_int_int_eq (a b : List Int) : g_slices_Equal_int_int a b = some (eqF (fun x y => x == y) a b) :=
  eqf_fun (L := g_slices_Equal_int_int_L1) (f := fun x y => some (x == y)) (fun _ _ => rfl) (fun _ _ => rfl) (fun b x r k y h => by rw [g_slices_Equal_int_int_L1, ix_nat, h]; rfl) a b (fun _ _ _ _ => rfl)
def pIntsEq : List Int → List Int → Bool := eqF (fun x y => x == y)
def pSameMethod (a b : Method) : Bool := a.Rel == b.Rel && pIntsEq a.Inputs b.Inputs && a.Limit == b.Limit && a.Cost == b.Cost && a.Quota == b.Quota
theorem s_l32SameMethods_eq (a b : List Method) : s_l32SameMethods a b = some (eqF pSameMethod a b) :=
  eqf_funN (L := s_l32SameMethods_L1) (f := fun x y => some (!pSameMethod x y)) (fun _ _ => rfl) (fun _ _ => rfl) (fun b x r k y h => by
    rw [s_l32SameMethods_L1]
    simp only [ix_nat, h, Option.bind_some, s_l2Ints_eq, pSameMethod, pIntsEq, bne]
    generalize (x.Rel == y.Rel) = b1
    generalize eqF (fun x y => x == y) x.Inputs y.Inputs = b2
    generalize (x.Limit == y.Limit) = b3
    generalize (x.Cost == y.Cost) = b4
    generalize (x.Quota == y.Quota) = b5
    cases b1 <;> cases b2 <;> cases b3 <;> cases b4 <;> cases b5 <;> rfl) a b (fun _ _ _ _ => rfl)
theorem i_sameMethod_eq (a b : Method) : i_sameMethod a b = some (pSameMethod a b) := by
  simp only [i_sameMethod, g_slices_Equal_int_int_eq, pSameMethod, pIntsEq, Option.bind_some]
  generalize (a.Rel == b.Rel) = b1
  generalize eqF (fun x y => x == y) a.Inputs b.Inputs = b2
  generalize (a.Limit == b.Limit) = b3
  generalize (a.Cost == b.Cost) = b4
  generalize (a.Quota == b.Quota) = b5
  cases b1 <;> cases b2 <;> cases b3 <;> cases b4 <;> cases b5 <;> rfl
theorem i_EqMethods_eq (a b : List Method) : g_slices_EqualFunc_impl_Method_impl_Method_impl_Method_impl_Method_isameMethod a b = some (eqF pSameMethod a b) :=
  eqf_fun (L := g_slices_EqualFunc_impl_Method_impl_Method_impl_Method_impl_Method_isameMethod_L1) (f := i_sameMethod) (fun _ _ => rfl) (fun _ _ => rfl) (fun b x r k y h => by rw [g_slices_EqualFunc_impl_Method_impl_Method_impl_Method_impl_Method_isameMethod_L1, ix_nat, h]; rfl) a b (fun x _ y _ => i_sameMethod_eq x y)
def pSameRule (a b : Rule) : Bool := a.From == b.From && a.To == b.To && pIntsEq a.Map b.Map
theorem i_sameRule_eq (a b : Rule) : i_sameRule a b = some (pSameRule a b) := by
  simp only [i_sameRule, g_slices_Equal_int_int_eq, pSameRule, pIntsEq, Option.bind_some]
  generalize (a.From == b.From) = b1
  generalize (a.To == b.To) = b2
  cases b1 <;> cases b2 <;> rfl
theorem i_EqRules_eq (a b : List Rule) : g_slices_EqualFunc_impl_Rule_impl_Rule_impl_Rule_impl_Rule_isameRule a b = some (eqF pSameRule a b) :=
  eqf_fun (L := g_slices_EqualFunc_impl_Rule_impl_Rule_impl_Rule_impl_Rule_isameRule_L1) (f := i_sameRule) (fun _ _ => rfl) (fun _ _ => rfl) (fun b x r k y h => by rw [g_slices_EqualFunc_impl_Rule_impl_Rule_impl_Rule_impl_Rule_isameRule_L1, ix_nat, h]; rfl) a b (fun x _ y _ => i_sameRule_eq x y)
theorem g_cmp_Compare_int_eq (x y : Int) : g_cmp_Compare_int x y = some (cmpI x y) := by
  simp only [g_cmp_Compare_int, g_cmp_isNaN_int, Option.bind_some, cmpI, bne_self_eq_false, Bool.false_eq_true, if_false, decide_eq_true_eq]
  split
  · rfl
  · split <;> rfl
theorem g_slices_Compare_loop (s1 b : List Int) : ∀ (l : List Int) (k : Nat), s1.drop k = l → k ≤ s1.length → g_slices_Compare_int_int_L1 s1 b l k = some (cmpL l (b.drop k))
  | [], k, hd, hk => by
    have h1 : s1.length ≤ k := List.drop_eq_nil_iff.1 hd
    rw [g_slices_Compare_int_int_L1]
    cases hb : b.drop k with
    | nil =>
      have h2 : b.length ≤ k := List.drop_eq_nil_iff.1 hb
      rw [if_neg (by simp; omega)]; rfl
    | cons y t =>
      have h2 : k < b.length := (drop_cons hb).1
      rw [if_pos (by simp; omega)]; rfl
  | x :: r, k, hd, hk => by
    have h1 : k < s1.length := (drop_cons hd).1
    rw [g_slices_Compare_int_int_L1]
    cases hb : b.drop k with
    | nil =>
      have h2 : b.length ≤ k := List.drop_eq_nil_iff.1 hb
      rw [if_pos (by simp; omega)]; rfl
    | cons y t =>
      have h2 : k < b.length := (drop_cons hb).1
      obtain ⟨e1, e2⟩ := get_drop hb
      rw [if_neg (by simp; omega), ix_nat, e1, Option.bind_some, g_cmp_Compare_int_eq, Option.bind_some, cmpL]
      split
      · rfl
      · rw [g_slices_Compare_loop s1 b r (k + 1) (get_drop hd).2 h1, e2]
theorem g_slices_Compare_eq (a b : List Int) : g_slices_Compare_int_int a b = some (cmpL a b) := by
  have := g_slices_Compare_loop a b a 0 rfl (by omega)
  simpa [g_slices_Compare_int_int] using this
theorem g_cmp_Or2_eq (x y : Int) : g_cmp_Or_int [x, y] = some (if x != 0 then x else y) := by
  simp only [g_cmp_Or_int, g_cmp_Or_int_L1]
  split
  · rfl
  · split
    · rfl
    · rename_i h; simp at h; rw [h]
def pCmpFact (a b : Fact) : Int := if cmpI a.Rel b.Rel != 0 then cmpI a.Rel b.Rel else cmpL a.Values b.Values
theorem i_CompareFacts_eq (a b : Fact) : i_CompareFacts a b = some (pCmpFact a b) := by
  simp only [i_CompareFacts, g_cmp_Compare_int_eq, g_slices_Compare_eq, Option.bind_some, g_cmp_Or2_eq, pCmpFact]
theorem s_CompareFacts_loop (a b : Fact) (ha : a.Values.length < 4294967296) : ∀ (m k : Nat), k ≤ a.Values.length → k ≤ b.Values.length → a.Values.length < k + m → s_CompareFacts_L1 a b m k = some (cmpL (a.Values.drop k) (b.Values.drop k))
  | 0, k, h1, _, h2 => by omega
  | m + 1, k, h1, h1', h2 => by
    rw [s_CompareFacts_L1]
    by_cases h : k < a.Values.length ∧ k < b.Values.length
    · rw [if_pos (by simp [h.1, h.2])]
      simp only [ix_nat, List.getElem?_eq_getElem h.1, List.getElem?_eq_getElem h.2, Option.bind_some]
      rw [List.drop_eq_getElem_cons h.1, List.drop_eq_getElem_cons h.2, cmpL, cmpI]
      by_cases e1 : a.Values[k] < b.Values[k]
      · simp [e1]
      · rw [if_neg (by simpa using e1)]
        by_cases e2 : b.Values[k] < a.Values[k]
        · simp [e1, e2]
        · rw [if_neg (by simpa using e2), if_neg e1, if_neg e2, show ((k : Int) + 1) = ((k + 1 : Nat) : Int) from rfl, wrap_nat (by omega), s_CompareFacts_loop a b ha m (k + 1) h.1 h.2 (by omega)]
          simp
    · rw [if_neg (by simp only [Bool.and_eq_true, decide_eq_true_eq]; omega)]
      by_cases h3 : k < b.Values.length
      · have : k = a.Values.length := by omega
        subst this
        rw [if_pos (by simp; omega), List.drop_of_length_le (Nat.le_refl _), List.drop_eq_getElem_cons h3]; rfl
      · rw [List.drop_of_length_le (show b.Values.length ≤ k by omega), if_neg (by simp; omega)]
        by_cases h4 : k < a.Values.length
        · rw [if_pos (by simp; omega), List.drop_eq_getElem_cons h4]; rfl
        · rw [if_neg (by simp; omega), List.drop_of_length_le (by omega)]; rfl
theorem s_CompareFacts_eq (a b : Fact) (ha : a.Values.length < 4294967296) : s_CompareFacts a b = some (pCmpFact a b) := by
  unfold s_CompareFacts pCmpFact cmpI
  by_cases h : a.Rel = b.Rel
  · rw [if_neg (by simp [h])]
    have := s_CompareFacts_loop a b ha (((a.Values.length : Int) - 0).toNat + 2) 0 (by omega) (by omega) (by omega)
    rw [show s_CompareFacts_L1 a b (((a.Values.length : Int) - 0).toNat + 2) 0 = _ from this]
    simp [h]
  · rw [if_pos (by simpa using h)]
    by_cases h2 : a.Rel < b.Rel
    · simp [h2]
    · have : b.Rel < a.Rel := by omega
      simp [h2, this]
def pSameFacts : List Fact → List Fact → Bool := eqF (fun x y => pCmpFact x y == 0)
theorem s_SameFacts_eq (a b : List Fact) (ha : bdL bd_Fact a) : s_SameFacts a b = some (pSameFacts a b) :=
  eqf_fun (L := s_SameFacts_L1) (f := fun x y => (s_CompareFacts x y).bind fun r => some (r == 0)) (fun _ _ => rfl) (fun _ _ => rfl) (fun b x r k y h => by
    rw [s_SameFacts_L1, ix_nat, h, Option.bind_some]
    cases s_CompareFacts x y <;> simp [bne]) a b (fun x hx y _ => by rw [s_CompareFacts_eq x y (ha.2 x hx).1]; rfl)
theorem i_SameFacts_eq (a b : List Fact) : i_SameFacts a b = some (pSameFacts a b) := by
  have : g_slices_EqualFunc_impl_Fact_impl_Fact_impl_Fact_impl_Fact_iSameFacts1 a b = some (pSameFacts a b) :=
    eqf_fun (L := g_slices_EqualFunc_impl_Fact_impl_Fact_impl_Fact_impl_Fact_iSameFacts1_L1) (f := i_SameFacts_1) (fun _ _ => rfl) (fun _ _ => rfl) (fun b x r k y h => by rw [g_slices_EqualFunc_impl_Fact_impl_Fact_impl_Fact_impl_Fact_iSameFacts1_L1, ix_nat, h]; rfl) a b (fun x _ y _ => by rw [i_SameFacts_1, i_CompareFacts_eq]; rfl)
  rw [i_SameFacts, this]; rfl
def pSameAccess (a b : Access) : Bool := a.Method == b.Method && pIntsEq a.Values b.Values
theorem s_l5Same_eq (a b : Access) : s_l5Same a b = some (pSameAccess a b) := by
  simp only [s_l5Same, s_l2Ints_eq, pSameAccess, pIntsEq, Option.bind_some]
  generalize (a.Method == b.Method) = b1
  cases b1 <;> rfl
theorem i_sameAccess_eq (a b : Access) : i_sameAccess a b = some (pSameAccess a b) := by
  simp only [i_sameAccess, g_slices_Equal_int_int_eq, pSameAccess, pIntsEq, Option.bind_some]
  generalize (a.Method == b.Method) = b1
  cases b1 <;> rfl
theorem s_SameAccesses_eq (a b : List Access) : s_SameAccesses a b = some (eqF pSameAccess a b) :=
  eqf_fun (L := s_SameAccesses_L1) (f := s_l5Same) (fun _ _ => rfl) (fun _ _ => rfl) (fun b x r k y h => by rw [s_SameAccesses_L1, ix_nat, h]; rfl) a b (fun x _ y _ => s_l5Same_eq x y)
theorem i_SameAccesses_eq (a b : List Access) : i_SameAccesses a b = some (eqF pSameAccess a b) := by
  have : g_slices_EqualFunc_impl_Access_impl_Access_impl_Access_impl_Access_isameAccess a b = some (eqF pSameAccess a b) :=
    eqf_fun (L := g_slices_EqualFunc_impl_Access_impl_Access_impl_Access_impl_Access_isameAccess_L1) (f := i_sameAccess) (fun _ _ => rfl) (fun _ _ => rfl) (fun b x r k y h => by rw [g_slices_EqualFunc_impl_Access_impl_Access_impl_Access_impl_Access_isameAccess_L1, ix_nat, h]; rfl) a b (fun x _ y _ => i_sameAccess_eq x y)
  rw [i_SameAccesses, this]; rfl
def pSameStored (a b : Stored) : Bool := pSameAccess a.Access b.Access && pSameFacts a.Facts b.Facts && a.At == b.At
def pEqCaches (a b : Cache) : Bool := a.Age == b.Age && eqF pSameStored a.Entries b.Entries
theorem s_EqualCaches_eq (a b : Cache) (ha : bd_Cache a) : s_EqualCaches a b = some (pEqCaches a b) := by
  unfold s_EqualCaches pEqCaches
  by_cases h : a.Entries.length = b.Entries.length
  · by_cases h2 : a.Age = b.Age
    · rw [if_neg (by simp [h, h2]), eqf_loopN (L := s_EqualCaches_L1 b) (b := b.Entries) (e := true) (p := pSameStored) (f := fun x y => (s_l5Same x.Access y.Access).bind fun r31 => bif (!r31) then (some true) else ((s_SameFacts x.Facts y.Facts).bind fun r35 => bif (!r35) then (some true) else (some ((x.At : Int) != y.At))))
        (fun _ => rfl) (fun x r k y h => by rw [s_EqualCaches_L1, ix_nat, h]; rfl) a.Entries 0 (by simpa using h) (fun x hx y _ => by
          rw [s_l5Same_eq, s_SameFacts_eq _ _ (ha.2 x hx).2]
          simp only [Option.bind_some, bne, pSameStored]
          generalize pSameAccess x.Access y.Access = b1
          generalize pSameFacts x.Facts y.Facts = b2
          cases b1 <;> cases b2 <;> rfl)]
      simp [h2]
    · rw [if_pos (by simp [h2])]; simp [h2]
  · rw [if_pos (by simp [Int.natCast_inj, h]), eqF_len h, Bool.and_false]
theorem i_EqualCaches_eq (a b : Cache) : i_EqualCaches a b = some (pEqCaches a b) := by
  have h1 : ∀ x y, i_EqualCaches_1 x y = some (pSameStored x y) := fun x y => by
    simp only [i_EqualCaches_1, i_sameAccess_eq, i_SameFacts_eq, Option.bind_some, pSameStored]
    generalize pSameAccess x.Access y.Access = b1
    generalize pSameFacts x.Facts y.Facts = b2
    cases b1 <;> cases b2 <;> rfl
  have : g_slices_EqualFunc_impl_Stored_impl_Stored_impl_Stored_impl_Stored_iEqualCaches1 a.Entries b.Entries = some (eqF pSameStored a.Entries b.Entries) :=
    eqf_fun (L := g_slices_EqualFunc_impl_Stored_impl_Stored_impl_Stored_impl_Stored_iEqualCaches1_L1) (f := i_EqualCaches_1) (fun _ _ => rfl) (fun _ _ => rfl) (fun b x r k y h => by rw [g_slices_EqualFunc_impl_Stored_impl_Stored_impl_Stored_impl_Stored_iEqualCaches1_L1, ix_nat, h]; rfl) _ _ (fun x _ y _ => h1 x y)
  simp only [i_EqualCaches, this, pEqCaches, Option.bind_some]
  generalize (a.Age == b.Age) = b1
  cases b1 <;> rfl
def pSameTuples : List (List Int) → List (List Int) → Bool := eqF pIntsEq
theorem s_SameTuples_eq (a b : List (List Int)) : s_SameTuples a b = some (pSameTuples a b) :=
  eqf_fun (L := s_SameTuples_L1) (f := s_l2Ints) (fun _ _ => rfl) (fun _ _ => rfl) (fun b x r k y h => by rw [s_SameTuples_L1, ix_nat, h]; rfl) a b (fun x _ y _ => s_l2Ints_eq x y)
theorem i_SameTuples_eq (a b : List (List Int)) : i_SameTuples a b = some (pSameTuples a b) := by
  have : g_slices_EqualFunc_int_int_int_int_gslicesEqualintint a b = some (pSameTuples a b) :=
    eqf_fun (L := g_slices_EqualFunc_int_int_int_int_gslicesEqualintint_L1) (f := g_slices_Equal_int_int) (fun _ _ => rfl) (fun _ _ => rfl) (fun b x r k y h => by rw [g_slices_EqualFunc_int_int_int_int_gslicesEqualintint_L1, ix_nat, h]; rfl) a b (fun x _ y _ => g_slices_Equal_int_int_eq x y)
  rw [i_SameTuples, this]; rfl

def pEqMed (a b : Mediator) : Bool := pIntsEq a.Schema b.Schema && (eqF pSameMethod a.Methods b.Methods && (eqF pSameRule a.Rules b.Rules && (pSameFacts a.Source.Facts b.Source.Facts && (a.Source.Version == b.Source.Version && (pEqCaches a.Cache b.Cache && (a.Now == b.Now && (eqF pSameAccess a.Log b.Log &&
  (pIntsEq a.Times b.Times && (a.Spent == b.Spent && eqF pSameTuples a.Results b.Results)))))))))
theorem i_EqualMediators_eq (a b : Mediator) : i_EqualMediators a b = some (pEqMed a b) := by
  have h1 : g_slices_EqualFunc_int_int_int_int_iSameTuples a.Results b.Results = some (eqF pSameTuples a.Results b.Results) :=
    eqf_fun (L := g_slices_EqualFunc_int_int_int_int_iSameTuples_L1) (f := i_SameTuples) (fun _ _ => rfl) (fun _ _ => rfl) (fun b x r k y h => by rw [g_slices_EqualFunc_int_int_int_int_iSameTuples_L1, ix_nat, h]; rfl) _ _ (fun x _ y _ => i_SameTuples_eq x y)
  simp only [i_EqualMediators, g_slices_Equal_int_int_eq, i_EqMethods_eq, i_EqRules_eq, i_SameFacts_eq, i_EqualCaches_eq, i_SameAccesses_eq, h1, Option.bind_some, pEqMed, pIntsEq]
  cases eqF (fun x y => x == y) a.Schema b.Schema
  · rfl
  cases eqF pSameMethod a.Methods b.Methods
  · rfl
  cases eqF pSameRule a.Rules b.Rules
  · rfl
  cases pSameFacts a.Source.Facts b.Source.Facts
  · rfl
  cases (a.Source.Version == b.Source.Version)
  · rfl
  cases pEqCaches a.Cache b.Cache
  · rfl
  cases (a.Now == b.Now)
  · rfl
  cases eqF pSameAccess a.Log b.Log
  · rfl
  cases eqF (fun x y => x == y) a.Times b.Times
  · rfl
  cases (a.Spent == b.Spent) <;> rfl
theorem s_EqualMediators_eq (a b : Mediator) (ha : bd_Mediator a) : s_EqualMediators a b = some (pEqMed a b) := by
  have hF : s_SameFacts a.Source.Facts b.Source.Facts = some (pSameFacts a.Source.Facts b.Source.Facts) := s_SameFacts_eq _ _ ha.2.2.2.1
  have hC : s_EqualCaches a.Cache b.Cache = some (pEqCaches a.Cache b.Cache) := s_EqualCaches_eq _ _ ha.2.2.2.2.1
  have hL : a.Results.length = b.Results.length → s_EqualMediators_L2 b a.Results 0 = some (eqF pSameTuples a.Results b.Results) := fun h => by
    have := eqf_loop (L := s_EqualMediators_L2 b) (b := b.Results) (e := true) (f := s_SameTuples) (p := pSameTuples) (fun _ => rfl) (fun x r k y h => by rw [s_EqualMediators_L2, ix_nat, h]; rfl) a.Results 0 (by simpa using h) (fun x _ y _ => s_SameTuples_eq x y)
    simpa using this
  have hR : a.Results.length = b.Results.length → a.Rules.length = b.Rules.length → s_EqualMediators_L1 a b a.Rules 0 = some (eqF pSameRule a.Rules b.Rules && eqF pSameTuples a.Results b.Results) := fun h h2 => by
    have := eqf_loopN (L := s_EqualMediators_L1 a b) (b := b.Rules) (e := eqF pSameTuples a.Results b.Results) (p := pSameRule) (f := fun x y => some (!pSameRule x y)) (fun k => by rw [s_EqualMediators_L1, hL h]) (fun x r k y h => by
      rw [s_EqualMediators_L1]
      simp only [ix_nat, h, Option.bind_some, s_l2Ints_eq, pSameRule, pIntsEq, bne]
      generalize (x.From == y.From) = b1
      generalize (x.To == y.To) = b2
      cases b1 <;> cases b2 <;> rfl) a.Rules 0 (by simpa using h2) (fun x _ y _ => rfl)
    simpa using this
  have hl1 : a.Rules.length ≠ b.Rules.length → eqF pSameRule a.Rules b.Rules = false := eqF_len
  have hl2 : a.Results.length ≠ b.Results.length → eqF pSameTuples a.Results b.Results = false := eqF_len
  simp only [s_EqualMediators, s_l2Ints_eq, s_l32SameMethods_eq, hF, hC, s_SameAccesses_eq, Option.bind_some, pEqMed, pIntsEq, bne]
  cases eqF (fun x y => x == y) a.Schema b.Schema
  · rfl
  cases eqF pSameMethod a.Methods b.Methods
  · rfl
  by_cases e1 : a.Rules.length = b.Rules.length
  rotate_left
  · rw [hl1 e1, show ((a.Rules.length : Int) == (b.Rules.length : Int)) = false by simpa [Int.natCast_inj] using e1]; rfl
  rw [show ((a.Rules.length : Int) == (b.Rules.length : Int)) = true by simp [e1]]
  by_cases e2 : a.Results.length = b.Results.length
  rotate_left
  · rw [hl2 e2, show ((a.Results.length : Int) == (b.Results.length : Int)) = false by simpa [Int.natCast_inj] using e2]
    cases pSameFacts a.Source.Facts b.Source.Facts <;> cases (a.Source.Version == b.Source.Version) <;> cases pEqCaches a.Cache b.Cache <;> cases (a.Now == b.Now) <;> cases eqF pSameAccess a.Log b.Log <;> cases eqF (fun x y => x == y) a.Times b.Times <;> cases (a.Spent == b.Spent) <;> simp
  rw [show ((a.Results.length : Int) == (b.Results.length : Int)) = true by simp [e2], hR e2 e1]
  cases pSameFacts a.Source.Facts b.Source.Facts
  · cases eqF pSameRule a.Rules b.Rules <;> rfl
  cases (a.Source.Version == b.Source.Version)
  · cases eqF pSameRule a.Rules b.Rules <;> rfl
  cases pEqCaches a.Cache b.Cache
  · cases eqF pSameRule a.Rules b.Rules <;> rfl
  cases (a.Now == b.Now)
  · cases eqF pSameRule a.Rules b.Rules <;> rfl
  cases eqF pSameAccess a.Log b.Log
  · cases eqF pSameRule a.Rules b.Rules <;> rfl
  cases eqF (fun x y => x == y) a.Times b.Times
  · cases eqF pSameRule a.Rules b.Rules <;> rfl
  cases (a.Spent == b.Spent)
  · cases eqF pSameRule a.Rules b.Rules <;> rfl
  cases eqF pSameRule a.Rules b.Rules <;> rfl
theorem bd_Med (a : Mediator) (h : tot_Mediator a < 4294967296) : bd_Mediator a := by
  unfold tot_Mediator tot_Source tot_Cache at h
  have hF : ∀ l : List Fact, totL tot_Fact l < 4294967296 → bdL bd_Fact l := bdL_of fun x hx => bdL_flat _ hx
  have hA : ∀ x : Access, tot_Access x < 4294967296 → bd_Access x := fun x hx => bdL_flat _ hx
  exact ⟨bdL_flat _ (by omega), bdL_of (f := tot_Method) (fun x hx => bdL_flat _ hx) _ (by omega), bdL_of (f := tot_Rule) (fun x hx => bdL_flat _ hx) _ (by omega), hF _ (by omega),
    bdL_of (f := tot_Stored) (fun x hx => ⟨hA _ (by unfold tot_Stored at hx; omega), hF _ (by unfold tot_Stored at hx; omega)⟩) _ (by omega), bdL_of hA _ (by omega), bdL_flat _ (by omega),
    bdL_of (f := totL fun a : List Int => a.length) (fun x hx => bdL_of (f := fun a : List Int => a.length) (fun y hy => bdL_flat y hy) x hx) _ (by omega)⟩

theorem law_fnExactEqualMediators {a b : Mediator} (wa : wf73 a) (wb : wf73 b) : l_FnExactEqualMediators a b = some true := by
  unfold l_FnExactEqualMediators
  obtain ⟨n1, e1, h1⟩ := sz_Mediator a wa 1048576 (by omega) (by omega)
  rw [e1, Option.bind_some]
  try dsimp only at h1
  rcases h1 with ⟨rfl, p1⟩ | p1
  rotate_left
  · rw [if_pos (by simpa using p1)]
  rw [if_neg (by simp only [decide_eq_true_eq]; omega)]
  obtain ⟨n2, e2, h2⟩ := sz_Mediator b wb _ p1 (by omega)
  rw [e2, Option.bind_some]
  try dsimp only at h2
  rcases h2 with ⟨rfl, p2⟩ | p2
  rotate_left
  · rw [if_pos (by simpa using p2)]
  rw [if_neg (by simp only [decide_eq_true_eq]; omega)]
  have ba := bd_Med a (by omega)
  have bb := bd_Med b (by omega)
  simp [to_Mediator a ba, to_Mediator b bb, s_EqualMediators_eq a b ba, i_EqualMediators_eq, eq_Mediator]

end Go.Proofs.Ytabpeldbccicaaa

/-
  The row FnExactEqualMediators.
-/
set_option maxRecDepth 100000
namespace Go.Proofs.Ytabpeldbccicaaa.fnExactEqualMediators
open Go Go.Fw Go.ChangeShapes Go.WideShapes Go.ChangeAt Go.RowKit

theorem own : ownKnob Try.prog.godebug = none := by kernel_rfl
theorem laidOut : laidOutB Try.prog = true := by kernel_rfl

set_option maxRecDepth 100000 in
theorem lifted (os : Os) (started : os.Started) (H : Type) (enc : TypeId × Value → H) :
    ReturnsInHanded {} Try.checked os 8 .any (Rows.fnExactEqualMediatorsSpec.pre6 enc Try.prog Try.f8 Rows.fnExactEqualMediatorsRow.domain false) (Rows.fnExactEqualMediatorsSpec.post enc Try.prog Try.f8 false true false false) := by
  refine returnsInHanded_of_change_sized (C := Try.checked) own started (by kernel_rfl) Try.func8
    (ChangeSpec.witness6 (enc := enc) (C := Try.checked) false ⟨#[], #[.agg #[.slice none 0 0, .slice none 0 0, .slice none 0 0, .slice none 0 0, .int .i64 0, .slice none 0 0, .int .i64 0, .int .i64 0, .slice none 0 0, .slice none 0 0, .int .i64 0, .slice none 0 0], .agg #[.slice none 0 0, .slice none 0 0, .slice none 0 0, .slice none 0 0, .int .i64 0, .slice none 0 0, .int .i64 0, .int .i64 0, .slice none 0 0, .slice none 0 0, .int .i64 0, .slice none 0 0]], []⟩ 16 (by kernel_rfl) (by kernel_rfl) (by kernel_rfl) (by kernel_rfl)) ?_
  intro W base args ds gs before hval hW _ hwt _
  have hW' := hW
  obtain ⟨p, q, hA0, hV, rfl, hfz, hnd⟩ := hW
  obtain ⟨rfl, rfl⟩ := trodVars_none hV
  have hA : DataW.TrodAll enc Try.prog W 0 (fun _ => true) true [73, 73] args.toList ds p := hA0
  have hw : ∀ n ∈ DataW.weightsEach Try.prog [73, 73] ds, n ≤ reachBytes := fun n hn => by
    have := List.all_eq_true.1 hwt n (by rw [List.append_nil]; exact hn)
    simpa using this
  obtain ⟨v0, vs0, d0, ds0, p0, ρ0, H0, av0, a0, e0, rfl, hA0, hw0, r0, f0, u0, i0, rv0, q0, w0⟩ := opn_arg hA hw op73 sh73 (r := .any) (base := base) (fun v h => hval 0 73 v rfl (arg_at h)) (Rel.nil _ W trivial) Frn.nil
  obtain ⟨v1, vs1, d1, ds1, p1, ρ1, H1, av1, a1, e1, rfl, hA1, hw1, r1, f1, u1, i1, rv1, q1, w1⟩ := opn_arg hA0 hw0 op73 sh73 (r := .any) (base := base) (fun v h => hval 1 73 v rfl (arg_at (by rw [e0]; exact h))) r0 f0
  obtain ⟨en, rfl⟩ := opn_none hA1
  subst en
  obtain ⟨xav0_0, xav0_1, xav0_2, xav0_3, xav0_4, xav0_5, xav0_6, xav0_7, rfl, gav0_0, gav0_1, gav0_2, gav0_3, gav0_4, gav0_5, gav0_6, gav0_7⟩ := q0
  obtain ⟨xav1_0, xav1_1, xav1_2, xav1_3, xav1_4, xav1_5, xav1_6, xav1_7, rfl, gav1_0, gav1_1, gav1_2, gav1_3, gav1_4, gav1_5, gav1_6, gav1_7⟩ := q1
  have hargs : RelVs ρ1 [(.agg [xav0_0.v, xav0_1.v, xav0_2.v, xav0_3.v, (.int .i64 a0.Source.Version), xav0_4.v, (.int .i64 a0.Cache.Age), (.int .i64 a0.Now), xav0_5.v, xav0_6.v, (.int .i64 a0.Spent), xav0_7.v].toArray), (.agg [xav1_0.v, xav1_1.v, xav1_2.v, xav1_3.v, (.int .i64 a1.Source.Version), xav1_4.v, (.int .i64 a1.Cache.Age), (.int .i64 a1.Now), xav1_5.v, xav1_6.v, (.int .i64 a1.Spent), xav1_7.v].toArray)] args.toList := by
    rw [e0, e1]
    exact (.cons _ _ _ _ (rv0.up u1) (.cons _ _ _ _ rv1 .nil))
  have hlaw := law_fnExactEqualMediators w0 w1
  refine ((l_FnExactEqualMediators_ok a0 xav0_0 xav0_1 xav0_2 xav0_3 xav0_4 xav0_5 xav0_6 xav0_7 a1 xav1_0 xav1_1 xav1_2 xav1_3 xav1_4 xav1_5 xav1_6 xav1_7 true hlaw) H1 [] (Ctx.dup (Ctx.dup (Ctx.dup (Ctx.dup (Ctx.dup (Ctx.dup (Ctx.dup (Ctx.dup (Ctx.dup (Ctx.dup (Ctx.dup (Ctx.dup (Ctx.dup (Ctx.dup (Ctx.dup (Ctx.dup (Ctx.start _) gav1_7 rfl) gav1_6 rfl) gav1_5 rfl) gav1_4 rfl) gav1_3 rfl) gav1_2 rfl) gav1_1 rfl) gav1_0 rfl) (Mono.up gav0_7 i1) rfl) (Mono.up gav0_6 i1) rfl) (Mono.up gav0_5 i1) rfl) (Mono.up gav0_4 i1) rfl) (Mono.up gav0_3 i1) rfl) (Mono.up gav0_2 i1) rfl) (Mono.up gav0_1 i1) rfl) (Mono.up gav0_0 i1) rfl) ρ1 W args r1 hargs).mono ?_
  rintro e w' ⟨v, r, ρ', H', rfl, h1, h2, h3, x, h5, -⟩
  have h6 : r = .bool true := h5
  subst h6
  refine ⟨_, rfl, ?_⟩
  rw [h1.bool_inv]
  refine law_post hW' rfl laidOut (by kernel_rfl) rfl (by kernel_rfl) (fun d => ?_) (h3.below f1)
  by_cases hd : d = [d0, d1]
  · subst hd; exact .inl ⟨rfl, rfl, rfl⟩
  · exact .inr (by simpa using hd)

theorem over : Rows.fnExactEqualMediatorsRow.holds Try.pinned (OpenSpec.ofChange Rows.fnExactEqualMediatorsSpec) :=
  OpenClaim.holds_of_wide 8 Try.f8 rfl rfl rfl rfl rfl rfl rfl ⟨rfl, rfl, rfl, rfl, rfl⟩ rfl rfl rfl rfl rfl (by kernel_rfl) Try.func8 (by kernel_rfl)
    (of_decide_eq_true (by kernel_rfl)) (by unfold Func.isWrapper; first | (rw [if_pos (by decide +kernel)]; kernel_rfl) | (rw [if_neg (by decide +kernel)]; exact ⟨rfl, rfl⟩))
    (fun os started H enc _ => lifted os started H enc)

theorem proved : Rows.FnExactEqualMediatorsSaid := over
end Go.Proofs.Ytabpeldbccicaaa.fnExactEqualMediators
