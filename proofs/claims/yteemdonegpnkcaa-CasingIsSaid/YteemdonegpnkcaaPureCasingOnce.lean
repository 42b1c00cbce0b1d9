/- What is folded is folded once: the plain part. -/
import Derived.Test.YteemdonegpnkcaaQ9
import Derived.Test.YteemdonegpnkcaaQ8
import Derived.Test.YteemdonegpnkcaaPureLib
namespace Go.Proofs.Yteemdonegpnkcaa.Pure
open Go.RowKit Go.Proofs.Yteemdonegpnkcaa.Q Go.Proofs.YteemdonegpnkcaaW.PrintWords Go.Proofs.YteemdonegpnkcaaW.PrintLast
set_option linter.unusedVariables false

def goodB (a : Int) : Bool := decide (0 ≤ a) && decide (a ≤ 1114111) && (decide (a < 55296) || decide (57343 < a))
theorem Good_val (a : Int) : dec_Good.f a = some (goodB a) := by
  unfold dec_Good.f goodB
  by_cases h1 : a ≥ 0
  · rw [if_pos h1]
    by_cases h2 : a ≤ 1114111
    · rw [if_pos h2]
      by_cases h3 : a < 55296
      · rw [if_pos h3]; simp [h1, h2, h3]
      · rw [if_neg h3]; simp [h1, h2, h3]
    · rw [if_neg h2]; simp [h2]
  · rw [if_neg h1]; simp [h1]
/-- What is asked of a number. -/
def onceB (a : Int) : Bool :=
  decide ((foldV a).flatMap foldV = foldV a) && (foldV a).all (fun x => goodB x && decide (0 ≤ x) && decide (x ≤ 100000)) &&
    (if 65 ≤ a ∧ a ≤ 90 then decide (foldV a = [a + 32]) else if a < 128 then decide (rd (foldV a) 0 = a) else true)
theorem near0 : (List.range 250).all (fun n => onceB (n : Int)) = true := by decide +kernel
theorem near1 : (List.range 250).all (fun n => onceB ((250 + n : Nat) : Int)) = true := by decide +kernel
theorem near2 : (List.range 250).all (fun n => onceB ((500 + n : Nat) : Int)) = true := by decide +kernel
theorem near3 : (List.range 250).all (fun n => onceB ((750 + n : Nat) : Int)) = true := by decide +kernel
theorem near4 : (List.range 160).all (fun n => onceB ((7800 + n : Nat) : Int)) = true := by decide +kernel
def Far (a : Int) : Prop := a < 0 ∨ (1000 ≤ a ∧ a < 7800) ∨ 7960 ≤ a
theorem once_near (n : Nat) (h : ¬ Far n) : onceB n = true := by
  unfold Far at h
  by_cases h0 : n < 250
  · exact List.all_eq_true.1 near0 n (List.mem_range.2 h0)
  by_cases h1 : n < 500
  · have := List.all_eq_true.1 near1 (n - 250) (List.mem_range.2 (by omega))
    rwa [show 250 + (n - 250) = n from by omega] at this
  by_cases h2 : n < 750
  · have := List.all_eq_true.1 near2 (n - 500) (List.mem_range.2 (by omega))
    rwa [show 500 + (n - 500) = n from by omega] at this
  by_cases h3 : n < 1000
  · have := List.all_eq_true.1 near3 (n - 750) (List.mem_range.2 (by omega))
    rwa [show 750 + (n - 750) = n from by omega] at this
  · have := List.all_eq_true.1 near4 (n - 7800) (List.mem_range.2 (by omega))
    rwa [show 7800 + (n - 7800) = n from by omega] at this
theorem rule_far (a : Int) (h : Far a) : ∀ L : List S35, (∀ s ∈ L, (0 ≤ s.f0 ∧ s.f1 < 1000) ∨ (7800 ≤ s.f0 ∧ s.f1 < 7960)) → ruleV a L = [a]
  | [], _ => rfl
  | s :: t, hs => by
    have := hs s List.mem_cons_self
    have h' := h
    unfold Far at h'
    rw [ruleV, if_neg (by omega)]
    exact rule_far a h t (fun x hx => hs x (List.mem_cons_of_mem _ hx))
theorem fold_far (a : Int) (h : Far a) : foldV a = [a] := by
  unfold foldV
  cases hl : Sp.sp.lookup a with
  | some xs =>
    have hp : ∀ q ∈ Sp.sp, 0 ≤ q.1 ∧ q.1 < 1000 := by decide
    have := hp _ (lookup_mem hl)
    simp only at this
    unfold Far at h
    omega
  | none => exact rule_far a h rulesL (by decide)
/-- What a number becomes, as the law asks it. -/
theorem once_facts (a : Int) (ha : Wf a) : (foldV a).flatMap foldV = foldV a ∧ (∀ x ∈ foldV a, Wf x ∧ (goodB a = true → goodB x = true)) ∧ (65 ≤ a → a ≤ 90 → foldV a = [a + 32]) ∧ (0 ≤ a → a < 128 → ¬ (65 ≤ a ∧ a ≤ 90) → rd (foldV a) 0 = a) := by
  by_cases h : Far a
  · have e := fold_far a h
    refine ⟨by simp [e], fun x hx => ?_, fun h1 h2 => by unfold Far at h; omega, fun h1 h2 => by unfold Far at h; omega⟩
    rw [e] at hx
    simp at hx
    subst hx
    exact ⟨ha, fun q => q⟩
  · obtain ⟨n, rfl⟩ : ∃ n : Nat, a = n := ⟨a.toNat, by unfold Far at h; omega⟩
    have hn := once_near n h
    simp only [onceB, Bool.and_eq_true, decide_eq_true_eq, List.all_eq_true] at hn
    obtain ⟨⟨o1, o2⟩, o3⟩ := hn
    refine ⟨o1, fun x hx => ?_, fun h1 h2 => ?_, fun h1 h2 h3 => ?_⟩
    · have := o2 x hx
      exact ⟨by unfold Wf; omega, fun _ => this.1.1⟩
    · rw [if_pos ⟨h1, h2⟩] at o3
      exact of_decide_eq_true o3
    · rw [if_neg h3, if_pos h2] at o3
      exact of_decide_eq_true o3
theorem once_j2 (a : Int) (ha : Wf a) (k : Nat) (hk : 40 < k) : pentroughlaw06_CasingOnce.j2 (k + 1) true (foldV a) false = some true := by
  obtain ⟨o1, o2, _, _⟩ := once_facts a ha
  have hl := foldV_len a
  rw [pentroughlaw06_CasingOnce.j2, if_neg (by decide), if_pos rfl, All_val (foldV a) (by omega) (fun x hx => (o2 x hx).1) k (by omega), Option.bind_some, o1, same_self _ (by omega) k (by omega)]
  rfl
theorem once_end (a : Int) (ha : Wf a) (i : Nat) (hi : i = (foldV a).length) (k : Nat) (hk : 40 < k) : pentroughlaw06_CasingOnce.l0 (k + 2) a true (foldV a) i = some true := by
  obtain ⟨o1, o2, o3, o4⟩ := once_facts a ha
  have hl := foldV_len a
  have hj := once_j2 a ha k hk
  rw [pentroughlaw06_CasingOnce.l0, if_neg (by omega)]
  by_cases c1 : 65 ≤ a ∧ a ≤ 90
  · have e := o3 c1.1 c1.2
    have w : wrap64 (a + 32) = a + 32 := by unfold wrap64; omega
    have l1 : (foldV a).length = 1 := by rw [e]; rfl
    have r1 : rd (foldV a) 0 = a + 32 := by rw [e]; rfl
    rw [if_pos c1.1, if_pos c1.2, if_pos (by omega), if_pos (by omega), w, if_pos r1, if_pos (by omega), if_pos (by omega), if_neg (by omega), if_neg (by omega)]
    exact hj
  · by_cases c2 : 0 ≤ a ∧ a < 128
    · have e := o4 c2.1 c2.2 c1
      have ne : (rd (foldV a) 0 != a) = false := by rw [e]; exact bne_self_eq_false a
      by_cases c3 : a ≥ 65
      · rw [if_pos c3, if_neg (by omega), if_pos c2.1, if_pos c2.2, if_neg (by omega), if_pos (by omega), if_pos (by omega), ne]
        exact hj
      · rw [if_neg c3, if_pos c2.1, if_pos c2.2, if_pos (by omega), if_pos (by omega), ne]
        exact hj
    · by_cases c3 : a ≥ 65
      · rw [if_pos c3, if_neg (by omega), if_pos (by omega), if_neg (by omega)]
        exact hj
      · rw [if_neg c3, if_neg (by omega)]
        exact hj
theorem once_loop (a : Int) (ha : Wf a) : ∀ (d i k : Nat), i + d = (foldV a).length → d + 50 < k → pentroughlaw06_CasingOnce.l0 k a true (foldV a) i = some true := by
  intro d
  induction d with
  | zero =>
    intro i k hi hk
    obtain ⟨k, rfl⟩ : ∃ j, k = j + 2 := ⟨k - 2, by omega⟩
    exact once_end a ha i (by omega) k (by omega)
  | succ d ih =>
    intro i k hi hk
    obtain ⟨k, rfl⟩ : ∃ j, k = j + 1 := ⟨k - 1, by omega⟩
    obtain ⟨o1, o2, o3, o4⟩ := once_facts a ha
    have hl := foldV_len a
    have h : i < (foldV a).length := by omega
    have e3 : wrap64 ((i : Int) + 1) = ((i + 1 : Nat) : Int) := by unfold wrap64; omega
    have er : rd (foldV a) (i : Int) = (foldV a)[i] := by unfold rd; rw [Int.toNat_natCast, List.getD_eq_getElem?_getD, List.getElem?_eq_getElem h]; rfl
    rw [pentroughlaw06_CasingOnce.l0, if_pos (by omega), Good_val, Option.bind_some, e3, ih (i + 1) k (by omega) (by omega)]
    by_cases g : goodB a = true
    · rw [if_pos g, if_pos (by omega), er, Good_val, Option.bind_some, if_pos ((o2 _ (List.getElem_mem h)).2 g)]
    · rw [if_neg g]
theorem CasingOnce : pentroughlaw06_CasingOnce.Pure := by
  intro a ha
  have hw := wf_of ha
  have hl := foldV_len a
  refine ⟨100, ?_⟩
  unfold pentroughlaw06_CasingOnce.f
  rw [awake_val 100 (by omega), Option.bind_some, Fold_val a hw 100 (by omega), Option.bind_some, if_neg (by omega), show decide (((foldV a).length : Int) > 3) = false from decide_eq_false (by omega), pentroughlaw06_CasingOnce.j0, if_neg (by decide)]
  exact once_loop a hw (foldV a).length 0 99 (by omega) (by omega)
end Go.Proofs.Yteemdonegpnkcaa.Pure
