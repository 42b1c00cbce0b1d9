/- Capitals are thirty-two ahead: the plain part. -/
import Derived.Test.YteemdonegpnkcaaQ7
import Derived.Test.YteemdonegpnkcaaPureLib
import Derived.Laws.BitsLemmas
namespace Go.Proofs.Yteemdonegpnkcaa.Pure
open Go.RowKit Go.Proofs.Yteemdonegpnkcaa.Q Go.Proofs.YteemdonegpnkcaaW.PrintWords Go.Proofs.YteemdonegpnkcaaW.PrintLast
set_option linter.unusedVariables false

/-- What is asked of a letter's number. -/
def letterB (x : Int) : Bool :=
  if x = 215 ∨ x = 930 then decide (foldV x = [x]) else decide (foldV x = [x + 32]) && decide (foldV (x + 32) = [x + 32])
theorem letter_j1 (x : Int) (hx : 0 ≤ x ∧ x ≤ 2000) (hb : letterB x = true) (k : Nat) (hk : 30 < k) : pentroughlaw06_CasingLetters.j1 (k + 1) true x = some true := by
  have w1 : wrap64 (x + 32) = x + 32 := by unfold wrap64; omega
  rw [pentroughlaw06_CasingLetters.j1, w1, Fold_val x (by unfold Wf; omega) k (by omega), Option.bind_some, Fold_val (x + 32) (by unfold Wf; omega) k (by omega), Option.bind_some]
  unfold letterB at hb
  by_cases c : x = 215 ∨ x = 930
  · rw [if_pos c] at hb
    have e := of_decide_eq_true hb
    rw [e]
    rcases c with c | c
    · rw [if_pos c]; simp [rd]
    · rw [if_neg (by omega), if_pos c]; simp [rd]
  · rw [if_neg c, Bool.and_eq_true, decide_eq_true_eq, decide_eq_true_eq] at hb
    rw [hb.1, hb.2, if_neg (by omega), if_neg (by omega)]
    simp [rd]
theorem letters : ∀ n : Fin 84, letterB (if (n.1 : Int) ≥ 57 then 913 + (n.1 : Int) - 57 else if (n.1 : Int) ≥ 26 then 192 + (n.1 : Int) - 26 else 65 + (n.1 : Int)) = true := by decide +kernel
theorem letter_all (n : Nat) (hn : n < 84) (k : Nat) (hk : 40 < k) : (if (n : Int) ≥ 26 then pentroughlaw06_CasingLetters.j0 k true n (wrap64 (wrap64 (192 + (n : Int)) - 26)) else pentroughlaw06_CasingLetters.j0 k true n (wrap64 (65 + (n : Int)))) = some true := by
  obtain ⟨k, rfl⟩ : ∃ j, k = j + 2 := ⟨k - 2, by omega⟩
  have h := letters ⟨n, hn⟩
  simp only at h
  have w0 : wrap64 (wrap64 (192 + (n : Int)) - 26) = 192 + n - 26 := by unfold wrap64; omega
  have w1 : wrap64 (65 + (n : Int)) = 65 + n := by unfold wrap64; omega
  have w2 : wrap64 (wrap64 (913 + (n : Int)) - 57) = 913 + n - 57 := by unfold wrap64; omega
  rw [w0, w1, pentroughlaw06_CasingLetters.j0, pentroughlaw06_CasingLetters.j0, w2]
  by_cases c57 : (n : Int) ≥ 57
  · rw [if_pos c57] at h
    rw [if_pos c57, if_pos c57, if_pos (by omega)]
    exact letter_j1 _ (by omega) h k (by omega)
  · rw [if_neg c57] at h
    rw [if_neg c57, if_neg c57]
    by_cases c26 : (n : Int) ≥ 26
    · rw [if_pos c26] at h
      rw [if_pos c26]
      exact letter_j1 _ (by omega) h k (by omega)
    · rw [if_neg c26] at h
      rw [if_neg c26]
      exact letter_j1 _ (by omega) h k (by omega)
theorem and65535 (n : Int) : Go.bits .and .i64 n 65535 = n % 65536 := by
  have hm : (BitVec.ofInt 64 65535).toNat = 2 ^ 16 - 1 := by decide
  have key : (BitVec.ofInt 64 n &&& BitVec.ofInt 64 65535).toNat = (n % ((2 ^ 64 : Nat) : Int)).toNat % 2 ^ 16 := by
    rw [BitVec.toNat_and, BitVec.toNat_ofInt, hm, Nat.and_two_pow_sub_one_eq_mod]
  show IntKind.i64.wrap ((BitVec.ofInt 64 n &&& BitVec.ofInt 64 65535).toNat : Nat) = n % 65536
  rw [key, IntKind.wrap_i64]
  omega
theorem CasingLetters : pentroughlaw06_CasingLetters.Pure := by
  intro a _
  refine ⟨100, ?_⟩
  unfold pentroughlaw06_CasingLetters.f
  rw [awake_val 100 (by omega), Option.bind_some]
  have hb : 0 ≤ Go.bits .and .i64 a 65535 := by
    rw [and65535]
    omega
  obtain ⟨n, hn⟩ : ∃ n : Nat, Int.tmod (Go.bits .and .i64 a 65535) 84 = n := by
    have := Int.tmod_nonneg 84 hb
    exact ⟨_, (Int.toNat_of_nonneg this).symm⟩
  have hlt : n < 84 := by
    have := Int.tmod_lt_of_pos (Go.bits .and .i64 a 65535) (b := 84) (by decide)
    omega
  rw [hn]
  exact letter_all n hlt 100 (by omega)
end Go.Proofs.Yteemdonegpnkcaa.Pure
