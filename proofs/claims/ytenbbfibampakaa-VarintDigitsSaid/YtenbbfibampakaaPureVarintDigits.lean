/- The number that varint.Take takes is its bytes' digits: the plain part, with no condition. -/
import Derived.Test.YtenbbfibampakaaQ8
import Derived.Test.YtenbbfibampakaaPureLib
namespace Go.Proofs.Ytenbbfibampakaa.Pure
open Go.RowKit Go.Proofs.Ytenbbfibampakaa.Q Go.Proofs.YtenbbfibampakaaW.PrintWords Go.Proofs.YtenbbfibampakaaW.PrintLast Go.Proofs.YtenbbfibampakaaW.PrintMore

/-- One round of the law's loop at place i of n. -/
theorem dig_round (k : Nat) (l : List Int) (r v c : Int) (n i : Nat) (hi : i < n) (hn : n ≤ 4) (hil : i < l.length) (hc : rd l (i : Int) = c) (h0 : 0 ≤ c) (h1 : c < 256) (hd : (128 ≤ c) ↔ (i + 1 < n)) (v0 : 0 ≤ v) (v1 : v < 2097152) :
    pentroughlaw02_VarintDigits.l0 (k + 1) l true r n v i = pentroughlaw02_VarintDigits.l0 k l true r n (v * 128 + c % 128) ((i : Int) - 1) := by
  have e1 : wrap64 ((n : Int) - 1) = n - 1 := by unfold wrap64; omega
  have e2 : wrap64 c = c := by unfold wrap64; omega
  have e3 : wrap64 (wrap64 (v * 128) + c % 128) = v * 128 + c % 128 := by unfold wrap64; omega
  have e4 : wrap64 ((i : Int) - 1) = i - 1 := by unfold wrap64; omega
  rw [pentroughlaw02_VarintDigits.l0, if_pos (by omega), if_pos (by omega), if_pos (by omega), hc, e1, e2, Int.tmod_eq_emod_of_nonneg h0, e3, e4]
  have hb : ((decide (c ≥ 128)) != (decide ((i : Int) < (n : Int) - 1))) = false := by
    by_cases q : 128 ≤ c
    · have := hd.1 q
      rw [decide_eq_true q, decide_eq_true (by omega)]; rfl
    · have : ¬ i + 1 < n := fun h => q (hd.2 h)
      rw [decide_eq_false q, decide_eq_false (by omega)]; rfl
  rw [hb, if_neg (by decide)]
theorem dig_end (k : Nat) (l : List Int) (r v : Int) (n : Int) (h : v = r) : pentroughlaw02_VarintDigits.l0 (k + 1) l true r n v (-1) = some true := by
  rw [pentroughlaw02_VarintDigits.l0, if_neg (by decide), if_pos rfl, h]; simp
theorem VarintDigits : pentroughlaw02_VarintDigits.Pure := by
  intro l _ _ hl
  have hb := byt_of_wf hl
  refine ⟨8, ?_⟩
  unfold pentroughlaw02_VarintDigits.f
  rw [awake_val 8 (by decide), take_val l hb 8 (by decide)]
  simp only [Option.bind_some]
  by_cases h : (tkS l).2.2 = 0
  · rw [if_pos h]
    have ht : tkS l = ((tkS l).1, (tkS l).2.1, 0) := by rw [← h]
    generalize (tkS l).1 = n at ht ⊢
    generalize (tkS l).2.1 = k at ht ⊢
    rcases take_cases l hb n k ht with ⟨a, t, rfl, a0, a1, hna, rfl⟩ | ⟨a, b, t, rfl, a0, a1, b0, b1, rfl, rfl⟩ | ⟨a, b, c, t, rfl, a0, a1, b0, b1, c0, c1, rfl, rfl⟩ | ⟨a, b, c, d, t, rfl, a0, a1, b0, b1, c0, c1, d0, d1, rfl, rfl⟩
    · rw [hna, if_neg (by decide), if_neg (by decide), pentroughlaw02_VarintDigits.j0, if_neg (by simp only [List.length_cons, decide_eq_true_eq]; omega)]
      rw [show wrap64 (1 - 1) = ((0 : Nat) : Int) from by unfold wrap64; omega, show (1 : Int) = ((1 : Nat) : Int) from rfl]
      rw [dig_round 6 _ _ _ a 1 0 (by decide) (by decide) (by simp) rfl a0 (by omega) (by omega) (by decide) (by decide)]
      exact dig_end 5 _ _ _ _ (by omega)
    · rw [if_neg (by decide), if_neg (by decide), pentroughlaw02_VarintDigits.j0, if_neg (by simp only [List.length_cons, decide_eq_true_eq]; omega)]
      rw [show wrap64 (2 - 1) = ((1 : Nat) : Int) from by unfold wrap64; omega, show (2 : Int) = ((2 : Nat) : Int) from rfl]
      rw [dig_round 6 _ _ _ b 2 1 (by decide) (by decide) (by simp) rfl (by omega) (by omega) (by omega) (by decide) (by decide), show ((1 : Nat) : Int) - 1 = ((0 : Nat) : Int) from rfl]
      rw [dig_round 5 _ _ _ a 2 0 (by decide) (by decide) (by simp) rfl (by omega) (by omega) (by omega) (by omega) (by omega)]
      exact dig_end 4 _ _ _ _ (by omega)
    · rw [if_neg (by decide), if_neg (by decide), pentroughlaw02_VarintDigits.j0, if_neg (by simp only [List.length_cons, decide_eq_true_eq]; omega)]
      rw [show wrap64 (3 - 1) = ((2 : Nat) : Int) from by unfold wrap64; omega, show (3 : Int) = ((3 : Nat) : Int) from rfl]
      rw [dig_round 6 _ _ _ c 3 2 (by decide) (by decide) (by simp) rfl (by omega) (by omega) (by omega) (by decide) (by decide), show ((2 : Nat) : Int) - 1 = ((1 : Nat) : Int) from rfl]
      rw [dig_round 5 _ _ _ b 3 1 (by decide) (by decide) (by simp) rfl (by omega) (by omega) (by omega) (by omega) (by omega), show ((1 : Nat) : Int) - 1 = ((0 : Nat) : Int) from rfl]
      rw [dig_round 4 _ _ _ a 3 0 (by decide) (by decide) (by simp) rfl (by omega) (by omega) (by omega) (by omega) (by omega)]
      exact dig_end 3 _ _ _ _ (by omega)
    · rw [if_neg (by decide), if_neg (by decide), pentroughlaw02_VarintDigits.j0, if_neg (by simp only [List.length_cons, decide_eq_true_eq]; omega)]
      rw [show wrap64 (4 - 1) = ((3 : Nat) : Int) from by unfold wrap64; omega, show (4 : Int) = ((4 : Nat) : Int) from rfl]
      rw [dig_round 6 _ _ _ d 4 3 (by decide) (by decide) (by simp) rfl (by omega) (by omega) (by omega) (by decide) (by decide), show ((3 : Nat) : Int) - 1 = ((2 : Nat) : Int) from rfl]
      rw [dig_round 5 _ _ _ c 4 2 (by decide) (by decide) (by simp) rfl (by omega) (by omega) (by omega) (by omega) (by omega), show ((2 : Nat) : Int) - 1 = ((1 : Nat) : Int) from rfl]
      rw [dig_round 4 _ _ _ b 4 1 (by decide) (by decide) (by simp) rfl (by omega) (by omega) (by omega) (by omega) (by omega), show ((1 : Nat) : Int) - 1 = ((0 : Nat) : Int) from rfl]
      rw [dig_round 3 _ _ _ a 4 0 (by decide) (by decide) (by simp) rfl (by omega) (by omega) (by omega) (by omega) (by omega)]
      exact dig_end 2 _ _ _ _ (by omega)
  · rw [if_neg h]
end Go.Proofs.Ytenbbfibampakaa.Pure
