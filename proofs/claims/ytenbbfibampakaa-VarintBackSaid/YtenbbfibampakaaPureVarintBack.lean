/- What varint.Put puts varint.Take takes, whatever stands behind it: the plain part, with no condition. -/
import Derived.Test.YtenbbfibampakaaQ5
import Derived.Test.YtenbbfibampakaaPureLib
namespace Go.Proofs.Ytenbbfibampakaa.Pure
open Go.RowKit Go.Proofs.Ytenbbfibampakaa.Q Go.Proofs.YtenbbfibampakaaW.PrintWords Go.Proofs.YtenbbfibampakaaW.PrintLast Go.Proofs.YtenbbfibampakaaW.PrintMore

theorem put_taken (n : Int) (h0 : 0 ≤ n) (h1 : n ≤ 268435455) (more : List Int) : tkS (putS n ++ more) = (n, ((putS n).length : Int), 0) ∧ tkS ((putS n).take ((putS n).length - 1)) = (0, 0, 1) ∧ 1 ≤ (putS n).length ∧ (putS n).length ≤ 4 := by
  unfold tkS
  rcases put_cases n h0 h1 with ⟨a, e⟩ | ⟨a, b, e⟩ | ⟨a, b, e⟩ | ⟨a, e⟩
  · rw [e]
    refine ⟨?_, by simp [tk], by simp, by simp⟩
    simp only [List.cons_append, List.nil_append, tk, List.length_cons, List.length_nil]
    rw [if_neg (by omega)]
    by_cases z : n = 0
    · rw [if_pos z, if_neg (by omega), z]; try rfl
    · rw [if_neg z, show 0 + n * 1 = n from by omega]; try rfl
  · rw [e]
    refine ⟨?_, ?_, by simp, by simp⟩
    · simp only [List.cons_append, List.nil_append, tk, List.length_cons, List.length_nil]
      rw [if_pos (by omega), if_neg (by omega), if_neg (by omega), show 0 + (n % 128 + 128 - 128) * 1 + n / 128 * (1 * 128) = n from by omega]; try rfl
    · simp only [List.length_cons, List.length_nil, Nat.reduceAdd, Nat.reduceSub, List.take_succ_cons, List.take_zero, tk]
      rw [if_pos (by omega)]
  · rw [e]
    refine ⟨?_, ?_, by simp, by simp⟩
    · simp only [List.cons_append, List.nil_append, tk, List.length_cons, List.length_nil]
      rw [if_pos (by omega), if_pos (by omega), if_neg (by omega), if_neg (by omega), show 0 + (n % 128 + 128 - 128) * 1 + (n / 128 % 128 + 128 - 128) * (1 * 128) + n / 16384 * (1 * 128 * 128) = n from by omega]; try rfl
    · simp only [List.length_cons, List.length_nil, Nat.reduceAdd, Nat.reduceSub, List.take_succ_cons, List.take_zero, tk]
      rw [if_pos (by omega), if_pos (by omega)]
  · rw [e]
    refine ⟨?_, ?_, by simp, by simp⟩
    · simp only [List.cons_append, List.nil_append, tk, List.length_cons, List.length_nil]
      rw [if_pos (by omega), if_pos (by omega), if_pos (by omega), if_neg (by omega), if_neg (by omega), show 0 + (n % 128 + 128 - 128) * 1 + (n / 128 % 128 + 128 - 128) * (1 * 128) + (n / 16384 % 128 + 128 - 128) * (1 * 128 * 128) + n / 2097152 * (1 * 128 * 128 * 128) = n from by omega]; try rfl
    · simp only [List.length_cons, List.length_nil, Nat.reduceAdd, Nat.reduceSub, List.take_succ_cons, List.take_zero, tk]
      rw [if_pos (by omega), if_pos (by omega), if_pos (by omega)]
theorem VarintBack : pentroughlaw02_VarintBack.Pure := by
  intro n l hn hm1 hm2 hl
  refine ⟨6, ?_⟩
  unfold pentroughlaw02_VarintBack.f
  rw [awake_val 6 (by decide), put_val n 6 (by decide)]
  simp only [Option.bind_some]
  by_cases c : (l.length : Int) > 100
  · rw [if_pos c]
  rw [if_neg c]
  by_cases h0 : n < 0
  · rw [if_pos h0, pentroughlaw02_VarintBack.j0, if_pos rfl, if_pos rfl]
    have e : putS n = [] := by unfold putS; rw [if_neg (by omega)]
    rw [e, if_pos (by simp), size_val n 5 (by decide), e]; rfl
  rw [if_neg h0, pentroughlaw02_VarintBack.j0]
  by_cases h1 : n > 268435455
  · rw [if_pos (decide_eq_true h1), if_pos rfl]
    have e : putS n = [] := by unfold putS; rw [if_neg (by omega)]
    rw [e, if_pos (by simp), size_val n 5 (by decide), e]; rfl
  rw [if_neg (by simpa using h1)]
  obtain ⟨t1, t2, t3, t4⟩ := put_taken n (by omega) (by omega) l
  have hb : Byt (putS n ++ l) := by
    intro x hx
    rcases List.mem_append.1 hx with hx | hx
    · exact put_byt n x hx
    · exact byt_of_wf hl x hx
  have hb2 : Byt ((putS n).take ((putS n).length - 1)) := fun x hx => put_byt n x (List.mem_of_mem_take hx)
  have hw : wrap64 (((putS n).length : Int) - 1) = (((putS n).length - 1 : Nat) : Int) := by unfold wrap64; omega
  rw [hw]
  simp only [Option.bind_some, List.nil_append, List.length_nil, Nat.zero_add, Int.toNat_natCast]
  rw [if_pos (by omega), if_pos (by omega), take_val _ hb 5 (by decide), take_val _ hb2 5 (by decide), t1, t2]
  simp only [Option.bind_some]
  rw [if_neg (by omega), if_neg (by omega)]
  simp only [if_true]
  rw [if_pos (by omega), if_pos (by omega)]
  simp
end Go.Proofs.Ytenbbfibampakaa.Pure
