/- Of any bytes that begin with a number these are what varint.Put puts of it: the plain part, with no condition. -/
import Derived.Test.YtenbbfibampakaaQ6
import Derived.Test.YtenbbfibampakaaPureLib
namespace Go.Proofs.Ytenbbfibampakaa.Pure
open Go.RowKit Go.Proofs.Ytenbbfibampakaa.Q Go.Proofs.YtenbbfibampakaaW.PrintWords Go.Proofs.YtenbbfibampakaaW.PrintLast Go.Proofs.YtenbbfibampakaaW.PrintMore

/-- What is taken is put as the same bytes. -/
theorem taken_put (l : List Int) (hl : Byt l) (n k : Int) (h : tkS l = (n, k, 0)) : 1 ≤ k ∧ k ≤ 4 ∧ k ≤ l.length ∧ 0 ≤ n ∧ n ≤ 268435455 ∧ putS n = l.take k.toNat ∧ ((putS n).length : Int) = k := by
  rcases take_cases l hl n k h with ⟨a, t, rfl, a0, a1, rfl, rfl⟩ | ⟨a, b, t, rfl, a0, a1, b0, b1, rfl, rfl⟩ | ⟨a, b, c, t, rfl, a0, a1, b0, b1, c0, c1, rfl, rfl⟩ | ⟨a, b, c, d, t, rfl, a0, a1, b0, b1, c0, c1, d0, d1, rfl, rfl⟩
  · rcases put_cases n a0 (by omega) with ⟨_, e⟩ | ⟨_, _, e⟩ | ⟨_, _, e⟩ | ⟨_, e⟩ <;> first | omega | skip
    exact ⟨by decide, by decide, by simp only [List.length_cons]; omega, by omega, by omega, by rw [e]; rfl, by rw [e]; rfl⟩
  · rcases put_cases (a - 128 + b * 128) (by omega) (by omega) with ⟨_, e⟩ | ⟨_, _, e⟩ | ⟨_, _, e⟩ | ⟨_, e⟩ <;> first | omega | skip
    rw [show (a - 128 + b * 128) % 128 + 128 = a from by omega, show (a - 128 + b * 128) / 128 = b from by omega] at e
    exact ⟨by decide, by decide, by simp only [List.length_cons]; omega, by omega, by omega, by rw [e]; rfl, by rw [e]; rfl⟩
  · rcases put_cases (a - 128 + (b - 128) * 128 + c * 16384) (by omega) (by omega) with ⟨_, e⟩ | ⟨_, _, e⟩ | ⟨_, _, e⟩ | ⟨_, e⟩ <;> first | omega | skip
    rw [show (a - 128 + (b - 128) * 128 + c * 16384) % 128 + 128 = a from by omega, show (a - 128 + (b - 128) * 128 + c * 16384) / 128 % 128 + 128 = b from by omega, show (a - 128 + (b - 128) * 128 + c * 16384) / 16384 = c from by omega] at e
    exact ⟨by decide, by decide, by simp only [List.length_cons]; omega, by omega, by omega, by rw [e]; rfl, by rw [e]; rfl⟩
  · rcases put_cases (a - 128 + (b - 128) * 128 + (c - 128) * 16384 + d * 2097152) (by omega) (by omega) with ⟨_, e⟩ | ⟨_, _, e⟩ | ⟨_, _, e⟩ | ⟨_, e⟩ <;> first | omega | skip
    rw [show (a - 128 + (b - 128) * 128 + (c - 128) * 16384 + d * 2097152) % 128 + 128 = a from by omega, show (a - 128 + (b - 128) * 128 + (c - 128) * 16384 + d * 2097152) / 128 % 128 + 128 = b from by omega, show (a - 128 + (b - 128) * 128 + (c - 128) * 16384 + d * 2097152) / 16384 % 128 + 128 = c from by omega, show (a - 128 + (b - 128) * 128 + (c - 128) * 16384 + d * 2097152) / 2097152 = d from by omega] at e
    exact ⟨by decide, by decide, by simp only [List.length_cons]; omega, by omega, by omega, by rw [e]; rfl, by rw [e]; rfl⟩
theorem VarintOnce : pentroughlaw02_VarintOnce.Pure := by
  intro l _ _ hl
  have hb := byt_of_wf hl
  refine ⟨6, ?_⟩
  unfold pentroughlaw02_VarintOnce.f
  rw [awake_val 6 (by decide), take_val l hb 6 (by decide)]
  simp only [Option.bind_some]
  by_cases h : (tkS l).2.2 = 0
  · rw [if_pos h]
    have ht : tkS l = ((tkS l).1, (tkS l).2.1, 0) := by rw [← h]
    generalize (tkS l).1 = n at ht ⊢
    generalize (tkS l).2.1 = k at ht ⊢
    obtain ⟨k1, k2, k3, n1, n2, e, el⟩ := taken_put l hb n k ht
    rw [if_neg (by omega), if_neg (by omega), if_neg (by omega), if_neg (by omega), pentroughlaw02_VarintOnce.j0, if_neg (by simp only [decide_eq_true_eq]; omega), if_pos rfl, put_val n 5 (by decide), Option.bind_some, if_pos (by omega), if_pos k3, if_pos (by rw [e]), size_val n 5 (by decide), Option.bind_some, el]
    simp
  · rw [if_neg h]
    simp only [if_true]
    have z := tk_err 4 0 0 1 l h
    have z1 : (tkS l).1 = 0 := z.1
    have z2 : (tkS l).2.1 = 0 := z.2
    rw [if_pos z1, z2]; rfl
end Go.Proofs.Ytenbbfibampakaa.Pure
