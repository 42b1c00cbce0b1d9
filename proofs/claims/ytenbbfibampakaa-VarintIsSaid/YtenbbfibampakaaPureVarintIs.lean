/- varint.Put, Size and Take answer as the document's answer does, of any number and bytes: the plain part, with no condition. -/
import Derived.Test.YtenbbfibampakaaQ4
import Derived.Test.YtenbbfibampakaaQ3
import Derived.Test.YtenbbfibampakaaQ2
import Derived.Test.YtenbbfibampakaaPureLib
namespace Go.Proofs.Ytenbbfibampakaa.Pure
open Go.RowKit Go.Proofs.Ytenbbfibampakaa.Q Go.Proofs.YtenbbfibampakaaW.PrintWords Go.Proofs.YtenbbfibampakaaW.PrintLast Go.Proofs.YtenbbfibampakaaW.PrintMore

theorem ref_put_loop : ∀ (f : Nat) (x : Int) (acc : List Int) (k : Nat), f ≤ 3 → f < k → 0 ≤ x → x < 2 ^ (7 * (f + 1)) → acc.length + f ≤ 3 → pentroughref02_Put.l0 k x acc = some (acc ++ pt f x) := by
  intro f
  induction f with
  | zero =>
    intro x acc k hf hk h0 h1 ha
    obtain ⟨k, rfl⟩ : ∃ j, k = j + 1 := ⟨k - 1, by omega⟩
    simp only [Nat.zero_add, Nat.mul_one, Int.reducePow] at h1
    rw [pentroughref02_Put.l0, if_neg (by omega), if_pos (by omega), Int.emod_eq_of_lt h0 (by omega)]
    rfl
  | succ f ih =>
    intro x acc k hf hk h0 h1 ha
    obtain ⟨k, rfl⟩ : ∃ j, k = j + 1 := ⟨k - 1, by omega⟩
    have hx : x < 268435456 := by
      have : f = 0 ∨ f = 1 ∨ f = 2 := by omega
      rcases this with rfl | rfl | rfl <;> simp only [Nat.reduceAdd, Nat.reduceMul, Int.reducePow] at h1 <;> omega
    rw [pentroughref02_Put.l0]
    simp only [pt]
    by_cases c : x ≥ 128
    · have e1 : wrap64 (128 + x.tmod 128) % 256 = x % 128 + 128 := by rw [Int.tmod_eq_emod_of_nonneg h0]; unfold wrap64; omega
      have e2 : wrap64 (x.tdiv 128) = x / 128 := by rw [Int.tdiv_eq_ediv_of_nonneg h0]; unfold wrap64; omega
      rw [if_pos c, if_pos c, if_pos (by omega), e1, e2]
      have hq : x / 128 < 2 ^ (7 * (f + 1)) := by
        have : f = 0 ∨ f = 1 ∨ f = 2 := by omega
        rcases this with rfl | rfl | rfl <;> simp only [Nat.reduceAdd, Nat.reduceMul, Int.reducePow] at h1 ⊢ <;> omega
      rw [ih (x / 128) _ k (by omega) (by omega) (by omega) hq (by rw [List.length_append]; simp only [List.length_singleton]; omega), List.append_assoc]
      rfl
    · rw [if_neg c, if_neg c, if_pos (by omega), Int.emod_eq_of_lt h0 (by omega)]
theorem ref_put_val (n : Int) (k : Nat) (hk : 4 < k) : pentroughref02_Put.f k n = some (putS n) := by
  obtain ⟨k, rfl⟩ : ∃ j, k = j + 1 := ⟨k - 1, by omega⟩
  unfold pentroughref02_Put.f putS
  by_cases h : n < 0
  · rw [if_pos h, if_neg (by omega), pentroughref02_Put.j0, if_pos rfl]
  · rw [if_neg h, pentroughref02_Put.j0]
    by_cases h2 : n > 268435455
    · rw [if_pos (decide_eq_true h2), if_neg (by omega)]
    · rw [if_neg (by simpa using h2), if_pos (by omega), ref_put_loop 3 n [] k (by omega) (by omega) (by omega) (by simp only [Nat.reduceAdd, Nat.reduceMul, Int.reducePow]; omega) (by simp)]
      rfl
theorem ref_next (i : Nat) (hi : i < 4) (acc c : Int) (h0 : 0 ≤ c) (h1 : c < 256) (a0 : 0 ≤ acc) (a1 : acc < 2 ^ (7 * i)) :
    wrap64 (acc + wrap64 (Int.tmod (wrap64 c) 128 * 2 ^ (7 * i))) = acc + c % 128 * 2 ^ (7 * i) ∧ acc + c % 128 * 2 ^ (7 * i) < 2 ^ (7 * (i + 1)) ∧ wrap64 ((2 : Int) ^ (7 * i) * 128) = 2 ^ (7 * (i + 1)) := by
  have hw : wrap64 c = c := by unfold wrap64; omega
  rw [hw, Int.tmod_eq_emod_of_nonneg h0]
  have hi' : i = 0 ∨ i = 1 ∨ i = 2 ∨ i = 3 := by omega
  rcases hi' with rfl | rfl | rfl | rfl <;> simp only [Nat.mul_zero, Nat.mul_one, Nat.reduceMul, Nat.reduceAdd, Int.reducePow] at a1 ⊢ <;> refine ⟨?_, ?_, ?_⟩ <;> first | omega | (unfold wrap64; omega)
theorem ref_take_loop (l : List Int) (hl : Byt l) : ∀ (n i : Nat) (acc : Int) (k : Nat), i + n = 4 → n < k → 0 ≤ acc → acc < 2 ^ (7 * i) → i ≤ l.length →
    pentroughref02_Take.l0 k l acc (2 ^ (7 * i)) i = some (tk n i acc (2 ^ (7 * i)) (l.drop i)) := by
  intro n
  induction n with
  | zero =>
    intro i acc k hi hk a0 a1 hil
    obtain ⟨k, rfl⟩ : ∃ j, k = j + 1 := ⟨k - 1, by omega⟩
    obtain rfl : i = 4 := by omega
    rw [pentroughref02_Take.l0]
    simp only [tk]
    by_cases h : (4 : Nat) < l.length
    · rw [if_pos (by omega), if_pos (by omega)]
    · rw [if_neg (by omega), if_pos (by omega)]
  | succ n ih =>
    intro i acc k hi hk a0 a1 hil
    obtain ⟨k, rfl⟩ : ∃ j, k = j + 1 := ⟨k - 1, by omega⟩
    by_cases h : i < l.length
    · have hb := hl l[i] (List.getElem_mem h)
      have q1 : (i : Int) < (l.length : Int) := by omega
      have q2 : ¬ (i : Int) = 4 := by omega
      have q3 : (0 : Int) ≤ (i : Int) := by omega
      obtain ⟨e, hlt, e2⟩ := ref_next i (by omega) acc l[i] hb.1 hb.2 a0 a1
      have hrd : rd l (i : Int) = l[i] := by unfold rd; rw [Int.toNat_natCast, List.getD_eq_getElem?_getD, List.getElem?_eq_getElem h]; rfl
      have e3 : wrap64 ((i : Int) + 1) = ((i + 1 : Nat) : Int) := by unfold wrap64; omega
      rw [pentroughref02_Take.l0, hrd, e, e2, e3, List.drop_eq_getElem_cons h, if_pos q1, if_neg q2, if_pos q3]
      simp only [tk]
      clear e e2 e3 hrd
      have hpos : (0 : Int) ≤ 2 ^ (7 * i) := Int.pow_nonneg (by decide)
      by_cases c : 128 ≤ l[i]
      · rw [if_neg (by omega), if_pos c]
        have e1 : l[i] % 128 = l[i] - 128 := by omega
        rw [e1] at hlt ⊢
        have hp : (2 : Int) ^ (7 * i) * 128 = 2 ^ (7 * (i + 1)) := by rw [Nat.mul_succ, Int.pow_add]; rfl
        rw [hp]
        exact ih (i + 1) _ k (by omega) (by omega) (Int.add_nonneg a0 (Int.mul_nonneg (by omega) hpos)) hlt (by omega)
      · rw [if_pos (by omega), if_neg c]
        have e1 : l[i] % 128 = l[i] := by omega
        rw [e1]
        by_cases z : l[i] = 0
        · rw [if_pos z, if_pos z]
          by_cases zi : 0 < i
          · rw [if_pos (by omega), if_pos zi]
          · rw [if_neg (by omega), if_neg zi]
        · rw [if_neg z, if_neg z]
    · rw [pentroughref02_Take.l0, if_neg (by omega), if_neg (by omega), List.drop_eq_nil_of_le (by omega)]
      simp only [tk]
theorem ref_take_val (l : List Int) (hl : Byt l) (k : Nat) (hk : 4 < k) : pentroughref02_Take.f k l = some (tkS l) := by
  unfold pentroughref02_Take.f
  exact ref_take_loop l hl 4 0 0 k rfl hk (by decide) (by decide) (Nat.zero_le _)

theorem VarintIs : pentroughlaw02_VarintIs.Pure := by
  intro n l hn _ _ hl
  refine ⟨5, ?_⟩
  unfold pentroughlaw02_VarintIs.f
  rw [awake_val 5 (by decide), take_val l (byt_of_wf hl) 5 (by decide), ref_take_val l (byt_of_wf hl) 5 (by decide), put_val n 5 (by decide), ref_put_val n 5 (by decide), size_val n 5 (by decide)]
  simp only [Option.bind_some, if_true, beq_self_eq_true]
end Go.Proofs.Ytenbbfibampakaa.Pure
