import Derived.Test.YtdnglfodlhhikaaPureEv
import Derived.Test.YtdnglfodlhhikaaPureAll
import Derived.Test.YtdnglfodlhhikaaQ13
import Derived.Test.YtdnglfodlhhikaaQ8
import Derived.Test.YtdnglfodlhhikaaQ9
import Derived.Test.YtdnglfodlhhikaaQ10
import Derived.Test.YtdnglfodlhhikaaQ12
import Derived.Test.YtdnglfodlhhikaaQ14
import Derived.Test.YtdnglfodlhhikaaQ11
namespace Go.Proofs.Ytdnglfodlhhikaa.Pure
open Go.RowKit Go.Proofs.Ytdnglfodlhhikaa.Q Go.Proofs.YtdnglfodlhhikaaW.PrintWords Go.Proofs.YtdnglfodlhhikaaW.PrintLast Go.Proofs.YtdnglfodlhhikaaW.PrintMore
set_option linter.unusedVariables false
set_option linter.unusedSimpArgs false
theorem ref_put_loop : ∀ (f : Nat) (x : Int) (acc : List Int) (k : Nat), f ≤ 3 → f < k → 0 ≤ x → x < 2 ^ (7 * (f + 1)) → acc.length + f ≤ 3 → pentroughref02_Put.l0 k x acc = some (acc ++ pt f x) := by
  intro f
  induction f with
  | zero =>
    intro x acc k hf hk h0 h1 ha
    obtain ⟨k, rfl⟩ : ∃ j, k = j + 1 := ⟨k - 1, by omega⟩
    simp only [Nat.zero_add, Nat.mul_one, Int.reducePow] at h1
    rw [pentroughref02_Put.l0, if_neg (by omega), if_pos (by omega), Int.emod_eq_of_lt h0 (by omega)]
    rfl
  | succ f ih =>
    intro x acc k hf hk h0 h1 ha
    obtain ⟨k, rfl⟩ : ∃ j, k = j + 1 := ⟨k - 1, by omega⟩
    have hx : x < 268435456 := by
      have : f = 0 ∨ f = 1 ∨ f = 2 := by omega
      rcases this with rfl | rfl | rfl <;> simp only [Nat.reduceAdd, Nat.reduceMul, Int.reducePow] at h1 <;> omega
    rw [pentroughref02_Put.l0]
    simp only [pt]
    by_cases c : x ≥ 128
    · have e1 : wrap64 (128 + x.tmod 128) % 256 = x % 128 + 128 := by rw [Int.tmod_eq_emod_of_nonneg h0]; unfold wrap64; omega
      have e2 : wrap64 (x.tdiv 128) = x / 128 := by rw [Int.tdiv_eq_ediv_of_nonneg h0]; unfold wrap64; omega
      rw [if_pos c, if_pos c, if_pos (by omega), e1, e2]
      have hq : x / 128 < 2 ^ (7 * (f + 1)) := by
        have : f = 0 ∨ f = 1 ∨ f = 2 := by omega
        rcases this with rfl | rfl | rfl <;> simp only [Nat.reduceAdd, Nat.reduceMul, Int.reducePow] at h1 ⊢ <;> omega
      rw [ih (x / 128) _ k (by omega) (by omega) (by omega) hq (by rw [List.length_append]; simp only [List.length_singleton]; omega), List.append_assoc]
      rfl
    · rw [if_neg c, if_neg c, if_pos (by omega), Int.emod_eq_of_lt h0 (by omega)]
theorem ref_put_val (n : Int) (k : Nat) (hk : 4 < k) : pentroughref02_Put.f k n = some (putS n) := by
  obtain ⟨k, rfl⟩ : ∃ j, k = j + 1 := ⟨k - 1, by omega⟩
  unfold pentroughref02_Put.f putS
  by_cases h : n < 0
  · rw [if_pos h, if_neg (by omega), pentroughref02_Put.j0, if_pos rfl]
  · rw [if_neg h, pentroughref02_Put.j0]
    by_cases h2 : n > 268435455
    · rw [if_pos (decide_eq_true h2), if_neg (by omega)]
    · rw [if_neg (by simpa using h2), if_pos (by omega), ref_put_loop 3 n [] k (by omega) (by omega) (by omega) (by simp only [Nat.reduceAdd, Nat.reduceMul, Int.reducePow]; omega) (by simp)]
      rfl
theorem ref_next (i : Nat) (hi : i < 4) (acc c : Int) (h0 : 0 ≤ c) (h1 : c < 256) (a0 : 0 ≤ acc) (a1 : acc < 2 ^ (7 * i)) :
    wrap64 (acc + wrap64 (Int.tmod (wrap64 c) 128 * 2 ^ (7 * i))) = acc + c % 128 * 2 ^ (7 * i) ∧ acc + c % 128 * 2 ^ (7 * i) < 2 ^ (7 * (i + 1)) ∧ wrap64 ((2 : Int) ^ (7 * i) * 128) = 2 ^ (7 * (i + 1)) := by
  have hw : wrap64 c = c := by unfold wrap64; omega
  rw [hw, Int.tmod_eq_emod_of_nonneg h0]
  have hi' : i = 0 ∨ i = 1 ∨ i = 2 ∨ i = 3 := by omega
  rcases hi' with rfl | rfl | rfl | rfl <;> simp only [Nat.mul_zero, Nat.mul_one, Nat.reduceMul, Nat.reduceAdd, Int.reducePow] at a1 ⊢ <;> refine ⟨?_, ?_, ?_⟩ <;> first | omega | (unfold wrap64; omega)
theorem ref_take_loop (l : List Int) (hl : Byt l) : ∀ (n i : Nat) (acc : Int) (k : Nat), i + n = 4 → n < k → 0 ≤ acc → acc < 2 ^ (7 * i) → i ≤ l.length →
    pentroughref02_Take.l0 k l acc (2 ^ (7 * i)) i = some (tk n i acc (2 ^ (7 * i)) (l.drop i)) := by
  intro n
  induction n with
  | zero =>
    intro i acc k hi hk a0 a1 hil
    obtain ⟨k, rfl⟩ : ∃ j, k = j + 1 := ⟨k - 1, by omega⟩
    obtain rfl : i = 4 := by omega
    rw [pentroughref02_Take.l0]
    simp only [tk]
    by_cases h : (4 : Nat) < l.length
    · rw [if_pos (by omega), if_pos (by omega)]
    · rw [if_neg (by omega), if_pos (by omega)]
  | succ n ih =>
    intro i acc k hi hk a0 a1 hil
    obtain ⟨k, rfl⟩ : ∃ j, k = j + 1 := ⟨k - 1, by omega⟩
    by_cases h : i < l.length
    · have hb := hl l[i] (List.getElem_mem h)
      have q1 : (i : Int) < (l.length : Int) := by omega
      have q2 : ¬ (i : Int) = 4 := by omega
      have q3 : (0 : Int) ≤ (i : Int) := by omega
      obtain ⟨e, hlt, e2⟩ := ref_next i (by omega) acc l[i] hb.1 hb.2 a0 a1
      have hrd : rd l (i : Int) = l[i] := by unfold rd; rw [Int.toNat_natCast, List.getD_eq_getElem?_getD, List.getElem?_eq_getElem h]; rfl
      have e3 : wrap64 ((i : Int) + 1) = ((i + 1 : Nat) : Int) := by unfold wrap64; omega
      rw [pentroughref02_Take.l0, hrd, e, e2, e3, List.drop_eq_getElem_cons h, if_pos q1, if_neg q2, if_pos q3]
      simp only [tk]
      clear e e2 e3 hrd
      have hpos : (0 : Int) ≤ 2 ^ (7 * i) := Int.pow_nonneg (by decide)
      by_cases c : 128 ≤ l[i]
      · rw [if_neg (by omega), if_pos c]
        have e1 : l[i] % 128 = l[i] - 128 := by omega
        rw [e1] at hlt ⊢
        have hp : (2 : Int) ^ (7 * i) * 128 = 2 ^ (7 * (i + 1)) := by rw [Nat.mul_succ, Int.pow_add]; rfl
        rw [hp]
        exact ih (i + 1) _ k (by omega) (by omega) (Int.add_nonneg a0 (Int.mul_nonneg (by omega) hpos)) hlt (by omega)
      · rw [if_pos (by omega), if_neg c]
        have e1 : l[i] % 128 = l[i] := by omega
        rw [e1]
        by_cases z : l[i] = 0
        · rw [if_pos z, if_pos z]
          by_cases zi : 0 < i
          · rw [if_pos (by omega), if_pos zi]
          · rw [if_neg (by omega), if_neg zi]
        · rw [if_neg z, if_neg z]
    · rw [pentroughref02_Take.l0, if_neg (by omega), if_neg (by omega), List.drop_eq_nil_of_le (by omega)]
      simp only [tk]
theorem ref_take_val (l : List Int) (hl : Byt l) (k : Nat) (hk : 4 < k) : pentroughref02_Take.f k l = some (tkS l) := by
  unfold pentroughref02_Take.f
  exact ref_take_loop l hl 4 0 0 k rfl hk (by decide) (by decide) (Nat.zero_le _)

theorem most_val (k : Int) : pentroughref23_most.f k = some (lim k) := by
  unfold pentroughref23_most.f lim
  by_cases k3 : k = 3
  · rw [if_pos k3, if_pos k3]
  rw [if_neg k3, if_neg k3]
  by_cases k5 : k = 5
  · rw [if_pos k5, if_pos k5]
  rw [if_neg k5, if_neg k5]
  by_cases k7 : k = 7
  · rw [if_pos k7, if_pos k7]
  rw [if_neg k7, if_neg k7]
theorem lim_zero {k : Int} (h3 : k ≠ 3) (h5 : k ≠ 5) (h7 : k ≠ 7) : lim k = 0 := by unfold lim; rw [if_neg h3, if_neg h5, if_neg h7]
theorem ref_sane_is (k i m : Int) (b : List Int) (n : Nat) (hn : 1 ≤ n) : ∃ r, pentroughref23_Sane.f n k i m b = some r ∧ (r = true ↔ Fine k i m b) := by
  obtain ⟨n, rfl⟩ : ∃ p, n = p + 1 := ⟨n - 1, by omega⟩
  unfold Fine
  simp only [pentroughref23_Sane.f, pentroughref23_Sane.j0, most_val, Option.bind_some, if_true, decide_eq_true_eq]
  repeat' split
  all_goals (refine ⟨_, rfl, ?_⟩)
  all_goals simp only [decide_eq_true_eq, Bool.false_eq_true, false_iff, true_iff]
  all_goals first | omega | contradiction
theorem ref_sane (k i m : Int) (b : List Int) (n n2 : Nat) (hn : 1 ≤ n) (hn2 : 3 ≤ n2) : ∃ r, pentroughref23_Sane.f n k i m b = some r ∧ script_Sane.f n2 k i m b = some r := by
  obtain ⟨r, h1, h2⟩ := ref_sane_is k i m b n hn
  obtain ⟨r2, h3, h4⟩ := sane_is k i m b n2 hn2
  refine ⟨r, h1, ?_⟩
  rw [h3]
  congr 1
  cases r <;> cases r2 <;> simp_all
theorem ref_put_yes {k i m : Int} {b : List Int} (h : Fine k i m b) (n : Nat) (hn : 6 ≤ n) : pentroughref23_Put.f n k i m b = some (putE k i m b) := by
  obtain ⟨n, rfl⟩ : ∃ p, n = p + 1 := ⟨n - 1, by omega⟩
  have hs : pentroughref23_Sane.f (n + 1) k i m b = some true := by
    obtain ⟨r, h1, h2⟩ := ref_sane_is k i m b (n + 1) (by omega)
    rw [h1, h2.mpr h]
  obtain ⟨h1, h2, h3, h4, h5, h6, h7, h8⟩ := h
  unfold pentroughref23_Put.f
  rw [hs, Option.bind_some, if_pos rfl, Option.bind_some]
  have e1 : k % 256 = k := by omega
  have e2 : i % 256 = i := by omega
  have hj : ∀ x : List Int, x.length ≤ 2 → pentroughref23_Put.j0 (n + 1) x k i m b = some (x ++ (if k = 1 then putS b.length ++ b else if k = 3 then putS m else if k = 5 ∨ k = 7 then [m] else [])) := by
    intro x hx
    have l1 := putS_len b.length
    have l2 := putS_len m
    simp only [pentroughref23_Put.j0]
    by_cases k1 : k = 1
    · rw [if_pos k1, if_pos k1, ref_put_val _ n (by omega), Option.bind_some, if_pos (by omega), Option.bind_some]
      rw [if_pos k1] at h8
      rw [if_pos (by simp only [List.length_append]; omega), List.append_assoc]
    rw [if_neg k1, if_neg k1]
    by_cases k3 : k = 3
    · rw [if_pos k3, if_pos k3, ref_put_val _ n (by omega), Option.bind_some, if_pos (by omega)]
    rw [if_neg k3, if_neg k3]
    have e3 : m % 256 = m := by
      unfold lim at h7
      rw [if_neg k3] at h7
      split at h7
      · omega
      · split at h7 <;> omega
    by_cases k5 : k = 5
    · rw [if_pos k5, if_pos (show k = 5 ∨ k = 7 from .inl k5), if_pos (by omega), e3]
    rw [if_neg k5]
    by_cases k7 : k = 7
    · rw [if_pos k7, if_pos (show k = 5 ∨ k = 7 from .inr k7), if_pos (by omega), e3]
    rw [if_neg k7, if_neg (by omega), List.append_nil]
  by_cases k6 : k < 6
  · rw [if_pos k6, if_pos (by simp), hj _ (by simp), e1, e2]
    simp [putE, k6]
  · rw [if_neg k6, hj _ (by simp), e1]
    simp [putE, k6]
theorem ref_put (k i m : Int) (b : List Int) (n n2 : Nat) (hn : 6 ≤ n) (hn2 : 6 ≤ n2) : ∃ r, pentroughref23_Put.f n k i m b = some r ∧ script_Put.f n2 k i m b = some r := by
  by_cases h : Fine k i m b
  · exact ⟨_, ref_put_yes h n hn, put_yes h n2 hn2⟩
  · refine ⟨[], ?_, put_no h n2 hn2⟩
    unfold pentroughref23_Put.f
    obtain ⟨r, h1, h2⟩ := ref_sane_is k i m b n (by omega)
    cases r with
    | true => exact absurd (h2.mp rfl) h
    | false => rw [h1, Option.bind_some, if_neg (by decide)]
set_option maxHeartbeats 1000000 in
theorem ref_get (l : List Int) (hl : Byt l) (h9 : l.length ≤ 100000) (n n2 : Nat) (hn : 8 ≤ n) (hn2 : 5 ≤ n2) : pentroughref23_Get.f n l = script_Get.f n2 l := by
  obtain ⟨n, rfl⟩ : ∃ p, n = p + 2 := ⟨n - 2, by omega⟩
  unfold pentroughref23_Get.f script_Get.f pentroughref23_rest.f
  cases l with
  | nil => rw [if_pos (by simp), if_pos (by simp)]
  | cons x t0 =>
    have hx := hl x (by simp)
    have z0 : ¬ ((x :: t0).length : Int) = 0 := by simp only [List.length_cons]; omega
    have z1 : 0 < ((x :: t0).length : Int) := by simp only [List.length_cons]; omega
    rw [show rd (x :: t0) 0 = x from rfl, wrap_byt hx, if_neg z0, if_neg z0, if_pos z1, if_pos z1]
    clear z0 z1
    by_cases b7 : x > 7
    · rw [if_pos b7, if_pos b7]
    rw [if_neg b7, if_neg b7]
    by_cases b6 : x < 6
    · rw [if_neg (show ¬ x ≥ 6 by omega), if_pos b6]
      cases t0 with
      | nil => rw [if_pos (by simp), if_pos (by simp)]
      | cons y t =>
        have hy := hl y (by simp)
        have ht : Byt t := fun a ha => hl a (by simp [ha])
        have hlen : ((x :: y :: t).length : Int) = (t.length : Int) + 2 := by simp; omega
        have y0 : ¬ ((t.length : Int) + 2 < 2) := by omega
        have y1 : 1 < (t.length : Int) + 2 := by omega
        have y2 : (2 : Int) ≤ (t.length : Int) + 2 := by omega
        have ht9 : (t.length : Int) ≤ 100000 := by simp only [List.length_cons] at h9; omega
        rw [show rd (x :: y :: t) 1 = y from rfl, wrap_byt hy, hlen, if_neg y0, if_neg y0, if_pos y1, if_pos y1]
        by_cases b63 : y > 63
        · rw [if_pos b63, if_pos b63]
        rw [if_neg b63, if_neg b63]
        simp only [pentroughref23_rest.j0, pentroughref23_rest.j1, most_val, Option.bind_some, hlen, show (2 : Int).toNat = 2 from rfl, show (x :: y :: t).drop 2 = t from rfl, take_val t ht n2 (by omega), ref_take_val t ht (n + 1) (by omega), if_pos y2]
        obtain ⟨v, j, z, hT⟩ : ∃ v j z, tkS t = (v, j, z) := ⟨_, _, _, rfl⟩
        by_cases k1 : x = 1
        · subst k1
          simp only [hT]
          by_cases z0 : z = 0
          · subst z0
            obtain ⟨j1, j4, jl, v0, v1, hp, hpl⟩ := taken_put t ht v j hT
            by_cases v4 : v > 4096
            · simp [v4]
            rw [wrap_sum (2 + j) (by omega) (by omega), wrap_sum (2 + j + v) (by omega) (by omega), wrap_sum ((t.length : Int) + 2 - 2) (by omega) (by omega), wrap_sum (_ - j) (by omega) (by omega)]
            by_cases s1 : 2 + j + v > (t.length : Int) + 2
            · have s2 : v > (t.length : Int) + 2 - 2 - j := by omega
              simp only [v4, s1, s2, if_true, if_false, beq_self_eq_true, Option.bind_some, show ¬ ((1 : Int) = 3) from by decide, show (0 : Int) ≤ 2 from by decide]
            · have s2 : ¬ v > (t.length : Int) + 2 - 2 - j := by omega
              have s3 : 0 ≤ 2 + j := by omega
              have s4 : 2 + j ≤ 2 + j + v := by omega
              have s5 : 2 + j + v ≤ (t.length : Int) + 2 := by omega
              have s6 : (0 : Int) ≤ t.length + 2 := by omega
              simp only [v4, s1, s2, s3, s4, s5, if_true, if_false, beq_self_eq_true, Option.bind_some, show ¬ ((1 : Int) = 3) from by decide, show (0 : Int) ≤ 2 from by decide, show (2 : Int) ≤ (t.length : Int) + 2 from by omega]
          · simp [z0]
        by_cases k3 : x = 3
        · subst k3
          simp only [hT]
          by_cases z0 : z = 0
          · subst z0
            by_cases v4 : v > 4096
            · simp [v4]
            · simp [v4]
          · simp [z0]
        by_cases k5 : x = 5
        · subst k5
          cases t with
          | nil => simp
          | cons zz t =>
            have hz := hl zz (by simp)
            have hL : 1 ≤ ((zz :: t).length : Int) := by simp only [List.length_cons]; omega
            simp only [show rd (5 :: y :: zz :: t) 2 = zz from rfl, wrap_byt hz]
            have p1 : ¬ (2 : Int) ≥ ((zz :: t).length : Int) + 2 := by omega
            have p2 : (2 : Int) < ((zz :: t).length : Int) + 2 := by omega
            have p3 : ¬ ((zz :: t).length : Int) + 2 ≤ 2 := by omega
            have hlim5 : lim 5 = 6 := by decide
            by_cases q6 : zz > 6
            · simp only [p1, p2, p3, q6, hlim5, if_true, if_false, Option.bind_some, show ¬ ((5 : Int) = 1) from by decide, show ¬ ((5 : Int) = 3) from by decide, show ((5 : Int) == 3) = false from by decide, show ((5 : Int) == 5) = true from by decide, show (0 : Int) ≤ 2 from by decide, Bool.false_eq_true]
            · simp only [p1, p2, p3, q6, hlim5, if_true, if_false, Option.bind_some, show ¬ ((5 : Int) = 1) from by decide, show ¬ ((5 : Int) = 3) from by decide, show ((5 : Int) == 3) = false from by decide, show ((5 : Int) == 5) = true from by decide, show (0 : Int) ≤ 2 from by decide, Bool.false_eq_true, show wrap64 (2 + 1) = 3 from wrap_sum (2 + 1) (by omega) (by omega)]
        · have l0 : x ≠ 7 := by omega
          simp [k1, k3, k5, l0]
    · rw [if_pos (show x ≥ 6 by omega), if_neg b6]
      have k1 : x ≠ 1 := by omega
      have k3 : x ≠ 3 := by omega
      have k5 : x ≠ 5 := by omega
      simp only [pentroughref23_rest.j0, pentroughref23_rest.j1, most_val, Option.bind_some]
      by_cases k7 : x = 7
      · subst k7
        cases t0 with
        | nil => simp
        | cons zz t =>
          have hz := hl zz (by simp)
          have hL : 2 ≤ ((7 :: zz :: t).length : Int) := by simp only [List.length_cons]; omega
          simp only [show rd (7 :: zz :: t) 1 = zz from rfl, wrap_byt hz]
          have p1 : ¬ (1 : Int) ≥ ((7 :: zz :: t).length : Int) := by omega
          have p2 : (1 : Int) < ((7 :: zz :: t).length : Int) := by omega
          have p3 : ¬ ((7 :: zz :: t).length : Int) ≤ 1 := by omega
          have hlim7 : lim 7 = 7 := by decide
          by_cases q6 : zz > 7
          · simp only [p1, p2, p3, q6, hlim7, if_true, if_false, Option.bind_some, show ¬ ((7 : Int) = 1) from by decide, show ¬ ((7 : Int) = 5) from by decide, show ((7 : Int) == 3) = false from by decide, show ((7 : Int) == 7) = true from by decide, show (0 : Int) ≤ 1 from by decide, Bool.false_eq_true]
          · simp only [p1, p2, p3, q6, hlim7, if_true, if_false, Option.bind_some, show ¬ ((7 : Int) = 1) from by decide, show ¬ ((7 : Int) = 5) from by decide, show ((7 : Int) == 3) = false from by decide, show ((7 : Int) == 7) = true from by decide, show (0 : Int) ≤ 1 from by decide, Bool.false_eq_true, show wrap64 (1 + 1) = 2 from wrap_sum (1 + 1) (by omega) (by omega)]
      · obtain rfl : x = 6 := by omega
        simp
end Go.Proofs.Ytdnglfodlhhikaa.Pure
