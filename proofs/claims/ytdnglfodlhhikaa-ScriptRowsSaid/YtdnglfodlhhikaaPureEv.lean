import Derived.Test.YtdnglfodlhhikaaPureLib
import Derived.Test.YtdnglfodlhhikaaQ2
import Derived.Test.YtdnglfodlhhikaaQ4
import Derived.Test.YtdnglfodlhhikaaQ6
namespace Go.Proofs.Ytdnglfodlhhikaa.Pure
open Go.RowKit Go.Proofs.Ytdnglfodlhhikaa.Q Go.Proofs.YtdnglfodlhhikaaW.PrintWords Go.Proofs.YtdnglfodlhhikaaW.PrintLast Go.Proofs.YtdnglfodlhhikaaW.PrintMore
set_option linter.unusedVariables false
set_option linter.unusedSimpArgs false
def lim (k : Int) : Int := if k = 3 then 4096 else if k = 5 then 6 else if k = 7 then 7 else 0
/-- An event that may be. -/
def Fine (k i m : Int) (b : List Int) : Prop := 0 ≤ k ∧ k < 8 ∧ 0 ≤ i ∧ i ≤ 63 ∧ (0 < i → k < 6) ∧ 0 ≤ m ∧ m ≤ lim k ∧ (if k = 1 then b.length ≤ 4096 else b.length = 0)
/-- An event's bytes. -/
def putE (k i m : Int) (b : List Int) : List Int := k :: ((if k < 6 then [i] else []) ++ (if k = 1 then putS b.length ++ b else if k = 3 then putS m else if k = 5 ∨ k = 7 then [m] else []))
theorem sane_is (k i m : Int) (b : List Int) (n : Nat) (hn : 3 ≤ n) : ∃ r, script_Sane.f n k i m b = some r ∧ (r = true ↔ Fine k i m b) := by
  obtain ⟨n, rfl⟩ : ∃ p, n = p + 3 := ⟨n - 3, by omega⟩
  have hlim : script_limit.f k = some (lim k) := by
    unfold script_limit.f lim
    by_cases k3 : k = 3
    · rw [if_pos k3, if_pos k3]
    rw [if_neg k3, if_neg k3]
    by_cases k5 : k = 5
    · rw [if_pos k5, if_pos k5]
    rw [if_neg k5, if_neg k5]
    by_cases k7 : k = 7
    · rw [if_pos k7, if_pos k7]
    rw [if_neg k7, if_neg k7]
  unfold Fine
  simp only [script_Sane.f, script_Sane.j0, script_Sane.j1, script_Sane.j2, script_named.f, hlim, Option.bind_some, if_true, decide_eq_true_eq, Bool.not_eq_true', decide_eq_false_iff_not, ge_iff_le]
  repeat' split
  all_goals (refine ⟨_, rfl, ?_⟩)
  all_goals simp only [decide_eq_true_eq, beq_iff_eq, Bool.false_eq_true, false_iff, iff_true, true_iff]
  all_goals first | omega | contradiction | (rw [if_pos (by assumption)]; omega) | (rw [if_neg (by assumption)]; omega)
theorem sane_yes {k i m : Int} {b : List Int} (h : Fine k i m b) (n : Nat) (hn : 3 ≤ n) : script_Sane.f n k i m b = some true := by
  obtain ⟨r, h1, h2⟩ := sane_is k i m b n hn
  rw [h1, h2.mpr h]
theorem sane_no {k i m : Int} {b : List Int} (h : ¬ Fine k i m b) (n : Nat) (hn : 3 ≤ n) : script_Sane.f n k i m b = some false := by
  obtain ⟨r, h1, h2⟩ := sane_is k i m b n hn
  rw [h1]
  cases r with
  | false => rfl
  | true => exact absurd (h2.mp rfl) h
theorem putS_len (n : Int) : (putS n).length ≤ 4 := by
  by_cases h : 0 ≤ n ∧ n ≤ 268435455
  · rcases put_cases n h.1 h.2 with ⟨_, e⟩ | ⟨_, _, e⟩ | ⟨_, _, e⟩ | ⟨_, e⟩ <;> rw [e] <;> simp
  · unfold putS; rw [if_neg h]; simp
theorem put_yes {k i m : Int} {b : List Int} (h : Fine k i m b) (n : Nat) (hn : 6 ≤ n) : script_Put.f n k i m b = some (putE k i m b) := by
  obtain ⟨n, rfl⟩ : ∃ p, n = p + 1 := ⟨n - 1, by omega⟩
  have hs := sane_yes h (n + 1) (by omega)
  obtain ⟨h1, h2, h3, h4, h5, h6, h7, h8⟩ := h
  unfold script_Put.f script_named.f
  rw [hs, Option.bind_some, if_pos rfl, Option.bind_some, Option.bind_some]
  have e1 : k % 256 = k := by omega
  have e2 : i % 256 = i := by omega
  have hj : ∀ x : List Int, x.length ≤ 2 → script_Put.j0 (n + 1) x k i m b = some (x ++ (if k = 1 then putS b.length ++ b else if k = 3 then putS m else if k = 5 ∨ k = 7 then [m] else [])) := by
    intro x hx
    have l1 := putS_len b.length
    have l2 := putS_len m
    have e3 : m % 256 = m ∨ k = 3 := by
      by_cases k3 : k = 3
      · exact .inr k3
      · refine .inl ?_
        unfold lim at h7
        rw [if_neg k3] at h7
        split at h7
        · omega
        · split at h7 <;> omega
    simp only [script_Put.j0]
    by_cases k1 : k = 1
    · rw [if_pos k1, if_pos k1, put_val _ n (by omega), Option.bind_some, if_pos (by omega), Option.bind_some]
      rw [if_pos k1] at h8
      rw [if_pos (by simp only [List.length_append]; omega), List.append_assoc]
    rw [if_neg k1, if_neg k1]
    by_cases k3 : k = 3
    · rw [if_pos k3, if_pos k3, put_val _ n (by omega), Option.bind_some, if_pos (by omega)]
    rw [if_neg k3, if_neg k3]
    have e3 : m % 256 = m := e3.resolve_right k3
    by_cases k5 : k = 5
    · rw [if_pos k5, if_pos (show k = 5 ∨ k = 7 from .inl k5), if_pos (by omega), e3]
    rw [if_neg k5]
    by_cases k7 : k = 7
    · rw [if_pos k7, if_pos (show k = 5 ∨ k = 7 from .inr k7), if_pos (by omega), e3]
    rw [if_neg k7, if_neg (by omega), List.append_nil]
  by_cases k6 : k < 6
  · rw [if_pos (decide_eq_true k6), if_pos (by simp), hj _ (by simp), e1, e2]
    simp [putE, k6]
  · rw [if_neg (by simp; omega), hj _ (by simp), e1]
    simp [putE, k6]
theorem put_no {k i m : Int} {b : List Int} (h : ¬ Fine k i m b) (n : Nat) (hn : 6 ≤ n) : script_Put.f n k i m b = some [] := by
  unfold script_Put.f
  rw [sane_no h n (by omega), Option.bind_some, if_neg (by decide)]
/-- What Get tells of bytes: an event that stands there, or an error. -/
def Got (l : List Int) (r : Int × Int × Int × List Int × Int × Int) : Prop :=
  (∃ k i m b n rest, r = (k, i, m, b, n, 0) ∧ Fine k i m b ∧ Byt b ∧ l = putE k i m b ++ rest ∧ n = ((putE k i m b).length : Int)) ∨ (∃ z, r = (0, 0, 0, [], 0, z) ∧ z ≠ 0)
theorem byt_drop {l : List Int} (h : Byt l) (n : Nat) : Byt (l.drop n) := fun x hx => h x (List.mem_of_mem_drop hx)
theorem byt_take {l : List Int} (h : Byt l) (n : Nat) : Byt (l.take n) := fun x hx => h x (List.mem_of_mem_take hx)
theorem wrap_byt {x : Int} (h : 0 ≤ x ∧ x < 256) : wrap64 x = x := by unfold wrap64; omega
theorem wrap_sum (x : Int) (h : -10000 ≤ x) (h2 : x ≤ 300000000) : wrap64 x = x := by unfold wrap64; omega
theorem get_is (l : List Int) (hl : Byt l) (n : Nat) (hn : 5 ≤ n) : ∃ r, script_Get.f n l = some r ∧ Got l r := by
  have er : ∀ z : Int, z ≠ 0 → ∃ r, (some (0, 0, 0, ([] : List Int), 0, z) : Option (Int × Int × Int × List Int × Int × Int)) = some r ∧ Got l r := fun z hz => ⟨_, rfl, .inr ⟨z, rfl, hz⟩⟩
  have ok : ∀ (k i m : Int) (b : List Int) (q : Int) (rest : List Int), Fine k i m b → Byt b → l = putE k i m b ++ rest → q = ((putE k i m b).length : Int) → ∃ r, (some (k, i, m, b, q, 0) : Option (Int × Int × Int × List Int × Int × Int)) = some r ∧ Got l r :=
    fun k i m b q rest h1 h2 h3 h4 => ⟨_, rfl, .inl ⟨k, i, m, b, q, rest, rfl, h1, h2, h3, h4⟩⟩
  unfold script_Get.f
  cases l with
  | nil => rw [if_pos (by simp)]; exact er 1 (by decide)
  | cons x t0 =>
    have hx := hl x (by simp)
    rw [show rd (x :: t0) 0 = x from rfl, wrap_byt hx, if_neg (by simp only [List.length_cons]; omega), if_pos (by simp only [List.length_cons]; omega)]
    by_cases b7 : x > 7
    · rw [if_pos b7]; exact er 2 (by decide)
    rw [if_neg b7]
    by_cases b6 : x < 6
    · rw [if_pos b6]
      cases t0 with
      | nil => rw [if_pos (by simp)]; exact er 1 (by decide)
      | cons y t =>
        have hy := hl y (by simp)
        have ht : Byt t := fun a ha => hl a (by simp [ha])
        have hlen : ((x :: y :: t).length : Int) = (t.length : Int) + 2 := by simp; omega
        rw [show rd (x :: y :: t) 1 = y from rfl, wrap_byt hy, hlen, if_neg (by omega), if_pos (by omega)]
        by_cases b63 : y > 63
        · rw [if_pos b63]; exact er 4 (by decide)
        rw [if_neg b63, show (x :: y :: t).drop 2 = t from rfl, take_val t ht n (by omega)]
        by_cases k1 : x = 1
        · subst k1
          rw [if_pos rfl, if_pos (by omega), Option.bind_some]
          obtain ⟨v, j, z, hT⟩ : ∃ v j z, tkS t = (v, j, z) := ⟨_, _, _, rfl⟩
          rw [hT]
          dsimp only
          by_cases z0 : z = 0
          · subst z0
            obtain ⟨j1, j4, jl, v0, v1, hp, hpl⟩ := taken_put t ht v j hT
            rw [if_pos rfl]
            by_cases v4 : v > 4096
            · rw [if_pos v4]; exact er 3 (by decide)
            rw [if_neg v4, wrap_sum (2 + j) (by omega) (by omega), wrap_sum (2 + j + v) (by omega) (by omega)]
            by_cases s1 : 2 + j + v > (t.length : Int) + 2
            · rw [if_pos s1]; exact er 1 (by decide)
            rw [if_neg s1, if_pos (by omega), if_pos (by omega), if_pos (by omega)]
            have ec : ((1 :: y :: t).take (2 + j + v).toNat).drop (2 + j).toNat = (t.drop j.toNat).take v.toNat := by
              rw [show (2 + j + v).toNat = (j.toNat + v.toNat) + 2 from by omega, show (2 + j).toNat = j.toNat + 2 from by omega]
              show (t.take (j.toNat + v.toNat)).drop j.toNat = (t.drop j.toNat).take v.toNat
              rw [List.drop_take, Nat.add_sub_cancel_left]
            rw [ec]
            have hbl : ((t.drop j.toNat).take v.toNat).length = v.toNat := by rw [List.length_take, List.length_drop]; omega
            have e : putE 1 y 0 ((t.drop j.toNat).take v.toNat) = 1 :: y :: (t.take j.toNat ++ (t.drop j.toNat).take v.toNat) := by
              unfold putE
              rw [hbl, show ((v.toNat : Nat) : Int) = v from by omega, hp]
              simp
            refine ok 1 y 0 _ _ ((t.drop j.toNat).drop v.toNat) ?_ (byt_take (byt_drop ht _) _) ?_ ?_
            · exact ⟨by decide, by decide, hy.1, by omega, fun _ => by decide, by decide, by decide, by rw [if_pos rfl, hbl]; omega⟩
            · rw [e]; simp only [List.cons_append, List.append_assoc, List.take_append_drop]
            · rw [e]; simp only [List.length_cons, List.length_append, hbl, List.length_take]; omega
          · rw [if_neg z0]; exact er z z0
        rw [if_neg k1]
        by_cases k3 : x = 3
        · subst k3
          rw [if_pos rfl, if_pos (by omega), Option.bind_some]
          obtain ⟨v, j, z, hT⟩ : ∃ v j z, tkS t = (v, j, z) := ⟨_, _, _, rfl⟩
          rw [hT]
          dsimp only
          by_cases z0 : z = 0
          · subst z0
            obtain ⟨j1, j4, jl, v0, v1, hp, hpl⟩ := taken_put t ht v j hT
            rw [if_pos rfl]
            by_cases v4 : v > 4096
            · rw [if_pos v4]; exact er 3 (by decide)
            rw [if_neg v4, wrap_sum (2 + j) (by omega) (by omega)]
            have e : putE 3 y v [] = 3 :: y :: t.take j.toNat := by unfold putE; rw [hp]; simp
            refine ok 3 y v _ _ (t.drop j.toNat) ?_ (fun _ h => by simp at h) ?_ ?_
            · exact ⟨by decide, by decide, hy.1, by omega, fun _ => by decide, v0, by show v ≤ 4096; omega, by simp⟩
            · rw [e]; simp only [List.cons_append, List.take_append_drop]
            · rw [e]; simp only [List.length_cons, List.length_take]; omega
          · rw [if_neg z0]; exact er z z0
        rw [if_neg k3]
        by_cases k5 : x = 5
        · subst k5
          rw [if_pos rfl]
          cases t with
          | nil => rw [if_pos (by simp)]; exact er 1 (by decide)
          | cons z t =>
            have hz := hl z (by simp)
            rw [show rd (5 :: y :: z :: t) 2 = z from rfl, wrap_byt hz, if_neg (by simp only [List.length_cons]; omega), if_pos (by simp only [List.length_cons]; omega)]
            by_cases q6 : z > 6
            · rw [if_pos q6]; exact er 2 (by decide)
            rw [if_neg q6]
            refine ok 5 y z _ _ t ?_ (fun _ h => by simp at h) (by simp [putE]) (by simp [putE])
            exact ⟨by decide, by decide, hy.1, by omega, fun _ => by decide, hz.1, by show z ≤ 6; omega, by simp⟩
        rw [if_neg k5]
        have l0 : lim x = 0 := by unfold lim; rw [if_neg k3, if_neg k5, if_neg (by omega)]
        refine ok x y 0 _ _ t ?_ (fun _ h => by simp at h) (by unfold putE; rw [if_pos b6, if_neg k1, if_neg k3, if_neg (by omega)]; rfl) (by unfold putE; rw [if_pos b6, if_neg k1, if_neg k3, if_neg (by omega)]; rfl)
        exact ⟨hx.1, by omega, hy.1, by omega, fun _ => b6, by decide, by rw [l0]; decide, by rw [if_neg k1]; rfl⟩
    rw [if_neg b6]
    by_cases k7 : x = 7
    · subst k7
      rw [if_pos rfl]
      cases t0 with
      | nil => rw [if_pos (by simp)]; exact er 1 (by decide)
      | cons z t =>
        have hz := hl z (by simp)
        rw [show rd (7 :: z :: t) 1 = z from rfl, wrap_byt hz, if_neg (by simp only [List.length_cons]; omega), if_pos (by simp only [List.length_cons]; omega)]
        by_cases q7 : z > 7
        · rw [if_pos q7]; exact er 2 (by decide)
        rw [if_neg q7]
        refine ok 7 0 z _ _ t ?_ (fun _ h => by simp at h) (by simp [putE]) (by simp [putE])
        exact ⟨by decide, by decide, by decide, by decide, fun h => absurd h (by decide), hz.1, by show z ≤ 7; omega, by simp⟩
    rw [if_neg k7]
    obtain rfl : x = 6 := by omega
    refine ok 6 0 0 _ _ t0 ?_ (fun _ h => by simp at h) (by simp [putE]) (by simp [putE])
    exact ⟨by decide, by decide, by decide, by decide, fun h => absurd h (by decide), by decide, by decide, by simp⟩
end Go.Proofs.Ytdnglfodlhhikaa.Pure
