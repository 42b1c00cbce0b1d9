/- What is put is got, whatever stands behind; cut short it is too short. -/
import Derived.Test.YtdnglfodlhhikaaPureEv
import Derived.Test.YtdnglfodlhhikaaQ7
namespace Go.Proofs.Ytdnglfodlhhikaa.Pure
open Go.RowKit Go.Proofs.Ytdnglfodlhhikaa.Q Go.Proofs.YtdnglfodlhhikaaW.PrintWords Go.Proofs.YtdnglfodlhhikaaW.PrintLast Go.Proofs.YtdnglfodlhhikaaW.PrintMore
set_option linter.unusedVariables false
set_option linter.unusedSimpArgs false
theorem same_selfE (a b c : Int) (l : List Int) : pentroughref23_Same.f a b c l a b c l = some true := by
  unfold pentroughref23_Same.f
  rw [if_pos rfl, if_pos rfl, if_pos rfl]
  simp
theorem putS_byt_len (n : Int) (h0 : 0 ≤ n) (h1 : n ≤ 268435455) : 1 ≤ (putS n).length ∧ (putS n).length ≤ 4 := ⟨(put_taken n h0 h1 []).2.2.1, (put_taken n h0 h1 []).2.2.2⟩
/-- A number that is cut short. -/
theorem put_cut (n : Int) (h0 : 0 ≤ n) (h1 : n ≤ 268435455) (j : Nat) (hj : j < (putS n).length) : tkS ((putS n).take j) = (0, 0, 1) := by
  unfold tkS
  rcases put_cases n h0 h1 with ⟨a, e⟩ | ⟨a, b, e⟩ | ⟨a, b, e⟩ | ⟨a, e⟩ <;> rw [e] at hj ⊢ <;> simp only [List.length_cons, List.length_nil] at hj
  · obtain rfl : j = 0 := by omega
    rfl
  · rcases (by omega : j = 0 ∨ j = 1) with rfl | rfl
    · rfl
    · simp only [List.take_succ_cons, List.take_zero, tk]
      rw [if_pos (by omega)]
  · rcases (by omega : j = 0 ∨ j = 1 ∨ j = 2) with rfl | rfl | rfl
    · rfl
    · simp only [List.take_succ_cons, List.take_zero, tk]
      rw [if_pos (by omega)]
    · simp only [List.take_succ_cons, List.take_zero, tk]
      rw [if_pos (by omega), if_pos (by omega)]
  · rcases (by omega : j = 0 ∨ j = 1 ∨ j = 2 ∨ j = 3) with rfl | rfl | rfl | rfl
    · rfl
    · simp only [List.take_succ_cons, List.take_zero, tk]
      rw [if_pos (by omega)]
    · simp only [List.take_succ_cons, List.take_zero, tk]
      rw [if_pos (by omega), if_pos (by omega)]
    · simp only [List.take_succ_cons, List.take_zero, tk]
      rw [if_pos (by omega), if_pos (by omega), if_pos (by omega)]
theorem byt_app {l m : List Int} (h1 : Byt l) (h2 : Byt m) : Byt (l ++ m) := fun x hx => by
  rcases List.mem_append.mp hx with h | h
  · exact h1 x h
  · exact h2 x h
/-- An event's bytes, by its kind. -/
theorem putE_cases {k i m : Int} {b : List Int} (h : Fine k i m b) :
    (k = 1 ∧ m = 0 ∧ b.length ≤ 4096 ∧ putE k i m b = 1 :: i :: (putS b.length ++ b)) ∨ (k = 3 ∧ b = [] ∧ m ≤ 4096 ∧ putE k i m b = 3 :: i :: putS m) ∨ (k = 5 ∧ b = [] ∧ m ≤ 6 ∧ putE k i m b = [5, i, m]) ∨
    (k = 7 ∧ b = [] ∧ i = 0 ∧ m ≤ 7 ∧ putE k i m b = [7, m]) ∨ (k = 6 ∧ b = [] ∧ i = 0 ∧ m = 0 ∧ putE k i m b = [6]) ∨ (k < 6 ∧ k ≠ 1 ∧ k ≠ 3 ∧ k ≠ 5 ∧ b = [] ∧ m = 0 ∧ putE k i m b = [k, i]) := by
  obtain ⟨h1, h2, h3, h4, h5, h6, h7, h8⟩ := h
  unfold lim at h7
  by_cases k1 : k = 1
  · subst k1
    rw [if_pos rfl] at h8
    rw [if_neg (by decide), if_neg (by decide), if_neg (by decide)] at h7
    exact .inl ⟨rfl, by omega, h8, by simp [putE]⟩
  right
  rw [if_neg k1] at h8
  obtain rfl : b = [] := List.length_eq_zero_iff.mp h8
  by_cases k3 : k = 3
  · subst k3
    rw [if_pos rfl] at h7
    exact .inl ⟨rfl, rfl, h7, by simp [putE]⟩
  right
  rw [if_neg k3] at h7
  by_cases k5 : k = 5
  · subst k5
    rw [if_pos rfl] at h7
    exact .inl ⟨rfl, rfl, h7, by simp [putE]⟩
  right
  rw [if_neg k5] at h7
  by_cases k7 : k = 7
  · subst k7
    rw [if_pos rfl] at h7
    exact .inl ⟨rfl, rfl, by omega, h7, by simp [putE]⟩
  right
  rw [if_neg k7] at h7
  by_cases k6 : k = 6
  · subst k6
    exact .inl ⟨rfl, rfl, by omega, by omega, by simp [putE]⟩
  right
  refine ⟨by omega, k1, k3, k5, rfl, by omega, ?_⟩
  unfold putE
  rw [if_pos (by omega), if_neg k1, if_neg k3, if_neg (by omega)]
  rfl
theorem get_put {k i m : Int} {b : List Int} (h : Fine k i m b) (hb : Byt b) (rest : List Int) (hr : Byt rest) (n : Nat) (hn : 5 ≤ n) (hz : rest.length ≤ 1000000) :
    script_Get.f n (putE k i m b ++ rest) = some (k, i, m, b, ((putE k i m b).length : Int), 0) := by
  have hc := putE_cases h
  obtain ⟨h1, h2, h3, h4, h5, h6, h7, h8⟩ := h
  rcases hc with ⟨rfl, rfl, hl, e⟩ | ⟨rfl, rfl, hm, e⟩ | ⟨rfl, rfl, hm, e⟩ | ⟨rfl, rfl, rfl, hm, e⟩ | ⟨rfl, rfl, rfl, rfl, e⟩ | ⟨h6', k1, k3, k5, rfl, rfl, e⟩
  · rw [e]
    obtain ⟨t1, t2, t3, t4⟩ := put_taken b.length (by omega) (by omega) (b ++ rest)
    have ht : Byt (putS (b.length : Int) ++ (b ++ rest)) := byt_app (put_byt _) (byt_app hb hr)
    have hlen : (((1 : Int) :: i :: (putS (b.length : Int) ++ b) ++ rest).length : Int) = ((putS (b.length : Int)).length : Int) + b.length + rest.length + 2 := by simp; omega
    have hd : ((1 : Int) :: i :: (putS (b.length : Int) ++ b) ++ rest).drop 2 = putS (b.length : Int) ++ (b ++ rest) := by simp
    unfold script_Get.f
    rw [hlen, hd, take_val _ ht n (by omega), t1]
    rw [show rd ((1 : Int) :: i :: (putS (b.length : Int) ++ b) ++ rest) 0 = 1 from rfl, show rd ((1 : Int) :: i :: (putS (b.length : Int) ++ b) ++ rest) 1 = i from rfl, wrap_byt (x := 1) (by decide), wrap_byt (x := i) (by omega)]
    rw [if_neg (by omega), if_pos (by omega), if_neg (by decide), if_pos (by decide), if_neg (by omega), if_pos (by omega), if_neg (by omega), if_pos rfl, if_pos (by omega), Option.bind_some]
    dsimp only
    rw [if_pos rfl, if_neg (by omega), wrap_sum (2 + _) (by omega) (by omega), wrap_sum _ (by omega) (by omega), if_neg (by omega), if_pos (by omega), if_pos (by omega), if_pos (by omega)]
    have ec : (((1 : Int) :: i :: (putS (b.length : Int) ++ b) ++ rest).take (2 + ((putS (b.length : Int)).length : Int) + (b.length : Int)).toNat).drop (2 + ((putS (b.length : Int)).length : Int)).toNat = b := by
      rw [show (2 + ((putS (b.length : Int)).length : Int) + (b.length : Int)).toNat = ((1 : Int) :: i :: (putS (b.length : Int) ++ b)).length from by simp; omega, List.take_left, show (2 + ((putS (b.length : Int)).length : Int)).toNat = ((1 : Int) :: i :: putS (b.length : Int)).length from by simp; omega]
      rw [show ((1 : Int) :: i :: (putS (b.length : Int) ++ b)) = ((1 : Int) :: i :: putS (b.length : Int)) ++ b from by simp, List.drop_left]
    rw [ec]
    congr 6
    simp; omega
  · rw [e]
    obtain ⟨t1, t2, t3, t4⟩ := put_taken m (by omega) (by omega) rest
    have ht : Byt (putS m ++ rest) := byt_app (put_byt _) hr
    have hlen : (((3 : Int) :: i :: putS m ++ rest).length : Int) = ((putS m).length : Int) + rest.length + 2 := by simp; omega
    have hd : ((3 : Int) :: i :: putS m ++ rest).drop 2 = putS m ++ rest := by simp
    unfold script_Get.f
    rw [hlen, hd, take_val _ ht n (by omega), t1]
    rw [show rd ((3 : Int) :: i :: putS m ++ rest) 0 = 3 from rfl, show rd ((3 : Int) :: i :: putS m ++ rest) 1 = i from rfl, wrap_byt (x := 3) (by decide), wrap_byt (x := i) (by omega)]
    rw [if_neg (by omega), if_pos (by omega), if_neg (by decide), if_pos (by decide), if_neg (by omega), if_pos (by omega), if_neg (by omega), if_neg (by decide), if_pos rfl, if_pos (by omega), Option.bind_some]
    dsimp only
    rw [if_pos rfl, if_neg (by omega), wrap_sum (2 + _) (by omega) (by omega)]
    congr 6
    simp; omega
  · rw [e]
    have hlen : ((([5, i, m] : List Int) ++ rest).length : Int) = rest.length + 3 := by simp; omega
    unfold script_Get.f
    rw [hlen, show rd (([5, i, m] : List Int) ++ rest) 0 = 5 from rfl, show rd (([5, i, m] : List Int) ++ rest) 1 = i from rfl, show rd (([5, i, m] : List Int) ++ rest) 2 = m from rfl, wrap_byt (x := 5) (by decide), wrap_byt (x := i) (by omega), wrap_byt (x := m) (by omega)]
    rw [if_neg (by omega), if_pos (by omega), if_neg (by decide), if_pos (by decide), if_neg (by omega), if_pos (by omega), if_neg (by omega), if_neg (by decide), if_neg (by decide), if_pos rfl, if_neg (by omega), if_pos (by omega), if_neg (by omega)]
    rfl
  · rw [e]
    have hlen : ((([7, m] : List Int) ++ rest).length : Int) = rest.length + 2 := by simp; omega
    unfold script_Get.f
    rw [hlen, show rd (([7, m] : List Int) ++ rest) 0 = 7 from rfl, show rd (([7, m] : List Int) ++ rest) 1 = m from rfl, wrap_byt (x := 7) (by decide), wrap_byt (x := m) (by omega)]
    rw [if_neg (by omega), if_pos (by omega), if_neg (by decide), if_neg (by decide), if_pos rfl, if_neg (by omega), if_pos (by omega), if_neg (by omega)]
    rfl
  · rw [e]
    have hlen : ((([6] : List Int) ++ rest).length : Int) = rest.length + 1 := by simp
    unfold script_Get.f
    rw [hlen, show rd (([6] : List Int) ++ rest) 0 = 6 from rfl, wrap_byt (x := 6) (by decide)]
    rw [if_neg (by omega), if_pos (by omega), if_neg (by decide), if_neg (by decide), if_neg (by decide)]
    rfl
  · rw [e]
    have hlen : ((([k, i] : List Int) ++ rest).length : Int) = rest.length + 2 := by simp; omega
    unfold script_Get.f
    rw [hlen, show rd (([k, i] : List Int) ++ rest) 0 = k from rfl, show rd (([k, i] : List Int) ++ rest) 1 = i from rfl, wrap_byt (x := k) (by omega), wrap_byt (x := i) (by omega)]
    rw [if_neg (by omega), if_pos (by omega), if_neg (by omega), if_pos h6', if_neg (by omega), if_pos (by omega), if_neg (by omega), if_neg k1, if_neg k3, if_neg k5]
    rfl
theorem putE_len {k i m : Int} {b : List Int} (h : Fine k i m b) : 1 ≤ (putE k i m b).length ∧ (putE k i m b).length ≤ b.length + 6 := by
  have hc := putE_cases h
  obtain ⟨h1, h2, h3, h4, h5, h6, h7, h8⟩ := h
  rcases hc with ⟨_, _, hl, e⟩ | ⟨_, _, hm, e⟩ | ⟨_, _, _, e⟩ | ⟨_, _, _, _, e⟩ | ⟨_, _, _, _, e⟩ | ⟨_, _, _, _, _, _, e⟩ <;> rw [e]
  · have := putS_byt_len b.length (by omega) (by omega); simp; omega
  · have := putS_byt_len m (by omega) (by omega); simp; omega
  · simp
  · simp
  · simp
  · simp
theorem putE_byt {k i m : Int} {b : List Int} (h : Fine k i m b) (hb : Byt b) : Byt (putE k i m b) := by
  have hc := putE_cases h
  obtain ⟨h1, h2, h3, h4, h5, h6, h7, h8⟩ := h
  have hcons : ∀ {x : Int} {l : List Int}, 0 ≤ x → x < 256 → Byt l → Byt (x :: l) := fun h0 h1 h2 y hy => by
    rcases List.mem_cons.mp hy with rfl | hy
    · exact ⟨h0, h1⟩
    · exact h2 y hy
  have hnil : Byt [] := fun x hx => by simp at hx
  rcases hc with ⟨_, _, hl, e⟩ | ⟨_, _, hm, e⟩ | ⟨_, _, _, e⟩ | ⟨_, _, _, _, e⟩ | ⟨_, _, _, _, e⟩ | ⟨_, _, _, _, _, _, e⟩ <;> rw [e]
  · exact hcons (by omega) (by omega) (hcons (by omega) (by omega) (byt_app (put_byt _) hb))
  · exact hcons (by omega) (by omega) (hcons (by omega) (by omega) (put_byt _))
  · exact hcons (by omega) (by omega) (hcons (by omega) (by omega) (hcons (by omega) (by omega) hnil))
  · exact hcons (by omega) (by omega) (hcons (by omega) (by omega) hnil)
  · exact hcons (by omega) (by omega) hnil
  · exact hcons (by omega) (by omega) (hcons (by omega) (by omega) hnil)
theorem get_one (k : Int) (h0 : 0 ≤ k) (h6 : k < 6) (n : Nat) : script_Get.f n [k] = some (0, 0, 0, [], 0, 1) := by
  unfold script_Get.f
  rw [show rd [k] 0 = k from rfl, wrap_byt (x := k) (by omega), if_neg (by simp), if_pos (by simp), if_neg (by omega), if_pos h6, if_pos (by simp)]
theorem get_cut {k i m : Int} {b : List Int} (h : Fine k i m b) (hb : Byt b) (j : Nat) (hj : j < (putE k i m b).length) (n : Nat) (hn : 5 ≤ n) :
    script_Get.f n ((putE k i m b).take j) = some (0, 0, 0, [], 0, 1) := by
  have hc := putE_cases h
  obtain ⟨h1, h2, h3, h4, h5, h6, h7, h8⟩ := h
  match j, hj with
  | 0, _ =>
    rw [List.take_zero]
    unfold script_Get.f
    rw [if_pos (by simp)]
  | 1, hj =>
    rcases hc with ⟨rfl, rfl, hl, e⟩ | ⟨rfl, rfl, hm, e⟩ | ⟨rfl, rfl, hm, e⟩ | ⟨rfl, rfl, rfl, hm, e⟩ | ⟨rfl, rfl, rfl, rfl, e⟩ | ⟨h6', k1, k3, k5, rfl, rfl, e⟩
    · rw [e]; exact get_one 1 (by decide) (by decide) n
    · rw [e]; exact get_one 3 (by decide) (by decide) n
    · rw [e]; exact get_one 5 (by decide) (by decide) n
    · rw [e, show ([7, m] : List Int).take 1 = [7] from rfl]
      unfold script_Get.f
      rw [show rd [7] 0 = 7 from rfl, wrap_byt (x := 7) (by decide), if_neg (by simp), if_pos (by simp), if_neg (by decide), if_neg (by decide), if_pos rfl, if_pos (by simp)]
    · rw [e] at hj; simp at hj
    · rw [e]; exact get_one k h1 h6' n
  | j + 2, hj =>
    rcases hc with ⟨rfl, rfl, hl, e⟩ | ⟨rfl, rfl, hm, e⟩ | ⟨rfl, rfl, hm, e⟩ | ⟨rfl, rfl, rfl, hm, e⟩ | ⟨rfl, rfl, rfl, rfl, e⟩ | ⟨h6', k1, k3, k5, rfl, rfl, e⟩
    · rw [e] at hj ⊢
      rw [List.take_succ_cons, List.take_succ_cons]
      have hj' : j < (putS (b.length : Int)).length + b.length := by simpa using hj
      have hs := putS_byt_len b.length (by omega) (by omega)
      have hlen : (((1 : Int) :: i :: (putS (b.length : Int) ++ b).take j).length : Int) = (j : Int) + 2 := by simp; omega
      unfold script_Get.f
      rw [hlen, show ((1 : Int) :: i :: (putS (b.length : Int) ++ b).take j).drop 2 = (putS (b.length : Int) ++ b).take j from rfl, take_val _ (byt_take (byt_app (put_byt _) hb) _) n (by omega)]
      rw [show rd ((1 : Int) :: i :: (putS (b.length : Int) ++ b).take j) 0 = 1 from rfl, show rd ((1 : Int) :: i :: (putS (b.length : Int) ++ b).take j) 1 = i from rfl, wrap_byt (x := 1) (by decide), wrap_byt (x := i) (by omega)]
      rw [if_neg (by omega), if_pos (by omega), if_neg (by decide), if_pos (by decide), if_neg (by omega), if_pos (by omega), if_neg (by omega), if_pos rfl, if_pos (by omega), Option.bind_some]
      by_cases q : j < (putS (b.length : Int)).length
      · rw [List.take_append_of_le_length (by omega), put_cut _ (by omega) (by omega) j q]
        dsimp only
        rw [if_neg (by decide)]
      · obtain ⟨t1, t2, t3, t4⟩ := put_taken b.length (by omega) (by omega) (b.take (j - (putS (b.length : Int)).length))
        rw [List.take_append, List.take_of_length_le (l := putS (b.length : Int)) (by omega), t1]
        dsimp only
        rw [if_pos rfl, if_neg (by omega), wrap_sum (2 + _) (by omega) (by omega), wrap_sum _ (by omega) (by omega), if_pos (by omega)]
    · rw [e] at hj ⊢
      rw [List.take_succ_cons, List.take_succ_cons]
      have hj' : j < (putS m).length := by simpa using hj
      have hlen : (((3 : Int) :: i :: (putS m).take j).length : Int) = (j : Int) + 2 := by simp; omega
      unfold script_Get.f
      rw [hlen, show ((3 : Int) :: i :: (putS m).take j).drop 2 = (putS m).take j from rfl, take_val _ (byt_take (put_byt _) _) n (by omega), put_cut _ (by omega) (by omega) j hj']
      rw [show rd ((3 : Int) :: i :: (putS m).take j) 0 = 3 from rfl, show rd ((3 : Int) :: i :: (putS m).take j) 1 = i from rfl, wrap_byt (x := 3) (by decide), wrap_byt (x := i) (by omega)]
      rw [if_neg (by omega), if_pos (by omega), if_neg (by decide), if_pos (by decide), if_neg (by omega), if_pos (by omega), if_neg (by omega), if_neg (by decide), if_pos rfl, if_pos (by omega), Option.bind_some]
      dsimp only
      rw [if_neg (by decide)]
    · rw [e] at hj ⊢
      obtain rfl : j = 0 := by simp at hj; omega
      unfold script_Get.f
      rw [show ([5, i, m] : List Int).take (0 + 2) = [5, i] from rfl, show rd [5, i] 0 = 5 from rfl, show rd [5, i] 1 = i from rfl, wrap_byt (x := 5) (by decide), wrap_byt (x := i) (by omega)]
      rw [if_neg (by simp), if_pos (by simp), if_neg (by decide), if_pos (by decide), if_neg (by simp), if_pos (by simp), if_neg (by omega), if_neg (by decide), if_neg (by decide), if_pos rfl, if_pos (by simp)]
    · rw [e] at hj; simp only [List.length_cons, List.length_nil] at hj; omega
    · rw [e] at hj; simp only [List.length_cons, List.length_nil] at hj; omega
    · rw [e] at hj; simp only [List.length_cons, List.length_nil] at hj; omega
end Go.Proofs.Ytdnglfodlhhikaa.Pure
