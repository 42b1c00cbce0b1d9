/- Plain laws of the channels' printed functions. -/
import Derived.Test.YtneomcnfbnfjbaaQ1
import Derived.Test.YtneomcnfbnfjbaaQ2
import Derived.Test.YtneomcnfbnfjbaaQ3
import Derived.Test.YtneomcnfbnfjbaaQ13
import Derived.Test.YtneomcnfbnfjbaaQ6
import Derived.Test.YtneomcnfbnfjbaaQ4
namespace Go.Proofs.Ytneomcnfbnfjbaa.Pure
open Go.RowKit Go.Proofs.Ytneomcnfbnfjbaa.Q Go.Proofs.YtneomcnfbnfjbaaW.PrintWords Go.Proofs.YtneomcnfbnfjbaaW.PrintLast Go.Proofs.YtneomcnfbnfjbaaW.PrintMore
set_option linter.unusedVariables false
set_option linter.unusedSimpArgs false

theorem awake_val : pentroughlaw16_awake.f = some true := rfl
theorem ours_val (l : List (List Int)) (b : Bool) : pentroughlaw16_ours.f l b = some (l, b) := rfl
def fewB (l : List (List Int)) : Bool := decide (l.length ≤ 6) && l.all fun x => decide (x.length ≤ 20)
theorem few_loop (l : List (List Int)) (b : Bool) (hl : l.length ≤ 9223372036854775807) : ∀ (d i k : Nat), i + d = l.length → d < k → pentroughref16_Few.l0 k i l b = some (decide (l.length ≤ 6) && (l.drop i).all fun x => decide (x.length ≤ 20)) := by
  intro d
  induction d with
  | zero =>
    intro i k hi hk
    obtain ⟨k, rfl⟩ : ∃ j, k = j + 1 := ⟨k - 1, by omega⟩
    rw [pentroughref16_Few.l0, if_neg (by omega), List.drop_eq_nil_of_le (by omega)]
    simp
    omega
  | succ d ih =>
    intro i k hi hk
    obtain ⟨k, rfl⟩ : ∃ j, k = j + 1 := ⟨k - 1, by omega⟩
    have h : i < l.length := by omega
    have e3 : wrap64 ((i : Int) + 1) = ((i + 1 : Nat) : Int) := by unfold wrap64; omega
    rw [pentroughref16_Few.l0, if_pos (by omega), if_pos (by omega), rd_L1_getD, e3, List.getD_eq_getElem?_getD, List.getElem?_eq_getElem h, Option.getD_some, List.drop_eq_getElem_cons h, List.all_cons, ih (i + 1) k (by omega) (by omega)]
    by_cases q : (l[i].length : Int) > 20
    · rw [if_pos q, show decide (l[i].length ≤ 20) = false from decide_eq_false (by omega)]; simp
    · rw [if_neg q, show decide (l[i].length ≤ 20) = true from decide_eq_true (by omega)]; simp
theorem few_val (l : List (List Int)) (b : Bool) (hl : l.length ≤ 9223372036854775807) (k : Nat) (hk : l.length < k) : pentroughref16_Few.f k l b = some (fewB l) := by
  unfold pentroughref16_Few.f fewB
  exact few_loop l b hl l.length 0 k (by omega) hk
theorem same_loop (a b : List Int) (hl : a.length = b.length) (hm : a.length ≤ 9223372036854775807) : ∀ (d i k : Nat), i + d = a.length → d < k → a.take i = b.take i → pentroughref01_Same.l0 k a b i = some (decide (a = b)) := by
  intro d
  induction d with
  | zero =>
    intro i k hi hk ht
    obtain ⟨k, rfl⟩ : ∃ j, k = j + 1 := ⟨k - 1, by omega⟩
    rw [pentroughref01_Same.l0, if_neg (by omega)]
    rw [List.take_of_length_le (by omega), List.take_of_length_le (by omega)] at ht
    rw [decide_eq_true ht]
  | succ d ih =>
    intro i k hi hk ht
    obtain ⟨k, rfl⟩ : ∃ j, k = j + 1 := ⟨k - 1, by omega⟩
    have ha : i < a.length := by omega
    have hb : i < b.length := by omega
    have e3 : wrap64 ((i : Int) + 1) = ((i + 1 : Nat) : Int) := by unfold wrap64; omega
    have ra : rd a (i : Int) = a[i] := by unfold rd; rw [Int.toNat_natCast, List.getD_eq_getElem?_getD, List.getElem?_eq_getElem ha]; rfl
    have rb : rd b (i : Int) = b[i] := by unfold rd; rw [Int.toNat_natCast, List.getD_eq_getElem?_getD, List.getElem?_eq_getElem hb]; rfl
    rw [pentroughref01_Same.l0, if_pos (by omega), if_pos (by omega), if_pos (by omega), ra, rb, e3]
    by_cases q : a[i] = b[i]
    · rw [if_pos q]
      exact ih (i + 1) k (by omega) (by omega) (by rw [List.take_succ_eq_append_getElem ha, List.take_succ_eq_append_getElem hb, ht, q])
    · rw [if_neg q, decide_eq_false (fun h => q (by subst h; rfl))]
theorem same_val (a b : List Int) (hm : a.length ≤ 9223372036854775807) (k : Nat) (hk : a.length < k) : pentroughref01_Same.f k a b = some (decide (a = b)) := by
  unfold pentroughref01_Same.f
  by_cases h : a.length = b.length
  · rw [if_pos (by omega)]
    exact same_loop a b h hm a.length 0 k (by omega) hk (by simp)
  · rw [if_neg (by omega), decide_eq_false (fun e => h (by rw [e]))]
theorem sane_is {l : List (List Int)} (h : saneB l = true) : l.length ≤ 2 ∧ ∀ x ∈ l, fitsB x = true := by
  simp only [saneB, Bool.and_eq_true, decide_eq_true_eq, List.all_eq_true] at h
  exact h
theorem sane_of {l : List (List Int)} (h : l.length ≤ 2) (hx : ∀ x ∈ l, fitsB x = true) : saneB l = true := by
  simp only [saneB, Bool.and_eq_true, decide_eq_true_eq, List.all_eq_true]
  exact ⟨h, hx⟩
theorem asL_of {l : List (List Int)} (h : saneB l = true) (b : Bool) : asL l = l ∧ asC l b = b := by
  unfold asL asC; rw [if_pos h, if_pos h]; exact ⟨rfl, rfl⟩
theorem sane_app {l : List (List Int)} (h : saneB l = true) (hl : l.length < 2) {x : List Int} (hx : fitsB x = true) : saneB (l ++ [x]) = true := by
  obtain ⟨_, h2⟩ := sane_is h
  refine sane_of (by simp; omega) fun y hy => ?_
  rcases List.mem_append.1 hy with hy | hy
  · exact h2 y hy
  · simp at hy; rw [hy]; exact hx
theorem sane_tail {x : List Int} {t : List (List Int)} (h : saneB (x :: t) = true) : saneB t = true := by
  obtain ⟨h1, h2⟩ := sane_is h
  exact sane_of (by simp at h1; omega) fun y hy => h2 y (List.mem_cons_of_mem _ hy)
theorem put_room {l : List (List Int)} (h : saneB l = true) (hl : l.length < 2) {x : List Int} (hx : fitsB x = true) : putS l false x = (l ++ [x], false, true) := by
  unfold putS
  rw [(asL_of h false).1, (asL_of h false).2, if_neg (by decide), if_neg (by omega), if_pos hx]
theorem put_full {l : List (List Int)} (h : saneB l = true) (hl : l.length = 2) (x : List Int) : putS l false x = (l, false, false) := by
  unfold putS
  rw [(asL_of h false).1, (asL_of h false).2, if_neg (by decide), if_pos hl]
theorem put_shut {l : List (List Int)} (h : saneB l = true) (x : List Int) : putS l true x = (l, true, false) := by
  unfold putS
  rw [(asL_of h true).1, (asL_of h true).2, if_pos rfl]
theorem put_bad {l : List (List Int)} (h : saneB l = true) (b : Bool) {x : List Int} (hx : fitsB x = false) : putS l b x = (l, b, false) := by
  unfold putS
  rw [(asL_of h b).1, (asL_of h b).2, if_neg (c := fitsB x = true) (by rw [hx]; decide)]
  cases b
  · rw [if_neg (by decide)]; split <;> rfl
  · rw [if_pos rfl]
theorem take_cons {x : List Int} {t : List (List Int)} (h : saneB (x :: t) = true) (b : Bool) : takeS (x :: t) b = (t, b, x, true) := by
  unfold takeS
  rw [(asL_of h b).1, (asL_of h b).2]
theorem take_nil (b : Bool) : takeS [] b = ([], b, [], false) := by
  have h : saneB [] = true := rfl
  unfold takeS
  rw [(asL_of h b).1, (asL_of h b).2]
end Go.Proofs.Ytneomcnfbnfjbaa.Pure
