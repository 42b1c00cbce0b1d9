/- A channel is the same as itself; what is put and taken, of channels that may be. -/
import Derived.Test.YtneomcnfbnfjbaaPureLib
import Derived.Test.YtneomcnfbnfjbaaQ8
import Derived.Test.YtneomcnfbnfjbaaQ9
namespace Go.Proofs.Ytneomcnfbnfjbaa.Pure
open Go.RowKit Go.Proofs.Ytneomcnfbnfjbaa.Q Go.Proofs.YtneomcnfbnfjbaaW.PrintWords Go.Proofs.YtneomcnfbnfjbaaW.PrintLast Go.Proofs.YtneomcnfbnfjbaaW.PrintMore
set_option linter.unusedVariables false
set_option linter.unusedSimpArgs false
theorem csame_loop (l : List (List Int)) (b : Bool) (hl : l.length ≤ 2) (hx : ∀ x ∈ l, x.length ≤ 8) : ∀ (d i k : Nat), i + d = l.length → d + 9 < k → pentroughref16_Same.l0 k i l b l b = some true := by
  intro d
  induction d with
  | zero =>
    intro i k hi hk
    obtain ⟨k, rfl⟩ : ∃ j, k = j + 1 := ⟨k - 1, by omega⟩
    rw [pentroughref16_Same.l0, if_neg (by omega)]
  | succ d ih =>
    intro i k hi hk
    obtain ⟨k, rfl⟩ : ∃ j, k = j + 1 := ⟨k - 1, by omega⟩
    have h : i < l.length := by omega
    have e3 : wrap64 ((i : Int) + 1) = ((i + 1 : Nat) : Int) := by unfold wrap64; omega
    have hxx : (l.getD i []).length ≤ 8 := by
      rw [List.getD_eq_getElem?_getD, List.getElem?_eq_getElem h, Option.getD_some]
      exact hx _ (List.getElem_mem h)
    rw [pentroughref16_Same.l0, if_pos (by omega), if_pos (by omega), if_pos (by omega), rd_L1_getD, same_val _ _ (by omega) k (by omega), Option.bind_some, if_pos (by simp), e3]
    exact ih (i + 1) k (by omega) (by omega)
theorem csame_self (l : List (List Int)) (b : Bool) (hs : saneB l = true) (k : Nat) (hk : 20 < k) : pentroughlaw16_same.f k l b l b = some true := by
  have h2 := (sane_is hs).1
  have hx : ∀ x ∈ l, x.length ≤ 8 := fun x h => ((fitsB_iff x).1 ((sane_is hs).2 x h)).2
  obtain ⟨k, rfl⟩ : ∃ j, k = j + 1 := ⟨k - 1, by omega⟩
  unfold pentroughlaw16_same.f pentroughref16_Same.f
  rw [if_pos rfl, bne_self_eq_false, pentroughref16_Same.j0, if_neg (by decide)]
  have := csame_loop l b h2 hx l.length 0 k (by omega) (by omega)
  rw [show (0 : Int) = ((0 : Nat) : Int) from rfl, this, Option.bind_some]
/-- What is put: nothing, or one more block. -/
theorem put_two (l : List (List Int)) (b : Bool) (x : List Int) : putS l b x = (asL l, asC l b, false) ∨ (putS l b x = (asL l ++ [x], asC l b, true) ∧ asC l b = false ∧ saneB (asL l ++ [x]) = true) := by
  unfold putS
  by_cases c1 : asC l b = true
  · rw [if_pos c1]; exact .inl rfl
  · rw [if_neg c1]
    by_cases c2 : (asL l).length = 2
    · rw [if_pos c2]; exact .inl rfl
    · rw [if_neg c2]
      by_cases c3 : fitsB x = true
      · rw [if_pos c3, Bool.eq_false_iff.mpr c1]
        have := (sane_is (asL_sane l)).1
        exact .inr ⟨rfl, rfl, sane_app (asL_sane l) (by omega) c3⟩
      · rw [if_neg c3]; exact .inl rfl
/-- What is taken: nothing of nothing, or the first block. -/
theorem take_two (l : List (List Int)) (b : Bool) : (asL l = [] ∧ takeS l b = ([], asC l b, [], false)) ∨ (∃ x t, asL l = x :: t ∧ takeS l b = (t, asC l b, x, true) ∧ saneB t = true) := by
  unfold takeS
  have hs := asL_sane l
  cases h : asL l with
  | nil => exact .inl ⟨rfl, rfl⟩
  | cons x t => rw [h] at hs; exact .inr ⟨x, t, rfl, rfl, sane_tail hs⟩
theorem cnt_app (l : List (List Int)) (x : List Int) : cnt (l ++ [x]) = cnt l + x.length := by simp [cnt]
end Go.Proofs.Ytneomcnfbnfjbaa.Pure
