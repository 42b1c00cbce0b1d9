/- A channel that is closed takes nothing, and is emptied: the plain part. -/
import Derived.Test.YtneomcnfbnfjbaaQ13
import Derived.Test.YtneomcnfbnfjbaaPureLib
namespace Go.Proofs.Ytneomcnfbnfjbaa.Pure
open Go.RowKit Go.Proofs.Ytneomcnfbnfjbaa.Q Go.Proofs.YtneomcnfbnfjbaaW.PrintWords Go.Proofs.YtneomcnfbnfjbaaW.PrintLast Go.Proofs.YtneomcnfbnfjbaaW.PrintMore
set_option linter.unusedVariables false

theorem closed_loop (l : List (List Int)) (b : Bool) (hl : l.length ≤ 2) : ∀ (r : List (List Int)) (i k : Nat), saneB r = true → l.drop i = r → i + r.length = l.length → r.length + 12 < k → pentroughlaw16_ChansClosed.l0 k true i l b r true = some true := by
  intro r
  induction r with
  | nil =>
    intro i k hs hd hi hk
    obtain ⟨k, rfl⟩ : ∃ j, k = j + 1 := ⟨k - 1, by omega⟩
    simp only [List.length_nil, Nat.add_zero] at hi hk
    rw [pentroughlaw16_ChansClosed.l0, if_neg (by omega), Take_val [] true (by simp) k (by simp; omega), Option.bind_some, take_nil, if_pos rfl]
    simp only
    rw [if_neg (by decide), if_pos (by rfl), Spent_val [] true (by simp) k (by simp; omega), Option.bind_some, if_pos (by rfl), Close_val [] true (by simp) k (by simp; omega), Option.bind_some]
    simp only
    rw [Spent_val (asL []) true (by decide) k (by show 0 < k; omega), Option.bind_some, if_pos (by rfl), Spent_val [] false (by simp) k (by simp; omega)]
    rfl
  | cons x t ih =>
    intro i k hs hd hi hk
    obtain ⟨k, rfl⟩ : ∃ j, k = j + 1 := ⟨k - 1, by omega⟩
    simp only [List.length_cons] at hi hk
    have e3 : wrap64 ((i : Int) + 1) = ((i + 1 : Nat) : Int) := by unfold wrap64; omega
    have hx := (fitsB_iff x).1 ((sane_is hs).2 x (by simp))
    have hi' : i < l.length := by omega
    have eg : l.getD i [] = x := by
      rw [List.drop_eq_getElem_cons hi'] at hd
      rw [List.getD_eq_getElem?_getD, List.getElem?_eq_getElem hi', Option.getD_some]
      exact (List.cons.inj hd).1
    have ed : l.drop (i + 1) = t := by
      rw [List.drop_eq_getElem_cons hi'] at hd
      exact (List.cons.inj hd).2
    have hsp : (asC (x :: t) true && decide ((asL (x :: t)).length = 0)) = false := by
      rw [(asL_of hs true).1]; simp
    rw [pentroughlaw16_ChansClosed.l0, if_pos (by omega), Spent_val (x :: t) true (by simp; omega) k (by simp; omega), Option.bind_some, hsp, if_neg (by decide), Take_val (x :: t) true (by simp; omega) k (by simp; omega), Option.bind_some, take_cons hs]
    simp only
    rw [if_pos (by trivial), if_pos (by omega), rd_L1_getD, eg, same_val x x (by omega) k (by omega), Option.bind_some, if_pos (by simp), e3]
    exact ih (i + 1) k (sane_tail hs) ed (by omega) (by omega)
theorem ChansClosed (l : List (List Int)) (b : Bool) (x : List Int) (hl : l.length ≤ 9223372036854775807) (_ : ∀ a ∈ l, a.length ≤ maxLen ∧ ∀ n ∈ a, (Lit.int .i64 n).wf = true) (_ : x.length ≤ maxLen) (_ : ∀ n ∈ x, (Lit.int .i64 n).wf = true) : ∃ k, pentroughlaw16_ChansClosed.f k l b x = some true := by
  refine ⟨l.length + 20, ?_⟩
  unfold pentroughlaw16_ChansClosed.f
  rw [awake_val, few_val l b hl _ (by omega)]
  simp only [Option.bind_some]
  by_cases hf : fewB l = true
  · rw [if_pos hf]
    by_cases hx : (x.length : Int) > 20
    · rw [if_pos hx, pentroughlaw16_ChansClosed.j0, if_pos rfl]
    · rw [if_neg hx, ours_val]
      simp only [Option.bind_some]
      rw [chans_Sane.is l b hl _ (by omega), Option.bind_some]
      by_cases hs : saneB l = true
      · have h2 := (sane_is hs).1
        rw [hs, pentroughlaw16_ChansClosed.j0, if_neg (by decide), ours_val, Option.bind_some]
        simp only
        rw [Close_val l b hl _ (by omega), Option.bind_some, (asL_of hs true).1]
        simp only
        rw [Put_val l true x hl _ (by omega), Option.bind_some, put_shut hs]
        simp only
        rw [if_neg (by decide), if_pos (by trivial)]
        rw [pentroughlaw16_ChansClosed.j1, if_neg (by decide)]
        exact closed_loop l b h2 l 0 _ hs rfl (by omega) (by omega)
      · rw [show saneB l = false from by cases h : saneB l <;> simp_all, pentroughlaw16_ChansClosed.j0, if_pos (by decide)]
  · rw [if_neg hf, pentroughlaw16_ChansClosed.j0, if_pos rfl]
end Go.Proofs.Ytneomcnfbnfjbaa.Pure
