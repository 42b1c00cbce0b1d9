/- What is put in an empty channel comes out: the plain part. -/
import Derived.Test.YtneomcnfbnfjbaaQ14
import Derived.Test.YtneomcnfbnfjbaaPureLib
namespace Go.Proofs.Ytneomcnfbnfjbaa.Pure
open Go.RowKit Go.Proofs.Ytneomcnfbnfjbaa.Q Go.Proofs.YtneomcnfbnfjbaaW.PrintWords Go.Proofs.YtneomcnfbnfjbaaW.PrintLast Go.Proofs.YtneomcnfbnfjbaaW.PrintMore
set_option linter.unusedVariables false

theorem pass_take (l : List Int) (b : Bool) (h1 : 1 ≤ l.length) (h8 : l.length ≤ 8) (k : Nat) (hk : 15 < k) : pentroughlaw16_ChansPass.j1 (k + 2) l b true true [l] b = some true := by
  have hf : fitsB l = true := (fitsB_iff l).2 ⟨h1, h8⟩
  have hs : saneB [l] = true := sane_of (by simp) (by simpa using hf)
  have hsp : (asC [] b && decide ((asL []).length = 0)) = b := by cases b <;> rfl
  have hsp1 : (asC [l] b && decide ((asL [l]).length = 0)) = false := by rw [(asL_of hs b).1]; simp
  rw [pentroughlaw16_ChansPass.j1, Take_val [l] b (by simp) _ (by simp <;> omega), Option.bind_some, take_cons hs]
  simp only
  rw [if_neg (by decide), Count_val [] b (by simp) _ (by simp <;> omega), Option.bind_some, if_pos (by rfl), Spent_val [] b (by simp) _ (by simp <;> omega), Option.bind_some, hsp, bne_self_eq_false, pentroughlaw16_ChansPass.j2, if_neg (by decide), if_pos rfl, if_pos rfl, same_val l l (by omega) _ (by omega), Option.bind_some, if_pos (by simp), Count_val [l] b (by simp) _ (by simp <;> omega), Option.bind_some, (asL_of hs b).1, if_pos (by simp [cnt]), Spent_val [l] b (by simp) _ (by simp <;> omega), Option.bind_some, hsp1]
  rfl
theorem pass_none (l : List Int) (b : Bool) (k : Nat) (hk : 15 < k) : pentroughlaw16_ChansPass.j1 (k + 2) l b true false [] b = some true := by
  have hsp : (asC [] b && decide ((asL []).length = 0)) = b := by cases b <;> rfl
  rw [pentroughlaw16_ChansPass.j1, Take_val [] b (by simp) _ (by simp <;> omega), Option.bind_some, take_nil]
  simp only
  rw [if_neg (by decide), Count_val [] b (by simp) _ (by simp <;> omega), Option.bind_some, if_pos (by rfl), Spent_val [] b (by simp) _ (by simp <;> omega), Option.bind_some, hsp, bne_self_eq_false, pentroughlaw16_ChansPass.j2, if_neg (by decide), if_neg (by decide), if_pos rfl, if_pos (by rfl), Count_val [] b (by simp) _ (by simp <;> omega), Option.bind_some]
  rfl
theorem pass_j0 (l : List Int) (a : Bool) (p : Bool) (S : List (List Int)) (hs : saneB S = true) (k : Nat) (hk : 15 < k) (hc : ∀ b, pentroughlaw16_ChansPass.j1 (k + 2) l b true p S b = some true) : pentroughlaw16_ChansPass.j0 (k + 3) l a true p false S false = some true := by
  have h2 := (sane_is hs).1
  rw [pentroughlaw16_ChansPass.j0, if_neg (by decide)]
  cases a with
  | true =>
    rw [if_pos rfl, Close_val S false (by omega) _ (by omega), Option.bind_some, (asL_of hs false).1]
    exact hc true
  | false =>
    rw [if_neg (by decide)]
    exact hc false
theorem ChansPass : pentroughlaw16_ChansPass.Pure := by
  intro l a hl _ _
  refine ⟨30, ?_⟩
  unfold pentroughlaw16_ChansPass.f
  rw [awake_val]
  simp only [Option.bind_some]
  by_cases h20 : (l.length : Int) > 20
  · rw [if_pos h20]
  rw [if_neg h20, Put_val [] false l (by simp) _ (by simp), Option.bind_some]
  by_cases hf : fitsB l = true
  · have h := (fitsB_iff l).1 hf
    rw [put_room (l := []) rfl (by simp) hf]
    simp only [List.nil_append]
    have e1 : (decide ((l.length : Int) ≤ 8)) = true := decide_eq_true (by omega)
    rw [if_pos (by omega), e1]
    exact pass_j0 l a true [l] (sane_of (by simp) (by simpa using hf)) 27 (by omega) fun b => pass_take l b h.1 h.2 27 (by omega)
  · have hf' : fitsB l = false := by cases h : fitsB l <;> simp_all
    have h : ¬ (1 ≤ l.length ∧ l.length ≤ 8) := fun q => hf ((fitsB_iff l).2 q)
    rw [put_bad (l := []) rfl false hf']
    simp only
    by_cases h1 : (l.length : Int) ≥ 1
    · have e1 : (decide ((l.length : Int) ≤ 8)) = false := decide_eq_false (by omega)
      rw [if_pos h1, e1]
      exact pass_j0 l a false [] rfl 27 (by omega) fun b => pass_none l b 27 (by omega)
    · rw [if_neg h1]
      exact pass_j0 l a false [] rfl 27 (by omega) fun b => pass_none l b 27 (by omega)
end Go.Proofs.Ytneomcnfbnfjbaa.Pure
