/- Of any channel and block: the plain part. -/
import Derived.Test.YtneomcnfbnfjbaaPureSame
import Derived.Test.YtneomcnfbnfjbaaQ12
import Derived.Test.YtneomcnfbnfjbaaQ13
import Derived.Test.YtneomcnfbnfjbaaQ14
import Derived.Test.YtneomcnfbnfjbaaQ15
namespace Go.Proofs.Ytneomcnfbnfjbaa.Pure
open Go.RowKit Go.Proofs.Ytneomcnfbnfjbaa.Q Go.Proofs.YtneomcnfbnfjbaaW.PrintWords Go.Proofs.YtneomcnfbnfjbaaW.PrintLast Go.Proofs.YtneomcnfbnfjbaaW.PrintMore
set_option linter.unusedVariables false
set_option linter.unusedSimpArgs false
theorem RefSane_loop (l : List (List Int)) (b : Bool) : ∀ (k : Nat) (i : Int), pentroughref16_Sane.l0 k i l b = chans_Sane.l0 k i l b
  | 0, i => by rw [pentroughref16_Sane.l0, chans_Sane.l0]
  | k + 1, i => by
    rw [pentroughref16_Sane.l0, chans_Sane.l0, RefSane_loop l b k]
theorem RefSane_eq (k : Nat) (l : List (List Int)) (b : Bool) : pentroughref16_Sane.f k l b = chans_Sane.f k l b := by
  unfold pentroughref16_Sane.f chans_Sane.f
  exact RefSane_loop l b k 0
theorem RefAs_eq (k : Nat) (l : List (List Int)) (b : Bool) : pentroughref16_As.f k l b = chans_sane.f k l b := by
  unfold pentroughref16_As.f chans_sane.f
  rw [RefSane_eq]
theorem RefPut_eq (k : Nat) (l : List (List Int)) (b : Bool) (x : List Int) : pentroughref16_Put.f k l b x = chans_Put.f k l b x := by
  unfold pentroughref16_Put.f chans_Put.f
  rw [RefAs_eq]
theorem RefClose_eq (k : Nat) (l : List (List Int)) (b : Bool) : pentroughref16_Close.f k l b = chans_Close.f k l b := by
  unfold pentroughref16_Close.f chans_Close.f
  rw [RefAs_eq]
theorem RefSpent_eq (k : Nat) (l : List (List Int)) (b : Bool) : pentroughref16_Spent.f k l b = chans_Spent.f k l b := by
  unfold pentroughref16_Spent.f chans_Spent.f
  rw [RefAs_eq]
theorem RefTake_eq (k : Nat) (l : List (List Int)) (b : Bool) : pentroughref16_Take.f k l b = chans_Take.f k l b := by
  unfold pentroughref16_Take.f chans_Take.f
  rw [RefAs_eq]
  congr 1
theorem RefCount_loop (b : Bool) : ∀ (t : List (List Int)) (done : List (List Int)) (acc : Int) (k : Nat), (done ++ t).length ≤ 2 → t.length < k → 0 ≤ acc → acc + cnt t ≤ 100 → (∀ x ∈ t, x.length ≤ 8) → pentroughref16_Count.l0 k acc (done.length : Int) (done ++ t) b = some (acc + cnt t)
  | [], done, acc, k, _, hk, _, _, _ => by
    obtain ⟨k, rfl⟩ : ∃ j, k = j + 1 := ⟨k - 1, by omega⟩
    rw [pentroughref16_Count.l0, if_neg (by simp)]
    simp [cnt]
  | x :: t, done, acc, k, h2, hk, h0, hb, h8 => by
    obtain ⟨k, rfl⟩ : ∃ j, k = j + 1 := ⟨k - 1, by omega⟩
    have hx := h8 x (by simp)
    have hc : cnt (x :: t) = x.length + cnt t := by simp [cnt]
    have hn : 0 ≤ cnt t := cnt_nonneg t
    have hl : (done ++ x :: t).length = done.length + t.length + 1 := by simp; omega
    have e1 : rd_L1 (done ++ x :: t) (done.length : Int) = x := by rw [rd_L1_getD]; simp
    have e2 : wrap64 (acc + (x.length : Int)) = acc + x.length := by unfold wrap64; omega
    have e3 : wrap64 ((done.length : Int) + 1) = ((done ++ [x]).length : Int) := by simp; unfold wrap64; rw [hl] at h2; omega
    rw [pentroughref16_Count.l0, if_pos (by rw [hl]; omega), if_pos (by omega), e1, e2, e3]
    have e4 : done ++ x :: t = (done ++ [x]) ++ t := by simp
    rw [e4] at h2 ⊢
    rw [RefCount_loop b t (done ++ [x]) (acc + x.length) k h2 (by simp at hk; omega) (by omega) (by rw [hc] at hb; omega) (fun z hz => h8 z (by simp [hz])), hc]
    congr 1; omega
theorem RefCount_val (l : List (List Int)) (b : Bool) (hl : l.length ≤ 9223372036854775807) (k : Nat) (hk : l.length + 2 < k) : pentroughref16_Count.f k l b = some (cnt (asL l)) := by
  unfold pentroughref16_Count.f
  rw [RefAs_eq, sane_val l b hl k (by omega), Option.bind_some]
  have hs := asL_sane l
  have hc := cnt_le _ hs
  have h2 := (sane_is hs).1
  have h := RefCount_loop (asC l b) (asL l) [] 0 k (by simpa using h2) (by omega) (by omega) (by omega) (fun x h => ((fitsB_iff x).1 ((sane_is hs).2 x h)).2)
  simp only [List.nil_append, List.length_nil, Int.zero_add] at h
  exact h
theorem is_j1 (k : Nat) (l : List (List Int)) (b : Bool) (hl : l.length ≤ 9223372036854775807) (hk : l.length + 30 < k) : pentroughlaw16_ChansIs.j1 (k + 1) true false l b = some true := by
  have hss := csame_self (asL l) true (asL_sane l) k (by omega)
  rw [pentroughlaw16_ChansIs.j1, if_neg (by decide), if_pos rfl]
  simp only [ours_val, Option.bind_some, RefSane_eq, RefClose_eq, RefSpent_eq, chans_Sane.is l b hl k (by omega), Close_val l b hl k (by omega), Spent_val l b hl k (by omega), Count_val l b hl k (by omega), RefCount_val l b hl k (by omega), hss, beq_self_eq_true, if_true]
theorem ChansIs (l : List (List Int)) (b : Bool) (x : List Int) (hl : l.length ≤ 9223372036854775807) (_ : ∀ a ∈ l, a.length ≤ maxLen ∧ ∀ n ∈ a, (Lit.int .i64 n).wf = true) (_ : x.length ≤ maxLen) (_ : ∀ n ∈ x, (Lit.int .i64 n).wf = true) : ∃ k, pentroughlaw16_ChansIs.f k l b x = some true := by
  refine ⟨l.length + 42, ?_⟩
  have hno : pentroughlaw16_ChansIs.j0 (l.length + 42) x true true l b = some true := by rw [pentroughlaw16_ChansIs.j0, if_pos rfl]
  unfold pentroughlaw16_ChansIs.f
  rw [awake_val, few_val l b hl _ (by omega)]
  simp only [Option.bind_some]
  by_cases hf : fewB l = true
  · rw [if_pos hf]
    by_cases hx : (x.length : Int) > 20
    · rw [decide_eq_true hx]; exact hno
    · rw [decide_eq_false hx, pentroughlaw16_ChansIs.j0, if_neg (by decide)]
      have hPv := Put_val l b x hl (l.length + 41) (by omega)
      have hTv := Take_val l b hl (l.length + 41) (by omega)
      have hj := is_j1 (l.length + 40) l b hl (by omega)
      rw [show l.length + 41 = (l.length + 40) + 1 from rfl] at hPv hTv ⊢
      have hp : ∃ P pb pk, putS l b x = (P, pb, pk) ∧ saneB P = true := by
        rcases put_two l b x with e | ⟨e, _, hs⟩
        · exact ⟨_, _, _, e, asL_sane l⟩
        · exact ⟨_, _, _, e, hs⟩
      have ht : ∃ T tb y tk, takeS l b = (T, tb, y, tk) ∧ saneB T = true ∧ y.length ≤ 8 := by
        have hs := asL_sane l
        rcases take_two l b with ⟨_, e⟩ | ⟨y, t, e0, e, hst⟩
        · exact ⟨_, _, _, _, e, rfl, by simp⟩
        · rw [e0] at hs
          exact ⟨_, _, _, _, e, hst, ((fitsB_iff y).1 ((sane_is hs).2 y (by simp))).2⟩
      obtain ⟨P, pb, pk, eP, sP⟩ := hp
      obtain ⟨T, tb, y, tk, eT, sT, hy⟩ := ht
      rw [eP] at hPv
      rw [eT] at hTv
      have h1 := csame_self P pb sP (l.length + 40 + 1) (by omega)
      have h2 := csame_self T tb sT (l.length + 40 + 1) (by omega)
      have h3 := same_val y y (by omega) (l.length + 40 + 1) (by omega)
      simp only [ours_val, Option.bind_some, RefPut_eq, RefTake_eq, hPv, hTv, h1, h2, h3, bne_self_eq_false, Bool.false_eq_true, if_false, if_true, decide_true, Bool.not_true]
      exact hj
  · rw [if_neg hf]; exact hno
end Go.Proofs.Ytneomcnfbnfjbaa.Pure
