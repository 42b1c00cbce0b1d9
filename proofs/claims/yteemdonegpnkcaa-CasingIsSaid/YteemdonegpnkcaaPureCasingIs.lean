/- What numbers become is what the document says: the plain part. -/
import Derived.Test.YteemdonegpnkcaaQ5
import Derived.Test.YteemdonegpnkcaaPureFind
namespace Go.Proofs.Yteemdonegpnkcaa.Pure
open Go.RowKit Go.Proofs.Yteemdonegpnkcaa.Q Go.Proofs.YteemdonegpnkcaaW.PrintWords Go.Proofs.YteemdonegpnkcaaW.PrintLast
set_option linter.unusedVariables false

theorem refAll_loop (l : List Int) (hl : l.length ≤ 100000) : ∀ (d i k : Nat) (acc : List Int), i + d = l.length → acc.length ≤ 3 * i → d + 5001 < k → pentroughref06_All.l0 k l acc i = some (acc ++ (l.drop i).flatMap foldV) := by
  intro d
  induction d with
  | zero =>
    intro i k acc hi ha hk
    obtain ⟨k, rfl⟩ : ∃ j, k = j + 1 := ⟨k - 1, by omega⟩
    rw [pentroughref06_All.l0, if_neg (by omega), List.drop_eq_nil_of_le (by omega)]
    simp
  | succ d ih =>
    intro i k acc hi ha hk
    obtain ⟨k, rfl⟩ : ∃ j, k = j + 1 := ⟨k - 1, by omega⟩
    have h : i < l.length := by omega
    have e3 : wrap64 ((i : Int) + 1) = ((i + 1 : Nat) : Int) := by unfold wrap64; omega
    have er : rd l (i : Int) = l[i] := by unfold rd; rw [Int.toNat_natCast, List.getD_eq_getElem?_getD, List.getElem?_eq_getElem h]; rfl
    have hf := foldV_len l[i]
    rw [pentroughref06_All.l0, if_pos (by omega), if_pos (by omega), er, refFold_val l[i] k (by omega), Option.bind_some, if_pos (by omega), e3, ih (i + 1) k _ (by omega) (by rw [List.length_append]; omega) (by omega), List.drop_eq_getElem_cons h, List.flatMap_cons, List.append_assoc]
theorem refAll_val (l : List Int) (hl : l.length ≤ 100000) (k : Nat) (hk : l.length + 5001 < k) : pentroughref06_All.f k l = some (l.flatMap foldV) := by
  unfold pentroughref06_All.f
  have := refAll_loop l hl l.length 0 k [] (by omega) (by simp) hk
  simpa using this
theorem CasingIs : pentroughlaw06_CasingIs.Pure := by
  intro a l ha _ _ hl
  refine ⟨10000, ?_⟩
  unfold pentroughlaw06_CasingIs.f
  have hw := wf_of ha
  have wl : ∀ x ∈ l, Wf x := fun x hx => wf_of (hl x hx)
  have h3 := foldV_len a
  have hf := flat_len l
  rw [awake_val 10000 (by omega), Option.bind_some]
  by_cases c : (l.length : Int) > 100
  · rw [if_pos c]
  rw [if_neg c, if_pos rfl, Fold_val a hw 10000 (by omega), Option.bind_some, refFold_val a 10000 (by omega), Option.bind_some, same_self _ (by omega) 10000 (by omega), Option.bind_some, if_pos rfl, All_val l (by omega) wl 10000 (by omega), Option.bind_some, refAll_val l (by omega) 10000 (by omega), Option.bind_some, same_self _ (by omega) 10000 (by omega)]
  rfl
end Go.Proofs.Yteemdonegpnkcaa.Pure
