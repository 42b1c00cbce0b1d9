/- How long an event's bytes are: the plain law. -/
import Derived.Test.YtdnglfodlhhikaaPureEv
import Derived.Test.YtdnglfodlhhikaaQ7
import Derived.Test.YtdnglfodlhhikaaQ10
import Derived.Test.YtdnglfodlhhikaaQ11
namespace Go.Proofs.Ytdnglfodlhhikaa.Q
open Go.RowKit Go.Proofs.YtdnglfodlhhikaaW.PrintWords Go.Proofs.YtdnglfodlhhikaaW.PrintMore Go.Proofs.Ytdnglfodlhhikaa.Pure
set_option linter.unusedVariables false
set_option linter.unusedSimpArgs false
set_option linter.unusedVariables false
theorem size_val (n : Int) (k : Nat) (hk : 4 < k) : varint_Size.f k n = some ((putS n).length : Int) := by
  unfold varint_Size.f
  rw [put_val n k hk, Option.bind_some]
/-- What the law asks of the bytes at last. -/
theorem sizes_end {a b c : Int} {l : List Int} (h : Fine a b c l) (X : Int) (hX : ((putE a b c l).length : Int) = X) :
    (if ((putE a b c l).length : Int) = X then (if 0 < ((putE a b c l).length : Int) then (if (wrap64 (rd (putE a b c l) 0)) = a then (if a ≥ 6 then (some true) else (if 1 < ((putE a b c l).length : Int) then (some ((wrap64 (rd (putE a b c l) 1)) == b)) else (none))) else (some false)) else (none)) else (some false)) = some true := by
  obtain ⟨h1, h2, h3, h4, _⟩ := h
  have e0 : rd (putE a b c l) 0 = a := rfl
  have hl : 1 ≤ (putE a b c l).length := by simp [putE]
  rw [if_pos hX, if_pos (by omega), e0, wrap_sum a (by omega) (by omega), if_pos rfl]
  by_cases h6 : a ≥ 6
  · rw [if_pos h6]
  · have e1 : rd (putE a b c l) 1 = b := by
      unfold putE
      rw [if_pos (by omega)]
      rfl
    have hl2 : 2 ≤ (putE a b c l).length := by unfold putE; rw [if_pos (show a < 6 by omega)]; simp
    rw [if_neg h6, if_pos (by omega), e1, wrap_sum b (by omega) (by omega)]
    simp
theorem sizes_j1 {a b c : Int} {l : List Int} (h : Fine a b c l) (n0 : Int) (hn : n0 = if a < 6 then 2 else 1) : pentroughlaw23_ScriptSizes.j1 11 true n0 a b c l = some true := by
  have h' := h
  obtain ⟨h1, h2, h3, h4, h5, h6, h7, h8⟩ := h'
  have hn2 : 1 ≤ n0 ∧ n0 ≤ 2 := by rw [hn]; split <;> omega
  have hp : ∀ k, 6 ≤ k → script_Put.f k a b c l = some (putE a b c l) := fun k hk => put_yes h k hk
  have hs1 := putS_len l.length
  have hs2 := putS_len c
  have hhead : (((if a < 6 then [b] else []) : List Int).length : Int) = n0 - 1 := by rw [hn]; split <;> rfl
  simp only [pentroughlaw23_ScriptSizes.j1, pentroughlaw23_ours.f, Option.bind_some, if_true]
  by_cases k1 : a = 1
  · rw [if_pos k1, size_val _ 10 (by decide), Option.bind_some, hp 10 (by decide), Option.bind_some]
    rw [if_pos k1] at h8
    refine sizes_end h _ ?_
    rw [wrap_sum (n0 + _) (by omega) (by omega), wrap_sum _ (by omega) (by omega)]
    unfold putE
    rw [if_pos k1]
    simp only [List.length_cons, List.length_append]
    omega
  rw [if_neg k1]
  by_cases k3 : a = 3
  · rw [if_pos k3, size_val _ 10 (by decide), Option.bind_some, hp 10 (by decide), Option.bind_some]
    refine sizes_end h _ ?_
    rw [wrap_sum (n0 + _) (by omega) (by omega)]
    unfold putE
    rw [if_neg k1, if_pos k3]
    simp only [List.length_cons, List.length_append]
    omega
  rw [if_neg k3]
  have hj : ∀ x : Bool, (x = true ↔ a = 5 ∨ a = 7) → pentroughlaw23_ScriptSizes.j2 10 true n0 x a b c l = some true := by
    intro x hx
    simp only [pentroughlaw23_ScriptSizes.j2, pentroughlaw23_ours.f, Option.bind_some, if_true]
    by_cases h57 : a = 5 ∨ a = 7
    · rw [if_pos (hx.mpr h57), hp 9 (by decide), Option.bind_some]
      refine sizes_end h _ ?_
      rw [wrap_sum (n0 + _) (by omega) (by omega)]
      unfold putE
      rw [if_neg k1, if_neg k3, if_pos h57]
      simp only [List.length_cons, List.length_append, List.length_nil]
      omega
    · rw [if_neg (fun e => h57 (hx.mp e)), hp 9 (by decide), Option.bind_some]
      refine sizes_end h _ ?_
      unfold putE
      rw [if_neg k1, if_neg k3, if_neg h57]
      simp only [List.length_cons, List.length_append, List.length_nil]
      omega
  by_cases k5 : a = 5
  · rw [if_pos k5]; exact hj _ (by simp [k5])
  · rw [if_neg k5]; exact hj _ (by simp [k5])
theorem Pure.ScriptSizes (a b c : Int) (l : List Int) (_ : (Lit.int .i64 a).wf = true) (_ : (Lit.int .i64 b).wf = true) (_ : (Lit.int .i64 c).wf = true) (_ : l.length ≤ maxLen) (_ : ∀ n ∈ l, (Lit.int .u8 n).wf = true) : ∃ k, pentroughlaw23_ScriptSizes.f k a b c l = some true := by
  refine ⟨12, ?_⟩
  unfold pentroughlaw23_ScriptSizes.f pentroughlaw23_awake.f
  rw [Option.bind_some]
  by_cases h5 : (l.length : Int) > 5000
  · rw [if_pos h5, pentroughlaw23_ScriptSizes.j0, if_pos rfl]
  rw [if_neg h5]
  unfold pentroughlaw23_ours.f
  rw [Option.bind_some]
  dsimp only
  by_cases hf : Fine a b c l
  · rw [sane_yes hf 12 (by decide), Option.bind_some, pentroughlaw23_ScriptSizes.j0, if_neg (by decide)]
    by_cases h6 : a < 6
    · rw [if_pos h6]; exact sizes_j1 hf 2 (by rw [if_pos h6])
    · rw [if_neg h6]; exact sizes_j1 hf 1 (by rw [if_neg h6])
  · rw [sane_no hf 12 (by decide), Option.bind_some, pentroughlaw23_ScriptSizes.j0, if_pos (by decide)]
end Go.Proofs.Ytdnglfodlhhikaa.Q
