/- What is put is got: the plain law. -/
import Derived.Test.YtdnglfodlhhikaaPureGet
import Derived.Test.YtdnglfodlhhikaaQ7
import Derived.Test.YtdnglfodlhhikaaQ8
namespace Go.Proofs.Ytdnglfodlhhikaa.Q
open Go.RowKit Go.Proofs.YtdnglfodlhhikaaW.PrintWords Go.Proofs.YtdnglfodlhhikaaW.PrintMore Go.Proofs.Ytdnglfodlhhikaa.Pure
set_option linter.unusedVariables false
set_option linter.unusedSimpArgs false
theorem back_loop {a b c : Int} {l : List Int} (h : Fine a b c l) (hb : Byt l) (hl : l.length ≤ 5000) : ∀ (d i k : Nat), i + d = min (putE a b c l).length 40 → 2 * d + 10 < k → pentroughlaw23_ScriptBack.l0 k true (putE a b c l) i = some true := by
  have h1 := putE_len h
  intro d
  induction d with
  | zero =>
    intro i k hi hk
    obtain ⟨k, rfl⟩ : ∃ j, k = j + 2 := ⟨k - 2, by omega⟩
    have hend : pentroughlaw23_ScriptBack.j3 (k + 1) true (putE a b c l) i false = some true := by
      rw [pentroughlaw23_ScriptBack.j3, if_neg (by decide), if_pos rfl, decide_eq_true (by omega)]
    rw [pentroughlaw23_ScriptBack.l0]
    by_cases q : (i : Int) < ((putE a b c l).length : Int)
    · rw [if_pos q, decide_eq_false (by omega)]; exact hend
    · rw [if_neg q]; exact hend
  | succ d ih =>
    intro i k hi hk
    obtain ⟨k, rfl⟩ : ∃ j, k = j + 2 := ⟨k - 2, by omega⟩
    have e3 : wrap64 ((i : Int) + 1) = ((i + 1 : Nat) : Int) := by unfold wrap64; omega
    rw [pentroughlaw23_ScriptBack.l0, if_pos (by omega), decide_eq_true (by omega), pentroughlaw23_ScriptBack.j3, if_pos rfl, if_pos (by omega), if_pos (by omega), Int.toNat_natCast, get_cut h hb i (by omega) k (by omega), Option.bind_some]
    dsimp only
    rw [if_pos rfl, if_pos rfl]
    unfold pentroughlaw23_theirs.f
    rw [Option.bind_some]
    dsimp only
    rw [same_selfE, Option.bind_some, if_pos rfl, e3]
    exact ih (i + 1) k (by omega) (by omega)
theorem Pure.ScriptBack (a b c : Int) (l x : List Int) (_ : (Lit.int .i64 a).wf = true) (_ : (Lit.int .i64 b).wf = true) (_ : (Lit.int .i64 c).wf = true) (hl : l.length ≤ maxLen) (hlb : ∀ n ∈ l, (Lit.int .u8 n).wf = true) (_ : x.length ≤ maxLen) (hxb : ∀ n ∈ x, (Lit.int .u8 n).wf = true) : ∃ k, pentroughlaw23_ScriptBack.f k a b c l x = some true := by
  have hb := byt_of_wf hlb
  have hx := byt_of_wf hxb
  refine ⟨102, ?_⟩
  have hno : pentroughlaw23_ScriptBack.j0 102 x true true a b c l = some true := by rw [pentroughlaw23_ScriptBack.j0, if_pos rfl]
  unfold pentroughlaw23_ScriptBack.f pentroughlaw23_awake.f
  rw [Option.bind_some]
  by_cases h5 : (l.length : Int) > 5000
  · rw [if_pos h5]; exact hno
  rw [if_neg h5]
  by_cases h4 : (x.length : Int) > 200
  · rw [decide_eq_true h4]; exact hno
  rw [decide_eq_false h4, pentroughlaw23_ScriptBack.j0, if_neg (by decide)]
  unfold pentroughlaw23_ours.f
  rw [Option.bind_some]
  dsimp only
  by_cases hf : Fine a b c l
  · have h1 := putE_len hf
    rw [put_yes hf 101 (by decide), Option.bind_some, Option.bind_some]
    dsimp only
    rw [sane_yes hf 101 (by decide), Option.bind_some, if_pos rfl, Option.bind_some, if_pos (by simp; omega), Option.bind_some, if_pos (by simp; omega), List.nil_append, get_put hf hb x hx 101 (by decide) (by omega), Option.bind_some]
    dsimp only
    rw [if_pos rfl, if_pos rfl]
    unfold pentroughlaw23_theirs.f
    rw [Option.bind_some]
    dsimp only
    rw [same_selfE, Option.bind_some]
    rw [show (101 : Nat) = 100 + 1 from rfl, pentroughlaw23_ScriptBack.j1, if_neg (by decide)]
    exact back_loop hf hb (by omega) (min (putE a b c l).length 40) 0 100 (by omega) (by omega)
  · rw [put_no hf 101 (by decide), Option.bind_some, Option.bind_some]
    dsimp only
    rw [sane_no hf 101 (by decide), Option.bind_some, if_neg (by decide), if_pos rfl]
    rfl
end Go.Proofs.Ytdnglfodlhhikaa.Q
