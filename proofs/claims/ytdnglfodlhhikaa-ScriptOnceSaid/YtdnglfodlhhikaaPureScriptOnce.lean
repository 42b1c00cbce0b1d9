import Derived.Test.YtdnglfodlhhikaaPureEv
import Derived.Test.YtdnglfodlhhikaaQ7
import Derived.Test.YtdnglfodlhhikaaQ8
namespace Go.Proofs.Ytdnglfodlhhikaa.Pure
open Go.RowKit Go.Proofs.Ytdnglfodlhhikaa.Q Go.Proofs.YtdnglfodlhhikaaW.PrintWords Go.Proofs.YtdnglfodlhhikaaW.PrintLast Go.Proofs.YtdnglfodlhhikaaW.PrintMore
set_option linter.unusedVariables false
set_option linter.unusedSimpArgs false
theorem ScriptOnce : pentroughlaw23_ScriptOnce.Pure := by
  intro l _ _ hl
  have hb := byt_of_wf hl
  refine ⟨8, ?_⟩
  unfold pentroughlaw23_ScriptOnce.f pentroughlaw23_awake.f
  rw [Option.bind_some]
  by_cases h5 : (l.length : Int) > 5000
  · rw [if_pos h5]
  rw [if_neg h5]
  obtain ⟨r, hr, h⟩ := get_is l hb 8 (by decide)
  rw [hr, Option.bind_some]
  rcases h with ⟨k, i, m, b, n, rest, rfl, hf, hbb, e, hn⟩ | ⟨z, rfl, hz⟩
  · dsimp only
    have h1 : 1 ≤ (putE k i m b).length := by simp [putE]
    have h2 : (putE k i m b).length ≤ l.length := by rw [e]; simp
    rw [if_pos rfl, if_pos rfl, sane_yes hf 8 (by decide), Option.bind_some, if_pos rfl, if_pos (by omega), if_pos (by omega), put_yes hf 8 (by decide), Option.bind_some, if_pos (by omega)]
    have e2 : l.take n.toNat = putE k i m b := by
      rw [hn, Int.toNat_natCast, e, List.take_left']
      rfl
    rw [e2]
    simp
  · dsimp only
    rw [if_neg hz, if_pos rfl, if_pos rfl]
    simp [pentroughlaw23_theirs.f, pentroughref23_Same.f]
end Go.Proofs.Ytdnglfodlhhikaa.Pure
