import Derived.Test.YtdnglfodlhhikaaPureAll
import Derived.Test.YtdnglfodlhhikaaQ7
import Derived.Test.YtdnglfodlhhikaaQ10
namespace Go.Proofs.Ytdnglfodlhhikaa.Pure
open Go.RowKit Go.Proofs.Ytdnglfodlhhikaa.Q Go.Proofs.YtdnglfodlhhikaaW.PrintWords Go.Proofs.YtdnglfodlhhikaaW.PrintLast Go.Proofs.YtdnglfodlhhikaaW.PrintMore
set_option linter.unusedVariables false
set_option linter.unusedSimpArgs false
theorem rd27 (l : List S27) (i : Nat) (h : i < l.length) : rd_T27 l (i : Int) = l[i] := by
  unfold rd_T27
  rw [Int.toNat_natCast, List.getD_eq_getElem?_getD, List.getElem?_eq_getElem h, Option.getD_some]
theorem whole_loop (l : List Int) (h9 : l.length ≤ 1000) (evs : List S27) (q : Nat) (z : Int) (hq : q ≤ l.length) (hf : ∀ e ∈ evs, FineS e) (hp : (evs.map putB).flatten = l.take q) (hz : z = 0 ↔ q = l.length) (he : evs.length ≤ q) :
    ∀ (n i : Nat) (k : Nat), i ≤ evs.length → evs.length - i ≤ n → n + 8 ≤ k → pentroughlaw23_ScriptWhole.l0 k l true evs (q : Int) z ((evs.take i).map putB).flatten (i : Int) = some true := by
  have hlen : ∀ i, ((evs.take i).map putB).flatten.length ≤ 1000 := by
    intro i
    have h := congrArg List.length hp
    have h2 : (evs.map putB).flatten = ((evs.take i).map putB).flatten ++ ((evs.drop i).map putB).flatten := by rw [← List.flatten_append, ← List.map_append, List.take_append_drop]
    rw [h2, List.length_append, List.length_take] at h
    omega
  have hend : ∀ k, pentroughlaw23_ScriptWhole.l0 (k + 1) l true evs (q : Int) z ((evs.take evs.length).map putB).flatten (evs.length : Int) = some true := by
    intro k
    rw [pentroughlaw23_ScriptWhole.l0, if_neg (by omega), if_pos rfl, if_pos (by omega), if_pos (by omega), if_pos (by omega), List.take_length, hp, Int.toNat_natCast, if_pos rfl]
    by_cases hz0 : z = 0
    · have hq2 := hz.mp hz0
      rw [hz0, hq2]; simp
    · have hq2 : ¬ q = l.length := fun h => hz0 (hz.mpr h)
      have h1 : (z == 0) = false := beq_eq_false_iff_ne.mpr hz0
      have h2 : ((q : Int) == (l.length : Int)) = false := beq_eq_false_iff_ne.mpr (by omega)
      rw [h1, h2]; rfl
  intro n
  induction n with
  | zero =>
    intro i k h1 h2 hk
    obtain ⟨k, rfl⟩ : ∃ p, k = p + 1 := ⟨k - 1, by omega⟩
    obtain rfl : i = evs.length := by omega
    exact hend k
  | succ n ih =>
    intro i k h1 h2 hk
    obtain ⟨k, rfl⟩ : ∃ p, k = p + 1 := ⟨k - 1, by omega⟩
    by_cases hd : i < evs.length
    · rw [pentroughlaw23_ScriptWhole.l0, if_pos (by omega), if_pos (by omega), rd27 evs i hd, put_yes (hf _ (List.getElem_mem hd)) k (by omega), Option.bind_some]
      have e : ((evs.take (i + 1)).map putB).flatten = ((evs.take i).map putB).flatten ++ putE evs[i].f0 evs[i].f1 evs[i].f2 evs[i].f3 := by
        rw [List.take_succ_eq_append_getElem hd, List.map_append, List.flatten_append]
        simp [putB]
      have hl := hlen (i + 1)
      rw [e, List.length_append] at hl
      rw [if_pos (by omega), ← e, wrap_sum _ (by omega) (by omega), show (i : Int) + 1 = ((i + 1 : Nat) : Int) from by omega]
      exact ih (i + 1) k (by omega) (by omega) (by omega)
    · obtain rfl : i = evs.length := by omega
      exact hend k
theorem ScriptWhole : pentroughlaw23_ScriptWhole.Pure := by
  intro l _ _ hl
  have hb := byt_of_wf hl
  refine ⟨l.length + 20, ?_⟩
  unfold pentroughlaw23_ScriptWhole.f pentroughlaw23_awake.f
  rw [Option.bind_some]
  by_cases h5 : (l.length : Int) > 1000
  · rw [if_pos h5]
  rw [if_neg h5]
  obtain ⟨evs, q, z, g1, g2, g3, g4, g5, g6⟩ := all_is l hb (by omega) (l.length + 20) (by omega)
  rw [g1, Option.bind_some]
  exact whole_loop l (by omega) evs q z g2 g3 g4 g5 g6 evs.length 0 (l.length + 20) (by omega) (by omega) (by omega)
end Go.Proofs.Ytdnglfodlhhikaa.Pure
