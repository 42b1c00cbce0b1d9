/- What is done leaves a channel: the plain part. -/
import Derived.Test.YtneomcnfbnfjbaaPureSame
import Derived.Test.YtneomcnfbnfjbaaQ10
namespace Go.Proofs.Ytneomcnfbnfjbaa.Pure
open Go.RowKit Go.Proofs.Ytneomcnfbnfjbaa.Q Go.Proofs.YtneomcnfbnfjbaaW.PrintWords Go.Proofs.YtneomcnfbnfjbaaW.PrintLast Go.Proofs.YtneomcnfbnfjbaaW.PrintMore
set_option linter.unusedVariables false
set_option linter.unusedSimpArgs false
theorem keeps_j1 (l : List (List Int)) (b : Bool) (x : List Int) (hx : x.length ≤ 20) (hs : saneB l = true) (k : Nat) (hk : 30 < k) (P : List (List Int)) (pb pk : Bool) (hP : saneB P = true) (hpk : pk = true → P = l ++ [x]) (T : List (List Int)) (tb tk : Bool) (hT : saneB T = true) (htk : tk = decide (0 < l.length)) :
    pentroughlaw16_ChansKeeps.j1 (k + 1) x true pk tk false l b P pb T tb l true = some true := by
  have hl2 := (sane_is hs).1
  have hP2 := (sane_is hP).1
  have hT2 := (sane_is hT).1
  have hc := cnt_le l hs
  have hcP := cnt_le P hP
  have hlen : (tk == decide ((l.length : Int) > 0)) = true := by rw [htk]; simp
  rw [pentroughlaw16_ChansKeeps.j1, if_neg (by decide), if_pos rfl, chans_Sane.is P pb (by omega) k (by omega), hP, Option.bind_some, if_pos rfl, chans_Sane.is T tb (by omega) k (by omega), hT, Option.bind_some, if_pos rfl, chans_Sane.is l true (by omega) k (by omega), hs, Option.bind_some, if_pos rfl, if_pos rfl]
  cases pk with
  | false => rw [if_neg (by decide), hlen]
  | true =>
    have e := hpk rfl
    rw [if_pos rfl, Count_val P pb (by omega) k (by omega), Option.bind_some, ours_val, Option.bind_some]
    dsimp only
    rw [Count_val l b (by omega) k (by omega), Option.bind_some, (asL_of hP true).1, (asL_of hs true).1, e, cnt_app, if_pos (by unfold wrap64; omega), hlen]
theorem keeps_j2 (x : List Int) (hx : x.length ≤ 20) (k : Nat) (hk : 30 < k) (P : List (List Int)) (pb pk : Bool) (hP : saneB P = true) (hpk : pk = true → P = [x]) :
    pentroughlaw16_ChansKeeps.j2 (k + 1) x true pk false false false P pb [] false [] true = some true := by
  have hP2 := (sane_is hP).1
  have hcP := cnt_le P hP
  rw [pentroughlaw16_ChansKeeps.j2, if_neg (by decide), if_pos rfl, chans_Sane.is P pb (by omega) k (by omega), hP, Option.bind_some, if_pos rfl, chans_Sane.is [] false (by simp) k (by simp; omega), Option.bind_some, if_pos (by rfl), chans_Sane.is [] true (by simp) k (by simp; omega), Option.bind_some, if_pos (by rfl), if_pos rfl]
  cases pk with
  | false => rw [if_neg (by decide)]; rfl
  | true =>
    have e := hpk rfl
    rw [if_pos rfl, Count_val P pb (by omega) k (by omega), Option.bind_some, ours_val, Option.bind_some]
    dsimp only
    rw [Count_val [] false (by simp) k (by simp; omega), Option.bind_some, (asL_of hP true).1, e, if_pos (by simp [cnt, asL]; unfold wrap64; omega)]
    rfl
theorem ChansKeeps (l : List (List Int)) (b : Bool) (x : List Int) (hl : l.length ≤ 9223372036854775807) (_ : ∀ a ∈ l, a.length ≤ maxLen ∧ ∀ n ∈ a, (Lit.int .i64 n).wf = true) (_ : x.length ≤ maxLen) (_ : ∀ n ∈ x, (Lit.int .i64 n).wf = true) : ∃ k, pentroughlaw16_ChansKeeps.f k l b x = some true := by
  refine ⟨l.length + 40, ?_⟩
  have hno : pentroughlaw16_ChansKeeps.j0 (l.length + 40) x true true l b = some true := by rw [pentroughlaw16_ChansKeeps.j0, if_pos rfl]
  unfold pentroughlaw16_ChansKeeps.f
  rw [awake_val, few_val l b hl _ (by omega)]
  simp only [Option.bind_some]
  by_cases hf : fewB l = true
  · rw [if_pos hf]
    by_cases hx : (x.length : Int) > 20
    · rw [decide_eq_true hx]; exact hno
    · rw [decide_eq_false hx, pentroughlaw16_ChansKeeps.j0, if_neg (by decide), ours_val, Option.bind_some]
      dsimp only
      rw [chans_Sane.is l b hl _ (by omega), Option.bind_some]
      have hP2 := put_two l b x
      have hT2 := take_two l b
      have hPv := Put_val l b x hl (l.length + 39) (by omega)
      have hTv := Take_val l b hl (l.length + 39) (by omega)
      have hCv := Close_val l b hl (l.length + 39) (by omega)
      by_cases hs : saneB l = true
      · rw [if_pos hs, Option.bind_some]
        obtain ⟨ea, ec⟩ := asL_of hs b
        rw [ea, ec] at hP2 hT2
        rw [ea] at hCv
        rw [show l.length + 39 = (l.length + 38) + 1 from rfl] at hPv hTv hCv ⊢
        have hss := csame_self l b hs (l.length + 38 + 1) (by omega)
        dsimp only
        have htail : ∀ (P : List (List Int)) (pb pk : Bool), saneB P = true → (pk = true → P = l ++ [x]) → ∀ (T : List (List Int)) (tb tk : Bool), saneB T = true → tk = decide (0 < l.length) → pentroughlaw16_ChansKeeps.j1 (l.length + 38 + 1) x true pk tk false l b P pb T tb l true = some true :=
          fun P pb pk h1 h2 T tb tk h3 h4 => keeps_j1 l b x (by omega) hs (l.length + 38) (by omega) P pb pk h1 h2 T tb tk h3 h4
        rcases hP2 with e | ⟨e, hb, hsx⟩ <;> rcases hT2 with ⟨e0, e2⟩ | ⟨y, t, e0, e2, hst⟩
        · simp only [hPv, hTv, hCv, e, e2, Option.bind_some, ours_val, Bool.false_eq_true, if_false, if_true]
          rw [hss, Option.bind_some, if_pos rfl]
          have h0 := csame_self l b hs (l.length + 38 + 1) (by omega)
          rw [e0] at h0
          rw [e0] at htail
          rw [e0]
          simp only [List.length_nil, Nat.zero_add] at h0 htail ⊢
          rw [h0, Option.bind_some]
          exact htail [] b false rfl (fun h => by cases h) [] b false rfl rfl
        · simp only [hPv, hTv, hCv, e, e2, Option.bind_some, ours_val, Bool.false_eq_true, if_false, if_true]
          rw [hss, Option.bind_some, if_pos rfl]
          exact htail l b false hs (fun h => by cases h) t b true hst (by rw [e0]; simp)
        · simp only [hPv, hTv, hCv, e, e2, Option.bind_some, ours_val, Bool.false_eq_true, if_false, if_true]
          have h0 := csame_self l b hs (l.length + 38 + 1) (by omega)
          rw [e0] at h0 htail hsx
          rw [e0]
          simp only [List.length_nil, Nat.zero_add, List.nil_append] at h0 htail hsx ⊢
          rw [h0, Option.bind_some]
          exact htail [x] b true hsx (fun _ => rfl) [] b false rfl rfl
        · simp only [hPv, hTv, hCv, e, e2, Option.bind_some, ours_val, Bool.false_eq_true, if_false, if_true]
          exact htail (l ++ [x]) b true hsx (fun _ => rfl) t b true hst (by rw [e0]; simp)
      · have ea : asL l = [] := by unfold asL; rw [if_neg hs]
        have ec : asC l b = false := by unfold asC; rw [if_neg hs]
        rw [if_neg hs, Option.bind_some]
        rw [ea, ec] at hP2 hT2
        rw [ea] at hCv
        rw [show l.length + 39 = (l.length + 38) + 1 from rfl] at hPv hTv hCv ⊢
        have hss := csame_self [] false rfl (l.length + 38 + 1) (by omega)
        dsimp only
        rcases hT2 with ⟨_, e2⟩ | ⟨y, t, e0, _⟩
        · rcases hP2 with e | ⟨e, hb, hsx⟩
          · simp only [hPv, hTv, hCv, e, e2, Option.bind_some, ours_val, Bool.false_eq_true, if_false, if_true]
            rw [hss, Option.bind_some, if_pos rfl]
            exact keeps_j2 x (by omega) (l.length + 38) (by omega) [] false false rfl (fun h => by cases h)
          · simp only [hPv, hTv, hCv, e, e2, Option.bind_some, ours_val, Bool.false_eq_true, if_false, if_true, List.nil_append]
            rw [hss, Option.bind_some]
            exact keeps_j2 x (by omega) (l.length + 38) (by omega) [x] false true hsx (fun _ => rfl)
        · cases e0
  · rw [if_neg hf]; exact hno
end Go.Proofs.Ytneomcnfbnfjbaa.Pure
