/- There is room for two blocks in a channel: the plain part. -/
import Derived.Test.YtneomcnfbnfjbaaQ5
import Derived.Test.YtneomcnfbnfjbaaPureLib
namespace Go.Proofs.Ytneomcnfbnfjbaa.Pure
open Go.RowKit Go.Proofs.Ytneomcnfbnfjbaa.Q Go.Proofs.YtneomcnfbnfjbaaW.PrintWords Go.Proofs.YtneomcnfbnfjbaaW.PrintLast Go.Proofs.YtneomcnfbnfjbaaW.PrintMore

theorem one_fits (x : Int) : fitsB [x] = true := rfl
theorem room_step (k : Nat) (hk : 4 < k) (x : Int) (l : List (List Int)) (n : Nat) (h : saneB l = true) (hl : l.length = n) (hn : n < 2) :
    pentroughlaw16_ChansRoom.l0 (k + 1) x true n l false = pentroughlaw16_ChansRoom.l0 k x true ((n + 1 : Nat) : Int) (l ++ [[x]]) false := by
  have e3 : wrap64 ((n : Int) + 1) = ((n + 1 : Nat) : Int) := by unfold wrap64; omega
  rw [pentroughlaw16_ChansRoom.l0, if_pos (by omega), Put_val l false [x] (by omega) k (by omega), Option.bind_some, put_room h (by omega) (one_fits x)]
  simp only
  rw [decide_eq_true (by omega), if_neg (by decide), e3]
theorem room_stay (k : Nat) (hk : 4 < k) (x : Int) (l : List (List Int)) (n : Nat) (h : saneB l = true) (hl : l.length = 2) (hn : 2 ≤ n) (hn4 : n < 4) :
    pentroughlaw16_ChansRoom.l0 (k + 1) x true n l false = pentroughlaw16_ChansRoom.l0 k x true ((n + 1 : Nat) : Int) l false := by
  have e3 : wrap64 ((n : Int) + 1) = ((n + 1 : Nat) : Int) := by unfold wrap64; omega
  rw [pentroughlaw16_ChansRoom.l0, if_pos (by omega), Put_val l false [x] (by omega) k (by omega), Option.bind_some, put_full h hl]
  simp only
  rw [decide_eq_false (by omega), if_neg (by decide), e3]
theorem room_end (k : Nat) (hk : 4 < k) (x : Int) (l : List (List Int)) (h : saneB l = true) (hl : l.length = 2) :
    pentroughlaw16_ChansRoom.l0 (k + 1) x true ((4 : Nat) : Int) l false = some true := by
  match l, hl, h with
  | [a, b], _, h =>
    have hf := (sane_is h).2 a (by simp)
    have := (fitsB_iff a).1 hf
    rw [pentroughlaw16_ChansRoom.l0, if_neg (by decide), Take_val [a, b] false (by simp) k (by simp; omega), Option.bind_some, take_cons h]
    simp only
    rw [Put_val [b] false [x] (by simp) k (by simp; omega), Option.bind_some, put_room (sane_tail h) (by simp) (one_fits x)]
    simp only [if_true]
    rw [if_pos (by omega)]
    rfl
theorem ChansRoom (l : List (List Int)) (b : Bool) (x : Int) (hl : l.length ≤ 9223372036854775807) (_ : ∀ a ∈ l, a.length ≤ maxLen ∧ ∀ n ∈ a, (Lit.int .i64 n).wf = true) (_ : (Lit.int .i64 x).wf = true) : ∃ k, pentroughlaw16_ChansRoom.f k l b x = some true := by
  refine ⟨l.length + 20, ?_⟩
  unfold pentroughlaw16_ChansRoom.f
  rw [awake_val, few_val l b hl _ (by omega)]
  simp only [Option.bind_some]
  by_cases hf : fewB l = true
  · rw [if_pos hf, ours_val]
    simp only [Option.bind_some]
    rw [chans_Sane.is l b hl _ (by omega), Option.bind_some]
    by_cases hs : saneB l = true
    · rw [if_pos hs, pentroughlaw16_ChansRoom.j0]
      cases b with
      | true => rw [if_pos rfl]
      | false =>
        rw [if_neg (by decide), ours_val, Option.bind_some]
        have h2 := (sane_is hs).1
        simp only
        have hlen : l.length = 0 ∨ l.length = 1 ∨ l.length = 2 := by omega
        rcases hlen with h0 | h0 | h0
        · rw [show l.length + 19 = 14 + 1 + 1 + 1 + 1 + 1 from by omega]
          rw [room_step _ (by omega) x l l.length hs rfl (by omega), h0]
          have s1 := sane_app hs (by omega) (one_fits x)
          rw [room_step _ (by omega) x _ 1 s1 (by simp [h0]) (by omega)]
          have s2 := sane_app s1 (by simp [h0]) (one_fits x)
          rw [room_stay _ (by omega) x _ 2 s2 (by simp [h0]) (by omega) (by omega), room_stay _ (by omega) x _ 3 s2 (by simp [h0]) (by omega) (by omega)]
          exact room_end _ (by omega) x _ s2 (by simp [h0])
        · rw [show l.length + 19 = 16 + 1 + 1 + 1 + 1 from by omega]
          rw [room_step _ (by omega) x l l.length hs rfl (by omega), h0]
          have s2 := sane_app hs (by omega) (one_fits x)
          rw [room_stay _ (by omega) x _ 2 s2 (by simp [h0]) (by omega) (by omega), room_stay _ (by omega) x _ 3 s2 (by simp [h0]) (by omega) (by omega)]
          exact room_end _ (by omega) x _ s2 (by simp [h0])
        · rw [show l.length + 19 = 18 + 1 + 1 + 1 from by omega, h0]
          rw [room_stay _ (by omega) x l 2 hs h0 (by omega) (by omega), room_stay _ (by omega) x l 3 hs h0 (by omega) (by omega)]
          exact room_end _ (by omega) x l hs h0
    · rw [if_neg hs, pentroughlaw16_ChansRoom.j0, if_pos rfl]
  · rw [if_neg hf, pentroughlaw16_ChansRoom.j0, if_pos rfl]
end Go.Proofs.Ytneomcnfbnfjbaa.Pure
