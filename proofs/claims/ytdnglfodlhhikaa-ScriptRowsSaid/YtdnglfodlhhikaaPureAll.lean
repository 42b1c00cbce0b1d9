import Derived.Test.YtdnglfodlhhikaaPureEv
import Derived.Test.YtdnglfodlhhikaaQ9
namespace Go.Proofs.Ytdnglfodlhhikaa.Pure
open Go.RowKit Go.Proofs.Ytdnglfodlhhikaa.Q Go.Proofs.YtdnglfodlhhikaaW.PrintWords Go.Proofs.YtdnglfodlhhikaaW.PrintLast Go.Proofs.YtdnglfodlhhikaaW.PrintMore
set_option linter.unusedVariables false
set_option linter.unusedSimpArgs false
def FineS (e : S27) : Prop := Fine e.f0 e.f1 e.f2 e.f3
def putB (e : S27) : List Int := putE e.f0 e.f1 e.f2 e.f3
theorem putB_len (e : S27) : 1 ≤ (putB e).length := by simp [putB, putE]
theorem all_loop (l : List Int) (hl : Byt l) (h9 : l.length ≤ 100000) : ∀ (n at' : Nat) (acc : List S27) (k : Nat), at' ≤ l.length → l.length - at' ≤ n → n + 7 ≤ k → acc.length ≤ at' →
    ∃ evs q z, script_All.l0 k l acc at' = some (acc ++ evs, ((at' + q : Nat) : Int), z) ∧ at' + q ≤ l.length ∧ (∀ e ∈ evs, FineS e) ∧ (evs.map putB).flatten = (l.drop at').take q ∧ (z = 0 ↔ at' + q = l.length) ∧ evs.length ≤ q := by
  intro n
  induction n with
  | zero =>
    intro at' acc k h1 h2 hk h3
    obtain ⟨k, rfl⟩ : ∃ p, k = p + 1 := ⟨k - 1, by omega⟩
    refine ⟨[], 0, 0, ?_, by omega, by simp, by simp, ?_, by simp⟩
    · rw [script_All.l0, if_neg (by omega), List.append_nil]; rfl
    · constructor <;> intro _ <;> omega
  | succ n ih =>
    intro at' acc k h1 h2 hk h3
    obtain ⟨k, rfl⟩ : ∃ p, k = p + 1 := ⟨k - 1, by omega⟩
    by_cases hd : at' < l.length
    · rw [script_All.l0, if_pos (by omega), if_pos (by omega), if_pos (by omega), Int.toNat_natCast]
      obtain ⟨r, hr, h⟩ := get_is (l.drop at') (byt_drop hl at') k (by omega)
      rw [hr, Option.bind_some]
      rcases h with ⟨kk, i, m, b, q, rest, rfl, hf, hbb, e, hq⟩ | ⟨z, rfl, hz⟩
      · dsimp only
        have hp : 1 ≤ (putE kk i m b).length := by simp [putE]
        have hle : (putE kk i m b).length ≤ l.length - at' := by rw [← List.length_drop, e]; simp
        rw [if_pos rfl, if_pos (by omega), hq, wrap_sum _ (by omega) (by omega), show (at' : Int) + ((putE kk i m b).length : Int) = ((at' + (putE kk i m b).length : Nat) : Int) from by omega]
        obtain ⟨evs, q2, z, g1, g2, g3, g4, g5, g6⟩ := ih (at' + (putE kk i m b).length) (acc ++ [⟨kk, i, m, b⟩]) k (by omega) (by omega) (by omega) (by simp only [List.length_append, List.length_cons, List.length_nil]; omega)
        refine ⟨⟨kk, i, m, b⟩ :: evs, (putE kk i m b).length + q2, z, ?_, by omega, ?_, ?_, ?_, by simp only [List.length_cons]; omega⟩
        · rw [g1, List.append_assoc, Nat.add_assoc]; rfl
        · intro x hx
          rcases List.mem_cons.mp hx with rfl | hx
          · exact hf
          · exact g3 x hx
        · rw [List.map_cons, List.flatten_cons, g4, ← List.drop_drop, e, List.take_append, List.drop_append]
          simp only [List.drop_length, List.nil_append, Nat.sub_self, List.drop_zero, Nat.add_sub_cancel_left]
          rw [List.take_of_length_le (l := putE kk i m b) (by omega)]
          rfl
        · rw [g5]; omega
      · dsimp only
        rw [if_neg hz]
        refine ⟨[], 0, z, by rw [List.append_nil]; rfl, by omega, by simp, by simp, ?_, by simp⟩
        constructor
        · intro h; exact absurd h hz
        · intro h; omega
    · refine ⟨[], 0, 0, ?_, by omega, by simp, by simp, ?_, by simp⟩
      · rw [script_All.l0, if_neg (by omega), List.append_nil]; rfl
      · constructor <;> intro _ <;> omega
theorem all_is (l : List Int) (hl : Byt l) (h9 : l.length ≤ 100000) (k : Nat) (hk : l.length + 7 ≤ k) :
    ∃ evs q z, script_All.f k l = some (evs, ((q : Nat) : Int), z) ∧ q ≤ l.length ∧ (∀ e ∈ evs, FineS e) ∧ (evs.map putB).flatten = l.take q ∧ (z = 0 ↔ q = l.length) ∧ evs.length ≤ q := by
  obtain ⟨evs, q, z, g1, g2, g3, g4, g5, g6⟩ := all_loop l hl h9 l.length 0 [] k (by omega) (by omega) (by omega) (by simp)
  refine ⟨evs, q, z, ?_, by omega, g3, by rw [g4, List.drop_zero], by rw [g5]; omega, g6⟩
  unfold script_All.f
  rw [show (0 : Int) = ((0 : Nat) : Int) from rfl, g1, List.nil_append, Nat.zero_add]
end Go.Proofs.Ytdnglfodlhhikaa.Pure
