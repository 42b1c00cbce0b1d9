/- What the functions of a wire answer, of a wire that may be. -/
import Derived.Test.YtocmnggcbpdnjaaI3
import Derived.Test.YtocmnggcbpdnjaaI4
namespace Go.Proofs.Ytocmnggcbpdnjaa.I
open Go.RowKit Go.Proofs.YtocmnggcbpdnjaaW.PrintWords Go.Proofs.YtocmnggcbpdnjaaW.PrintMore
set_option linter.unusedVariables false
theorem wf_i64 {n : Int} (h : (Lit.int .i64 n).wf = true) : -9223372036854775808 ≤ n ∧ n ≤ 9223372036854775807 := by
  simp [Lit.wf, IntKind.min, IntKind.max, IntKind.bits, IntKind.signed] at h
  exact ⟨by omega, by omega⟩
theorem sane_ok {l : List Int} {b : Bool} {a : Int} {o : List Int} (h : okW l a = true) : wire_sane.f l b a o = some (l, b, a, o) := by
  rw [sane_val]; unfold asI asB asA asO; rw [if_pos h, if_pos h, if_pos h, if_pos h]
theorem arrive_ok {l : List Int} {b : Bool} {a : Int} {o : List Int} (h : okW l a = true) (x : List Int) (hx : x.length ≤ 9223372036854775807) :
    (b = true ∧ wire_Arrive.f l b a o x = some (l, b, a, o, 2)) ∨ (b = false ∧ 4096 < l.length + x.length ∧ wire_Arrive.f l b a o x = some (l, b, a, o, 3)) ∨ (b = false ∧ l.length + x.length ≤ 4096 ∧ wire_Arrive.f l b a o x = some (l ++ x, b, a, o, 0)) := by
  have hl := ((okW_iff l a).1 h).1
  unfold wire_Arrive.f
  rw [sane_ok h, Option.bind_some]
  dsimp only
  rw [show wrap64 (4096 - (l.length : Int)) = 4096 - (l.length : Int) by unfold wrap64; omega]
  cases b with
  | true => exact .inl ⟨rfl, by rw [if_pos rfl]⟩
  | false =>
    rw [if_neg (by decide)]
    by_cases c : (x.length : Int) > 4096 - (l.length : Int)
    · exact .inr (.inl ⟨rfl, by omega, by rw [if_pos c]⟩)
    · refine .inr (.inr ⟨rfl, by omega, ?_⟩)
      rw [if_neg c]
      simp only [Option.bind_some, List.nil_append, List.length_nil, Nat.zero_add]
      rw [if_pos (by omega), if_pos (by omega)]
theorem grant_ok {l : List Int} {b : Bool} {a : Int} {o : List Int} (h : okW l a = true) (n : Int) (h0 : -9223372036854775808 ≤ n) (h1 : n ≤ 9223372036854775807) :
    (n < 0 ∧ wire_Grant.f l b a o n = some (l, b, a, o, 2)) ∨ (0 ≤ n ∧ 4096 - a < n ∧ wire_Grant.f l b a o n = some (l, b, a, o, 3)) ∨ (0 ≤ n ∧ a + n ≤ 4096 ∧ wire_Grant.f l b a o n = some (l, b, a + n, o, 0)) := by
  have hl := (okW_iff l a).1 h
  unfold wire_Grant.f
  rw [sane_ok h, Option.bind_some]
  dsimp only
  rw [show wrap64 (4096 - a) = 4096 - a by unfold wrap64; omega]
  by_cases c : n < 0
  · exact .inl ⟨c, by rw [if_pos c]⟩
  · rw [if_neg c]
    by_cases d : n > 4096 - a
    · exact .inr (.inl ⟨by omega, d, by rw [if_pos d]⟩)
    · refine .inr (.inr ⟨by omega, by omega, ?_⟩)
      rw [if_neg d, show wrap64 (a + n) = a + n by unfold wrap64; omega]
/-- How many bytes are written. -/
def wrN (a : Int) (x : List Int) : Nat := min x.length a.toNat
theorem write_ok {l : List Int} {b : Bool} {a : Int} {o : List Int} (h : okW l a = true) (x : List Int) (hx : x.length ≤ 1000000) (ho : o.length ≤ 1000000000) :
    wire_Write.f l b a o x = some (l, b, a - wrN a x, o ++ x.take (wrN a x), (wrN a x : Int)) := by
  have hl := (okW_iff l a).1 h
  unfold wire_Write.f wrN
  rw [sane_ok h, Option.bind_some]
  dsimp only
  rw [if_neg (show ¬ a < 0 by omega)]
  obtain ⟨k, rfl⟩ : ∃ k : Nat, a = (k : Int) := ⟨a.toNat, by omega⟩
  simp only [Option.bind_some, List.nil_append, List.length_nil, Nat.zero_add, Int.toNat_natCast]
  by_cases c : (x.length : Int) > (k : Int)
  · rw [if_pos c, if_pos (by omega), if_pos (show 0 ≤ (k : Int) by omega), if_pos (by omega), if_pos (by rw [List.length_take]; omega), Nat.min_eq_right (by omega)]
    rw [show wrap64 ((k : Int) - (k : Int)) = (k : Int) - (k : Int) by unfold wrap64; omega]
  · rw [if_neg c, if_pos (by omega), if_pos (show 0 ≤ (x.length : Int) by omega), if_pos (Int.le_refl _), if_pos (by rw [List.length_take]; omega), Nat.min_eq_left (by omega)]
    rw [show wrap64 ((k : Int) - (x.length : Int)) = (k : Int) - (x.length : Int) by unfold wrap64; omega]
/-- How many bytes are read. -/
def rdN (l : List Int) (n : Int) : Nat := min l.length n.toNat
theorem read_ok {l : List Int} {b : Bool} {a : Int} {o : List Int} (h : okW l a = true) (n : Int) :
    wire_Read.f l b a o n = some (l.drop (rdN l n), b, a, o, l.take (rdN l n)) := by
  have hl := (okW_iff l a).1 h
  unfold wire_Read.f rdN
  rw [sane_ok h, Option.bind_some]
  dsimp only
  by_cases c : n < 1
  · rw [if_pos c, show n.toNat = 0 by omega, Nat.min_zero]; rfl
  · rw [if_neg c]
    by_cases d : n > (l.length : Int)
    · rw [if_pos d, if_pos (by omega), if_pos (Int.le_refl _), Int.toNat_natCast, Nat.min_eq_left (by omega)]
    · rw [if_neg d, if_pos (by omega), if_pos (by omega), Nat.min_eq_right (by omega)]
theorem waits_ok {l : List Int} {b : Bool} {a : Int} {o : List Int} (h : okW l a = true) : wire_Waits.f l b a o = some (decide (l = []) && !b) := by
  unfold wire_Waits.f
  rw [sane_ok h, Option.bind_some]
  dsimp only
  cases l with
  | nil => rw [if_pos (by simp)]; simp
  | cons x t => rw [if_neg (by simp only [List.length_cons]; omega)]; simp
theorem ok_drop {l : List Int} {a : Int} (h : okW l a = true) (k : Nat) : okW (l.drop k) a = true := by
  have := (okW_iff l a).1 h
  exact (okW_iff _ _).2 ⟨by rw [List.length_drop]; omega, this.2⟩
/-- A law's guard: few, small, and one that may be. -/
theorem guard {K : Bool → Option Bool} {l : List Int} {b : Bool} {a : Int} {o : List Int} {x : List Int} (hno : K true = some true)
    (hyes : l.length ≤ 5000 → o.length ≤ 1000 → x.length ≤ 5000 → okW l a = true → K false = some true) :
    ((pentroughlaw19_awake.f).bind fun t => ((pentroughref19_Few.f l b a o).bind fun t256 => (if t256 = true then (if (x.length : Int) > 5000 then K true else ((pentroughlaw19_ours.f l b a o).bind fun bt257 => ((wire_Sane.f bt257.1 bt257.2.1 bt257.2.2.1 bt257.2.2.2).bind fun t265 => K (!t265)))) else K true))) = some true := by
  unfold pentroughlaw19_awake.f
  rw [Option.bind_some]
  unfold pentroughref19_Few.f
  by_cases c1 : (l.length : Int) ≤ 5000
  · rw [if_pos c1, Option.bind_some]
    by_cases c2 : (o.length : Int) ≤ 1000
    · rw [if_pos (decide_eq_true c2)]
      by_cases c3 : (x.length : Int) > 5000
      · rw [if_pos c3]; exact hno
      · rw [if_neg c3]
        unfold pentroughlaw19_ours.f
        rw [Option.bind_some]
        dsimp only
        rw [Sane_val, Option.bind_some]
        cases hk : okW l a with
        | true => exact hyes (by omega) (by omega) (by omega) hk
        | false => exact hno
    · rw [if_neg (by simpa using c2)]; exact hno
  · rw [if_neg c1, Option.bind_some, if_neg (by decide)]; exact hno
end Go.Proofs.Ytocmnggcbpdnjaa.I
