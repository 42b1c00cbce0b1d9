/- Of any wire, bytes and number: the plain law. -/
import Derived.Test.YtocmnggcbpdnjaaPureLibI
import Derived.Test.YtocmnggcbpdnjaaI5
import Derived.Test.YtocmnggcbpdnjaaI6
import Derived.Test.YtocmnggcbpdnjaaI7
namespace Go.Proofs.Ytocmnggcbpdnjaa.I
open Go.RowKit Go.Proofs.YtocmnggcbpdnjaaW.PrintWords Go.Proofs.YtocmnggcbpdnjaaW.PrintMore
set_option linter.unusedVariables false
set_option linter.unusedSimpArgs false
theorem RefSane_eq (l : List Int) (b : Bool) (a : Int) (o : List Int) : pentroughref19_Sane.f l b a o = wire_Sane.f l b a o := by unfold pentroughref19_Sane.f wire_Sane.f; rfl
theorem RefAs_eq (l : List Int) (b : Bool) (a : Int) (o : List Int) : pentroughref19_As.f l b a o = wire_sane.f l b a o := by
  unfold pentroughref19_As.f wire_sane.f
  rw [RefSane_eq]
theorem RefArrive_eq (l : List Int) (b : Bool) (a : Int) (o x : List Int) : pentroughref19_Arrive.f l b a o x = wire_Arrive.f l b a o x := by
  unfold pentroughref19_Arrive.f wire_Arrive.f
  rw [RefAs_eq]
theorem RefGrant_eq (l : List Int) (b : Bool) (a : Int) (o : List Int) (n : Int) : pentroughref19_Grant.f l b a o n = wire_Grant.f l b a o n := by
  unfold pentroughref19_Grant.f wire_Grant.f
  rw [RefAs_eq]
theorem RefRead_eq (l : List Int) (b : Bool) (a : Int) (o : List Int) (n : Int) : pentroughref19_Read.f l b a o n = wire_Read.f l b a o n := by
  unfold pentroughref19_Read.f wire_Read.f
  rw [RefAs_eq]
theorem RefFinish_eq (l : List Int) (b : Bool) (a : Int) (o : List Int) : pentroughref19_Finish.f l b a o = wire_Finish.f l b a o := by
  unfold pentroughref19_Finish.f wire_Finish.f
  rw [RefAs_eq]
theorem RefWaits_eq (l : List Int) (b : Bool) (a : Int) (o : List Int) : pentroughref19_Waits.f l b a o = wire_Waits.f l b a o := by
  unfold pentroughref19_Waits.f wire_Waits.f
  rw [RefAs_eq, sane_val, Option.bind_some, Option.bind_some, Option.bind_some]
theorem asA_nonneg (l : List Int) (a : Int) : ¬ asA l a < 0 := by
  unfold asA
  by_cases h : okW l a = true
  · rw [if_pos h]; have := (okW_iff l a).1 h; omega
  · rw [if_neg h]; decide
theorem RefWrite_eq (l : List Int) (b : Bool) (a : Int) (o x : List Int) : pentroughref19_Write.f l b a o x = wire_Write.f l b a o x := by
  unfold pentroughref19_Write.f wire_Write.f
  rw [RefAs_eq, sane_val]
  simp only [Option.bind_some, if_neg (asA_nonneg l a)]
theorem as_okW (l : List Int) (a : Int) : okW (asI l a) (asA l a) = true := by
  by_cases h : okW l a = true
  · unfold asI asA; rw [if_pos h, if_pos h]; exact h
  · unfold asI asA; rw [if_neg h, if_neg h]; decide
theorem sane_asW (l : List Int) (b : Bool) (a : Int) (o : List Int) : wire_sane.f l b a o = wire_sane.f (asI l a) (asB l b a) (asA l a) (asO l a o) := by
  rw [sane_val, sane_ok (as_okW l a)]
theorem asO_le (l : List Int) (a : Int) (o : List Int) : (asO l a o).length ≤ o.length := by
  unfold asO
  by_cases h : okW l a = true
  · rw [if_pos h]; exact Nat.le_refl _
  · rw [if_neg h]; exact Nat.zero_le _
theorem arrive_any (l : List Int) (b : Bool) (a : Int) (o x : List Int) (hx : x.length ≤ 5000) : ∃ r, wire_Arrive.f l b a o x = some r := by
  have e : wire_Arrive.f l b a o x = wire_Arrive.f (asI l a) (asB l b a) (asA l a) (asO l a o) x := by unfold wire_Arrive.f; rw [← sane_asW]
  rw [e]
  rcases arrive_ok (b := asB l b a) (o := asO l a o) (as_okW l a) x (by omega) with ⟨_, e⟩ | ⟨_, _, e⟩ | ⟨_, _, e⟩ <;> exact ⟨_, e⟩
theorem grant_any (l : List Int) (b : Bool) (a : Int) (o : List Int) (n : Int) (h0 : -9223372036854775808 ≤ n) (h1 : n ≤ 9223372036854775807) : ∃ r, wire_Grant.f l b a o n = some r := by
  have e : wire_Grant.f l b a o n = wire_Grant.f (asI l a) (asB l b a) (asA l a) (asO l a o) n := by unfold wire_Grant.f; rw [← sane_asW]
  rw [e]
  rcases grant_ok (b := asB l b a) (o := asO l a o) (as_okW l a) n h0 h1 with ⟨_, e⟩ | ⟨_, _, e⟩ | ⟨_, _, e⟩ <;> exact ⟨_, e⟩
theorem read_any (l : List Int) (b : Bool) (a : Int) (o : List Int) (n : Int) : ∃ r, wire_Read.f l b a o n = some r := by
  have e : wire_Read.f l b a o n = wire_Read.f (asI l a) (asB l b a) (asA l a) (asO l a o) n := by unfold wire_Read.f; rw [← sane_asW]
  rw [e, read_ok (as_okW l a)]
  exact ⟨_, rfl⟩
theorem write_any (l : List Int) (b : Bool) (a : Int) (o x : List Int) (hx : x.length ≤ 5000) (ho : o.length ≤ 1000) : ∃ r, wire_Write.f l b a o x = some r := by
  have e : wire_Write.f l b a o x = wire_Write.f (asI l a) (asB l b a) (asA l a) (asO l a o) x := by unfold wire_Write.f; rw [← sane_asW]
  have := asO_le l a o
  rw [e, write_ok (as_okW l a) x (by omega) (by omega)]
  exact ⟨_, rfl⟩
theorem waits_any (l : List Int) (b : Bool) (a : Int) (o : List Int) : ∃ r, wire_Waits.f l b a o = some r := by
  have e : wire_Waits.f l b a o = wire_Waits.f (asI l a) (asB l b a) (asA l a) (asO l a o) := by unfold wire_Waits.f; rw [← sane_asW]
  rw [e, waits_ok (as_okW l a)]
  exact ⟨_, rfl⟩
theorem finish_any (l : List Int) (b : Bool) (a : Int) (o : List Int) : ∃ r, wire_Finish.f l b a o = some r := by
  unfold wire_Finish.f
  rw [sane_val, Option.bind_some]
  exact ⟨_, rfl⟩
theorem same_selfW (l : List Int) (b : Bool) (a : Int) (o : List Int) : pentroughlaw19_same.f l b a o l b a o = some true := by
  unfold pentroughlaw19_same.f pentroughref19_Same.f
  simp
theorem is_j1 (k : Nat) (l : List Int) (b : Bool) (a : Int) (o x : List Int) (n : Int) (hx : x.length ≤ 5000) (ho : o.length ≤ 1000) : pentroughlaw19_WireIs.j1 (k + 1) x n true false l b a o = some true := by
  obtain ⟨⟨r1, r2, r3, r4, r5⟩, hr⟩ := read_any l b a o n
  obtain ⟨⟨s1, s2, s3, s4, s5⟩, hs⟩ := write_any l b a o x hx ho
  obtain ⟨v, hv⟩ := waits_any l b a o
  obtain ⟨⟨f1, f2, f3, f4⟩, hf⟩ := finish_any l b a o
  simp only [pentroughlaw19_WireIs.j1, Bool.false_eq_true, if_false, if_true, pentroughlaw19_ours.f, Option.bind_some, RefRead_eq, RefWrite_eq, RefWaits_eq, RefFinish_eq, RefSane_eq, Sane_val, hr, hs, hv, hf, same_selfW, beq_self_eq_true]
theorem Pure.WireIs (l : List Int) (b : Bool) (a : Int) (o : List Int) (x : List Int) (n : Int) (_ : l.length ≤ maxLen) (_ : ∀ n ∈ l, (Lit.int .u8 n).wf = true) (_ : (Lit.int .i64 a).wf = true) (_ : o.length ≤ maxLen) (_ : ∀ n ∈ o, (Lit.int .u8 n).wf = true) (_ : x.length ≤ maxLen) (_ : ∀ n ∈ x, (Lit.int .u8 n).wf = true) (hn : (Lit.int .i64 n).wf = true) : ∃ k, pentroughlaw19_WireIs.f k l b a o x n = some true := by
  have hw := wf_i64 hn
  refine ⟨2, ?_⟩
  have hno : pentroughlaw19_WireIs.j0 2 x n true true l b a o = some true := by simp only [pentroughlaw19_WireIs.j0, if_true]
  unfold pentroughlaw19_WireIs.f pentroughlaw19_awake.f
  rw [Option.bind_some]
  unfold pentroughref19_Few.f
  by_cases c1 : (l.length : Int) ≤ 5000
  · rw [if_pos c1, Option.bind_some]
    by_cases c2 : (o.length : Int) ≤ 1000
    · rw [if_pos (decide_eq_true c2)]
      by_cases c3 : (x.length : Int) > 5000
      · rw [decide_eq_true c3]; exact hno
      · rw [decide_eq_false c3]
        obtain ⟨⟨p1, p2, p3, p4, p5⟩, hp⟩ := arrive_any l b a o x (by omega)
        obtain ⟨⟨g1, g2, g3, g4, g5⟩, hg⟩ := grant_any l b a o n hw.1 hw.2
        simp only [pentroughlaw19_WireIs.j0, Bool.false_eq_true, if_false, if_true, pentroughlaw19_ours.f, Option.bind_some, RefArrive_eq, RefGrant_eq, hp, hg, same_selfW, Bool.not_true]
        exact is_j1 0 l b a o x n (by omega) (by omega)
    · rw [if_neg (by simpa using c2)]; exact hno
  · rw [if_neg c1, Option.bind_some, if_neg (by decide)]; exact hno
end Go.Proofs.Ytocmnggcbpdnjaa.I
