/- Behind the end nothing arrives: the plain law. -/
import Derived.Test.YtocmnggcbpdnjaaPureLib
import Derived.Test.YtocmnggcbpdnjaaQ6
import Derived.Test.YtocmnggcbpdnjaaQ7
namespace Go.Proofs.Ytocmnggcbpdnjaa.Q
open Go.RowKit Go.Proofs.YtocmnggcbpdnjaaW.PrintWords Go.Proofs.YtocmnggcbpdnjaaW.PrintMore
set_option linter.unusedVariables false
theorem finish_ok {l : List Int} {b : Bool} {a : Int} {o : List Int} (h : okW l a = true) : wire_Finish.f l b a o = some (l, true, a, o) := by
  unfold wire_Finish.f
  rw [sane_ok h, Option.bind_some]
theorem Pure.WireEnds (l : List Int) (b : Bool) (a : Int) (o : List Int) (x : List Int) (_ : l.length ≤ maxLen) (_ : ∀ n ∈ l, (Lit.int .u8 n).wf = true) (_ : (Lit.int .i64 a).wf = true) (_ : o.length ≤ maxLen) (_ : ∀ n ∈ o, (Lit.int .u8 n).wf = true) (_ : x.length ≤ maxLen) (_ : ∀ n ∈ x, (Lit.int .u8 n).wf = true) : ∃ k, pentroughlaw19_WireEnds.f k l b a o x = some true := by
  refine ⟨1, ?_⟩
  unfold pentroughlaw19_WireEnds.f
  refine guard (K := fun t => pentroughlaw19_WireEnds.j0 1 x true t l b a o) ?_ ?_
  · show pentroughlaw19_WireEnds.j0 1 x true true l b a o = some true
    simp only [pentroughlaw19_WireEnds.j0, if_true]
  · intro h1 h2 h3 hk
    show pentroughlaw19_WireEnds.j0 1 x true false l b a o = some true
    have hl := ((okW_iff l a).1 hk).1
    simp only [pentroughlaw19_WireEnds.j0, Bool.false_eq_true, if_false, if_true]
    unfold pentroughlaw19_ours.f
    rw [Option.bind_some]
    dsimp only
    rw [finish_ok hk, Option.bind_some]
    dsimp only
    rcases arrive_ok (b := true) (o := o) hk x (by omega) with ⟨_, e⟩ | ⟨e, _⟩ | ⟨e, _⟩
    · rw [e, Option.bind_some]
      dsimp only
      rw [read_ok hk, Option.bind_some]
      dsimp only
      have hr : rdN l 4096 = l.length := by unfold rdN; omega
      rw [hr, List.drop_eq_nil_of_le (Nat.le_refl _), List.take_of_length_le (Nat.le_refl _)]
      have h0 : okW [] a = true := by have := (okW_iff l a).1 hk; exact (okW_iff _ _).2 ⟨by simp, this.2⟩
      rw [waits_ok hk, waits_ok h0]
      simp
    · cases e
    · cases e
end Go.Proofs.Ytocmnggcbpdnjaa.Q
