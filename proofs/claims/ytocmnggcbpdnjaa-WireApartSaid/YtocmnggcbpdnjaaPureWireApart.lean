/- The two ways are apart: the plain law. -/
import Derived.Test.YtocmnggcbpdnjaaPureLib
import Derived.Test.YtocmnggcbpdnjaaQ5
namespace Go.Proofs.Ytocmnggcbpdnjaa.Q
open Go.RowKit Go.Proofs.YtocmnggcbpdnjaaW.PrintWords Go.Proofs.YtocmnggcbpdnjaaW.PrintMore
set_option linter.unusedVariables false
theorem Pure.WireApart (l : List Int) (b : Bool) (a : Int) (o : List Int) (x : List Int) (n : Int) (_ : l.length ≤ maxLen) (_ : ∀ n ∈ l, (Lit.int .u8 n).wf = true) (_ : (Lit.int .i64 a).wf = true) (_ : o.length ≤ maxLen) (_ : ∀ n ∈ o, (Lit.int .u8 n).wf = true) (_ : x.length ≤ maxLen) (_ : ∀ n ∈ x, (Lit.int .u8 n).wf = true) (hn : (Lit.int .i64 n).wf = true) : ∃ k, pentroughlaw19_WireApart.f k l b a o x n = some true := by
  have hw := wf_i64 hn
  refine ⟨1, ?_⟩
  unfold pentroughlaw19_WireApart.f
  refine guard (K := fun t => pentroughlaw19_WireApart.j0 1 x n true t l b a o) ?_ ?_
  · show pentroughlaw19_WireApart.j0 1 x n true true l b a o = some true
    simp only [pentroughlaw19_WireApart.j0, if_true]
  · intro h1 h2 h3 hk
    show pentroughlaw19_WireApart.j0 1 x n true false l b a o = some true
    simp only [pentroughlaw19_WireApart.j0, Bool.false_eq_true, if_false, if_true]
    unfold pentroughlaw19_ours.f
    obtain ⟨y1, y2, e1⟩ : ∃ y1 y2, wire_Arrive.f l b a o x = some (y1, b, a, o, y2) := by
      rcases arrive_ok (b := b) (o := o) hk x (by omega) with ⟨_, e⟩ | ⟨_, _, e⟩ | ⟨_, _, e⟩ <;> exact ⟨_, _, e⟩
    obtain ⟨z1, z2, e3⟩ : ∃ z1 z2, wire_Grant.f l b a o n = some (l, b, z1, o, z2) := by
      rcases grant_ok (b := b) (o := o) hk n hw.1 hw.2 with ⟨_, e⟩ | ⟨_, _, e⟩ | ⟨_, _, e⟩ <;> exact ⟨_, _, e⟩
    have e4 := write_ok (b := b) (o := o) hk x (by omega) (by omega)
    simp only [Option.bind_some, e1, e3, read_ok hk, e4, if_true, beq_self_eq_true]
end Go.Proofs.Ytocmnggcbpdnjaa.Q
