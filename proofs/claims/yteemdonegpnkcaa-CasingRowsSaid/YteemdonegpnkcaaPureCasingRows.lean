/- Values are folded one by one: the plain part. -/
import Derived.Test.YteemdonegpnkcaaQ6
import Derived.Test.YteemdonegpnkcaaPureLib
namespace Go.Proofs.Yteemdonegpnkcaa.Pure
open Go.RowKit Go.Proofs.Yteemdonegpnkcaa.Q Go.Proofs.YteemdonegpnkcaaW.PrintWords Go.Proofs.YteemdonegpnkcaaW.PrintLast
set_option linter.unusedVariables false

theorem CasingRows : pentroughlaw06_CasingRows.Pure := by
  intro a b _ _ ha _ _ hb
  refine ⟨1000, ?_⟩
  unfold pentroughlaw06_CasingRows.f
  rw [awake_val 1000 (by omega), Option.bind_some]
  by_cases c1 : (a.length : Int) > 60
  · rw [if_pos c1, pentroughlaw06_CasingRows.j0, if_pos rfl]
  rw [if_neg c1]
  by_cases c2 : (b.length : Int) > 60
  · rw [show decide ((b.length : Int) > 60) = true from decide_eq_true c2, pentroughlaw06_CasingRows.j0, if_pos rfl]
  rw [show decide ((b.length : Int) > 60) = false from decide_eq_false c2, pentroughlaw06_CasingRows.j0, if_neg (by decide)]
  have wa : ∀ x ∈ a, Wf x := fun x hx => wf_of (ha x hx)
  have wb : ∀ x ∈ b, Wf x := fun x hx => wf_of (hb x hx)
  have wab : ∀ x ∈ a ++ b, Wf x := fun x hx => (List.mem_append.1 hx).elim (wa x) (wb x)
  have fa := flat_len a
  have fb := flat_len b
  simp only [Option.bind_some, List.nil_append, List.length_nil, Nat.zero_add]
  rw [if_pos (by omega), if_pos (by omega), All_val a (by omega) wa 999 (by omega), Option.bind_some, if_pos (by omega), All_val b (by omega) wb 999 (by omega), Option.bind_some, if_pos (by omega), if_pos trivial, All_val (a ++ b) (by rw [List.length_append]; omega) wab 999 (by rw [List.length_append]; omega), Option.bind_some, List.flatMap_append, same_self _ (by rw [List.length_append]; omega) 999 (by rw [List.length_append]; omega), Option.bind_some, if_pos rfl]
  rw [decide_eq_true]
  rw [List.length_append, List.length_append]
  omega
end Go.Proofs.Yteemdonegpnkcaa.Pure
