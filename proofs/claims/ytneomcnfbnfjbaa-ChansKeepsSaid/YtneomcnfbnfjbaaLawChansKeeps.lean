/- What is done to any channel leaves a channel, and what is not done leaves it as it counts; no condition. -/
import Derived.Test.YtneomcnfbnfjbaaRows
import Derived.Test.YtneomcnfbnfjbaaOpen
import Derived.Test.YtneomcnfbnfjbaaPureChansKeeps
import Derived.WalkKit
import Derived.ProofKit
import Derived.OpenShut
import Derived.ShutString
import Derived.ChangeOld
import Derived.Below
import Derived.SizedLaws
import Derived.Lib.SmallJoins
namespace Go.Proofs.Ytneomcnfbnfjbaa.chansKeeps
open Go.ChangeShapes Go.WideShapes Go.ChangeAt Go.RowKit Go.Proofs.Ytneomcnfbnfjbaa.Q Go.Proofs.Ytneomcnfbnfjbaa.Open Go.Proofs.YtneomcnfbnfjbaaW.PrintWords
open Go.ChangeMaps (open_string shut_string)
set_option linter.unusedVariables false
theorem own : ownKnob Try.prog.godebug = none := by kernel_rfl
theorem laidOut : laidOutB Try.prog = true := by kernel_rfl
theorem rowsOf : Opens Try.prog 22 (Kd.slice 32 (Kd.slice 3 (Kd.int .i64))) (fun xs => xs.length ≤ maxLen ∧ ∀ a ∈ xs, a.length ≤ maxLen ∧ ∀ n ∈ a, (Lit.int .i64 n).wf = true) := opens_slice Try.underlying22 (by kernel_rfl) (opens_slice Try.underlying32 (by kernel_rfl) (opens_int Try.underlying3))
theorem intsOf : Opens Try.prog 32 (Kd.slice 3 (Kd.int .i64)) (fun a => a.length ≤ maxLen ∧ ∀ n ∈ a, (Lit.int .i64 n).wf = true) := opens_slice Try.underlying32 (by kernel_rfl) (opens_int Try.underlying3)
set_option maxRecDepth 100000 in
theorem lifted (os : Os) (started : os.Started) (H : Type) (enc : TypeId × Value → H) :
    ReturnsInHanded {} Try.checked os 5 .any (Rows.chansKeepsSpec.pre6 enc Try.prog Try.f5 Rows.chansKeepsRow.domain false) (Rows.chansKeepsSpec.post enc Try.prog Try.f5 false true false false) := by
  refine returnsInHanded_of_change_sized (C := Try.checked) own started (by kernel_rfl) Try.func5
    (ChangeSpec.witness6 (enc := enc) (C := Try.checked) false ⟨#[], #[.agg #[.slice none 0 0, .bool false], .slice none 0 0], []⟩ 8 (by kernel_rfl) (by kernel_rfl) (by kernel_rfl) (by kernel_rfl)) ?_
  intro W base args ds gs before hval0 hW hcnd hsz0 _
  have hval : ∀ (j : Nat) t v, Try.f5.params[j]? = some t → args[j]? = some v → Value.okWide Try.prog W .any base t v := hval0
  have hW' := hW
  obtain ⟨p, q, hA0, hV, rfl, hfz, hnd⟩ := hW
  have hA : DataW.TrodAll enc Try.prog W 0 (fun _ => true) true Try.f5.params.toList args.toList ds p := hA0
  rw [Try.params5] at hA hval
  obtain ⟨v0, vs0, d0, ds0, p0, q0, hargs, rfl, rfl, h0, r0⟩ := trodAll_cons hA
  obtain ⟨v1, vs1, d1, ds1, p1, q1, rfl, rfl, rfl, h1, r1⟩ := trodAll_cons r0
  obtain ⟨rfl, rfl, rfl⟩ := trodAll_nil r1
  obtain rfl : args = #[v0, v1] := by cases args; simp_all
  obtain ⟨rfl, rfl⟩ := trodVars_none hV
  have k0 := h0
  have lt0 : ∀ x ∈ p0, x.block < W.heap.size := by obtain ⟨m, hm⟩ := k0; exact DataW.trod_lt m _ _ _ hm
  obtain ⟨u0_0, u0_1, y0_0, y0_1, m0, hv0, _, _, e0_0, e0_1⟩ := Go.Joins.open_agg2 Try.underlying24 (by kernel_rfl) (by kernel_rfl) (hval 0 24 v0 rfl rfl) h0
  obtain ⟨l0_0, A0_0, c0_0, rfl, hc0_0, hC0_0, b0_0⟩ := Opens.slice_field rowsOf e0_0
  obtain ⟨a0_1, rfl⟩ := bool_field Try.underlying4 e0_1
  subst hv0
  have k1 := h1
  have lt1 : ∀ x ∈ p1, x.block < W.heap.size := by obtain ⟨m, hm⟩ := k1; exact DataW.trod_lt m _ _ _ hm
  obtain ⟨A1, n1, c1, hv1⟩ := okWide_slice Try.underlying32 (hval 1 32 v1 rfl rfl)
  obtain ⟨l1, rfl, hc1, hC1, b1⟩ := Opens.slice_in intsOf hv1 h1
  subst hv1
  clear hA0 hval0 hsz0
  obtain ⟨k, h⟩ := Pure.ChansKeeps l0_0 a0_1 l1 b0_0.1 b0_0.2 b1.1 b1.2
  refine (pentroughlaw16_ChansKeeps.calls k A0_0 c0_0 l0_0 a0_1 A1 c1 l1 true W hC0_0 hc0_0 hC1 hc1 h ⟨rfl⟩).mono fun e W' he => ?_
  obtain ⟨he, bel⟩ := he
  subst he
  exact ⟨_, rfl, _, _, _, [], _, [], hW', trodAll_mk1 (shut_bool Try.underlying4 _), (trodAll_cons_mk (Below.trod laidOut (by kernel_rfl) (of_decide_eq_true (by kernel_rfl)) k0 bel lt0) (trodAll_cons_mk (Below.trod laidOut (by kernel_rfl) (of_decide_eq_true (by kernel_rfl)) k1 bel lt1) trodAll_mk0)), rfl, bel.frame _, fun h => by cases h⟩
theorem over : Rows.chansKeepsRow.holds Try.pinned (OpenSpec.ofChange Rows.chansKeepsSpec) :=
  OpenClaim.holds_of_wide 5 Try.f5 rfl rfl rfl rfl rfl rfl rfl ⟨rfl, rfl, rfl, rfl, rfl⟩ rfl rfl rfl rfl rfl (by kernel_rfl) Try.func5 (by kernel_rfl)
    (of_decide_eq_true (by kernel_rfl)) (by unfold Func.isWrapper; first | (rw [if_pos (by decide +kernel)]; kernel_rfl) | (rw [if_neg (by decide +kernel)]; exact ⟨rfl, rfl⟩))
    (fun os started H enc _ => lifted os started H enc)
theorem proved : Rows.ChansKeepsSaid := over
end Go.Proofs.Ytneomcnfbnfjbaa.chansKeeps
namespace Go.Proofs.Ytneomcnfbnfjbaa
/-- The row, under a short name, for the claim. -/
theorem chansKeeps_holds : Rows.ChansKeepsSaid := chansKeeps.proved
end Go.Proofs.Ytneomcnfbnfjbaa
