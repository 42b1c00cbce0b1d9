/- What comes in, read as a printed kind: from the reading of the row's form ('trod') to the words of the printed functions. -/
import Derived.Test.YtneomcnfbnfjbaaWMore
import Derived.ProofKit
import Derived.OpenShut
import Derived.Deep.Slices
import Derived.Deep.Strs
import Derived.Lib.SmallJoins
namespace Go.Proofs.Ytneomcnfbnfjbaa.Open
open Go.RowKit Go.ChangeShapes Go.WideShapes Go.Proofs.YtneomcnfbnfjbaaW.PrintWords
set_option linter.unusedVariables false

/-- Whatever reads as type t is of kind d, and meets p. -/
structure Opens {α : Type} (P : Program) (t : TypeId) (d : Kd α) (p : α → Prop) : Prop where
  out : ∀ {H : Type} (enc : TypeId × Value → H) (w : World) (base : Nat) (spare : Nat → Bool) (held : Bool) (fuel : Nat) (cs : List Value) (x : DataW H × List MemPlace), DataW.trod enc P w base spare held fuel t cs = some x → ∃ a, d.K w a cs ∧ p a
section
variable {α β γ : Type} {P : Program} {t e : TypeId} {d : Kd α} {p : α → Prop}
theorem Opens.imp (h : Opens P t d p) {q : α → Prop} (hq : ∀ a, p a → q a) : Opens P t d q := ⟨fun enc w base spare held fuel cs x hx => by
  obtain ⟨a, hK, hp⟩ := h.out enc w base spare held fuel cs x hx
  exact ⟨a, hK, hq a hp⟩⟩
theorem opens_int {k : IntKind} (ht : P.underlying t = some (.int k)) : Opens P t (Kd.int k) (fun n => (Lit.int k n).wf = true) := ⟨fun enc w base spare held fuel cs x hx => by
  obtain ⟨n, rfl, _, hw⟩ := DataW.trod_int ht hx
  exact ⟨n, rfl, hw⟩⟩
theorem opens_bool (ht : P.underlying t = some .bool) : Opens P t Kd.bool (fun _ => True) := ⟨fun enc w base spare held fuel cs x hx => by
  obtain ⟨b, rfl, _⟩ := DataW.trod_bool ht hx
  exact ⟨b, rfl, trivial⟩⟩
theorem opens_slice (ht : P.underlying t = some (.slice e)) (hc : P.cellsOf e = d.sz) (he : Opens P e d p) : Opens P t (Kd.slice e d) (fun xs => xs.length ≤ maxLen ∧ ∀ a ∈ xs, p a) := ⟨fun enc w base spare held fuel cs x hx => by
  rcases Go.Deep.open_slice ht hx with ⟨rfl, _⟩ | ⟨a, len, cap, m, n, D, Pl, rfl, hb, hl, hm, hmm, _, hx⟩
  · exact ⟨[], ⟨none, 0, rfl, Nat.le_refl _, Kd.C_nil d w⟩, by simp, by simp⟩
  · have hlm : len ≤ m := by rw [hmm]; split <;> omega
    have hex : ∀ i, i < len → ∃ z : α, (∃ c, c.length = d.sz ∧ d.K w z c ∧ ∀ j u, c[j]? = some u → w.cell? (a.add (i * d.sz + j)) = some u) ∧ p z := by
      intro i hi
      obtain ⟨c, h1, h2⟩ := hx i (by omega)
      obtain ⟨z, hK, hp⟩ := he.out enc w base spare held n c _ h2
      obtain ⟨_, hlen, hcell⟩ := World.cells?_some h1
      rw [hc] at hlen hcell
      refine ⟨z, ⟨c, hlen, hK, fun j u hj => ?_⟩, hp⟩
      have hjl : j < c.length := (List.getElem?_eq_some_iff.1 hj).1
      have := hcell j (by omega)
      rw [Go.Deep.add_add] at this
      rw [this, hj]
    classical
    have hch : ∃ f : Fin len → α, ∀ i : Fin len, (∃ c, c.length = d.sz ∧ d.K w (f i) c ∧ ∀ j u, c[j]? = some u → w.cell? (a.add (i.1 * d.sz + j)) = some u) ∧ p (f i) :=
      ⟨fun i => Classical.choose (hex i.1 i.2), fun i => Classical.choose_spec (hex i.1 i.2)⟩
    obtain ⟨f, hf⟩ := hch
    have hlen : (List.ofFn f).length = len := List.length_ofFn
    refine ⟨List.ofFn f, ⟨some a, cap, by rw [hlen], by rw [hlen]; exact hl, ?_⟩, ?_, ?_⟩
    · rw [hlen]
      refine ⟨hlen, by unfold maxLen at hm; omega, fun _ => ⟨a, rfl, fun j z hj => ?_⟩⟩
      obtain ⟨hjl, hz⟩ := List.getElem?_eq_some_iff.1 hj
      rw [List.getElem_ofFn] at hz
      subst hz
      exact (hf ⟨j, by omega⟩).1
    · rw [hlen]; omega
    · intro z hz
      obtain ⟨i, rfl⟩ := List.mem_ofFn.1 hz
      exact (hf i).2⟩
theorem opens_pair {f0 f1 : Field} {d1 : Kd β} {p1 : β → Prop} (ht : P.underlying t = some (.struct #[f0, f1])) (h0 : Opens P f0.type d p) (h1 : Opens P f1.type d1 p1)
    (o0 : f0.offset = 0) (o1 : f1.offset = d.sz) (c0 : P.cellsOf f0.type = d.sz) (c1 : P.cellsOf f1.type = d1.sz) (ct : P.cellsOf t = d.sz + d1.sz) : Opens P t (Kd.pair d d1) (fun x => p x.1 ∧ p1 x.2) := ⟨fun enc w base spare held fuel cs x hx => by
  obtain ⟨y0, y1, n, _, hl, e0, e1⟩ := trod_struct2 ht hx
  rw [o0, c0, List.drop_zero] at e0
  rw [o1, c1] at e1
  obtain ⟨a0, k0, q0⟩ := h0.out enc w base spare held n _ _ e0
  obtain ⟨a1, k1, q1⟩ := h1.out enc w base spare held n _ _ e1
  refine ⟨(a0, a1), ⟨_, _, ?_, k0, k1⟩, q0, q1⟩
  rw [List.take_of_length_le (l := cs.drop d.sz) (by rw [List.length_drop, hl, ct]; omega), List.take_append_drop]⟩
theorem opens_three {f0 f1 f2 : Field} {d1 : Kd β} {p1 : β → Prop} {d2 : Kd γ} {p2 : γ → Prop} (ht : P.underlying t = some (.struct #[f0, f1, f2])) (h0 : Opens P f0.type d p) (h1 : Opens P f1.type d1 p1) (h2 : Opens P f2.type d2 p2)
    (o0 : f0.offset = 0) (o1 : f1.offset = d.sz) (o2 : f2.offset = d.sz + d1.sz) (c0 : P.cellsOf f0.type = d.sz) (c1 : P.cellsOf f1.type = d1.sz) (c2 : P.cellsOf f2.type = d2.sz) (ct : P.cellsOf t = d.sz + (d1.sz + d2.sz)) : Opens P t (Kd.pair d (Kd.pair d1 d2)) (fun x => p x.1 ∧ p1 x.2.1 ∧ p2 x.2.2) := ⟨fun enc w base spare held fuel cs x hx => by
  obtain ⟨y0, y1, y2, n, _, hl, e0, e1, e2⟩ := _root_.Go.Deep.trod_struct3 ht hx
  rw [o0, c0, List.drop_zero] at e0
  rw [o1, c1] at e1
  rw [o2, c2, ← List.drop_drop] at e2
  obtain ⟨a0, k0, q0⟩ := h0.out enc w base spare held n _ _ e0
  obtain ⟨a1, k1, q1⟩ := h1.out enc w base spare held n _ _ e1
  obtain ⟨a2, k2, q2⟩ := h2.out enc w base spare held n _ _ e2
  refine ⟨(a0, a1, a2), ⟨_, _, ?_, k0, ⟨_, _, rfl, k1, k2⟩⟩, q0, q1, q2⟩
  rw [List.take_of_length_le (l := (cs.drop d.sz).drop d1.sz) (by rw [List.length_drop, List.length_drop, hl, ct]; omega), List.take_append_drop, List.take_append_drop]⟩
theorem opens_iso {f : β → α} (g : α → β) (hg : ∀ a, f (g a) = a) (h : Opens P t d p) : Opens P t (Kd.iso d f) (fun b => p (f b)) := ⟨fun enc w base spare held fuel cs x hx => by
  obtain ⟨a, hK, hp⟩ := h.out enc w base spare held fuel cs x hx
  exact ⟨g a, by show d.K w (f (g a)) cs; rw [hg]; exact hK, by rw [hg]; exact hp⟩⟩
/-- A slice that comes in. -/
theorem Opens.slice_in {H : Type} {enc : TypeId × Value → H} {w : World} {base : Nat} {spare : Nat → Bool} {held : Bool} {d' : Kd β} {q : List β → Prop} (h : Opens P t (Kd.slice e d') q) {v : Value} {y : DataW H} {ps : List MemPlace} {A : Option Addr} {n c : Nat}
    (hv : v = .slice A n c) (hx : DataW.Trod enc P w base spare held t v y ps) : ∃ xs : List β, n = xs.length ∧ n ≤ c ∧ d'.C w A xs.length xs ∧ q xs := by
  subst hv
  obtain ⟨fuel, hf⟩ := hx
  obtain ⟨xs, ⟨A', c', he, hl, hC⟩, hq⟩ := h.out enc w base spare held fuel _ _ hf
  have he' : [Value.slice A n c] = [Value.slice A' xs.length c'] := by simpa [Value.cells] using he
  injection he' with he' _
  injection he' with e1 e2 e3
  subst e1
  subst e2
  subst e3
  exact ⟨xs, rfl, hl, hC, hq⟩
/-- A field that is a slice. -/
theorem Opens.slice_field {H : Type} {enc : TypeId × Value → H} {w : World} {base : Nat} {spare : Nat → Bool} {held : Bool} {d' : Kd β} {q : List β → Prop} (h : Opens P t (Kd.slice e d') q) {v : Value} {fuel : Nat} {x : DataW H × List MemPlace}
    (hx : DataW.trod enc P w base spare held fuel t [v] = some x) : ∃ (xs : List β) (A : Option Addr) (c : Nat), v = .slice A xs.length c ∧ xs.length ≤ c ∧ d'.C w A xs.length xs ∧ q xs := by
  obtain ⟨xs, ⟨A', c', he, hl, hC⟩, hq⟩ := h.out enc w base spare held fuel _ _ hx
  injection he with he _
  exact ⟨xs, A', c', he, hl, hC, hq⟩
theorem bool_field {H : Type} {enc : TypeId × Value → H} {w : World} {base : Nat} {spare : Nat → Bool} {held : Bool} (ht : P.underlying t = some .bool) {v : Value} {fuel : Nat} {x : DataW H × List MemPlace}
    (hx : DataW.trod enc P w base spare held fuel t [v] = some x) : ∃ b, v = .bool b := by
  obtain ⟨b, he, _⟩ := DataW.trod_bool ht hx
  injection he with he _
  exact ⟨b, he⟩
theorem int_field {H : Type} {enc : TypeId × Value → H} {w : World} {base : Nat} {spare : Nat → Bool} {held : Bool} {k : IntKind} (ht : P.underlying t = some (.int k)) {v : Value} {fuel : Nat} {x : DataW H × List MemPlace}
    (hx : DataW.trod enc P w base spare held fuel t [v] = some x) : ∃ n, v = .int k n ∧ (Lit.int k n).wf = true := by
  obtain ⟨b, he, _, hw⟩ := DataW.trod_int ht hx
  injection he with he _
  exact ⟨b, he, hw⟩
end
end Go.Proofs.Ytneomcnfbnfjbaa.Open
