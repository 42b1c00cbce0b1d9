/- casing.special: the map that the call makes, and what is found in it. -/
import Derived.Test.YteemdonegpnkcaaQ0
import Derived.Maps.Own
import Derived.Maps.OwnSet
import Derived.Maps.Keyed
namespace Go.Proofs.Yteemdonegpnkcaa.Sp
open Go.RowKit Go.Proofs.YteemdonegpnkcaaW.PrintWords Go.Proofs.YteemdonegpnkcaaW.PrintLast Go.Proofs.YteemdonegpnkcaaW.PrintMore
open Go.ChangeMaps (setBlock)
set_option linter.unusedVariables false

def sp : List (Int × List Int) := [(181, [956]), (223, [115, 115]), (304, [105, 775]), (329, [700, 110]), (376, [255]), (383, [115]), (422, [640]), (423, [424]), (425, [643]), (428, [429]), (430, [648]), (431, [432]), (837, [953]), (902, [940]), (908, [972]), (910, [973]), (911, [974]), (912, [953, 776, 769]), (944, [965, 776, 769]), (962, [963])]
def tbl (base : Nat) (b : Nat) : Option (List Int) := if base < b then (sp[b - base - 1]?).map (·.2) else none
def dat (xs : List Int) : DataW Nat := .slice (xs.map fun x => .lit (.int .i64 x)) []
/-- How an element of the map reads: a row of the map's own, by its number. -/
def rdv (base : Nat) : Value → Option (DataW Nat × List MemPlace)
  | .slice (some ⟨b, 0, none⟩) n m => match tbl base b with
    | some xs => if n = xs.length ∧ m = xs.length then some (dat xs, []) else none
    | none => none
  | .slice none 0 0 => some (.nil, [])
  | _ => none
def spD (j : Nat) : DataW Nat := (sp.take j).foldl (fun D q => D.put (.int .i64 q.1) (dat q.2)) (.map [])
structure Inv (w0 w : World) (j : Nat) : Prop where
  below : Below w0.heap.size w0 w
  size : w.heap.size = w0.heap.size + 1 + j
  own : w.ownsMap Try.prog 3 (rdv w0.heap.size) w0.heap.size j (spD j)
  cells : ∀ i, i < j → ∀ q, sp[i]? = some q → ∀ n x, q.2[n]? = some x → w.cell? ⟨w0.heap.size + 1 + i, n, none⟩ = some (.int .i64 x)
theorem Inv.made (w : World) : Inv w (w.alloc (.map #[] 0)) 0 :=
  ⟨below_alloc (Below.refl _ _) _, by simp, World.ownsMap_made w Try.prog 3 _, fun i hi => absurd hi (by omega)⟩
theorem keyed : Go.Maps.Keyed Try.prog 3 := Go.Maps.int_keyed Try.underlying3
theorem spD_succ {j : Nat} {key : Int} {xs : List Int} (h : sp[j]? = some (key, xs)) : spD (j + 1) = (spD j).put (.int .i64 key) (dat xs) := by
  unfold spD
  rw [List.take_add_one, h]
  simp [List.foldl_append]
theorem sp_ins {w0 w1 : World} {j : Nat} (I : Inv w0 w1 j) {key : Int} {xs : List Int} (h : sp[j]? = some (key, xs)) (T : TypeId) :
    ∃ w', (Instr.mapUpdate 30 (.map (some w0.heap.size)) (.int .i64 key) (.slice (some ⟨w1.heap.size, 0, none⟩) xs.length xs.length)).run Try.prog (w1.alloc (.cells (xs.map (Value.int .i64)).toArray T)) = .ok () w' ∧ Inv w0 w' (j + 1) := by
  have hj : j < 20 := (List.getElem?_eq_some_iff.1 h).1
  have hkw : (Lit.int .i64 key).wf = true := by
    have : ∀ q ∈ sp, (Lit.int .i64 q.1).wf = true := by decide
    exact this _ (List.mem_of_getElem? h)
  have hval : rdv w0.heap.size (.slice (some ⟨w1.heap.size, 0, none⟩) xs.length xs.length) = some (dat xs, []) := by
    have e : tbl w0.heap.size w1.heap.size = some xs := by
      unfold tbl
      rw [I.size, if_pos (by omega), show w0.heap.size + 1 + j - w0.heap.size - 1 = j from by omega, h]
      rfl
    simp [rdv, e]
  obtain ⟨w', hrun, hown, ht⟩ := (I.own.alloc (.cells (xs.map (Value.int .i64)).toArray T)).store keyed Try.underlying30 (by unfold maxLen; omega) (Go.Maps.keyOf_int_mk Try.underlying3 hkw) hval
  have hg := ht.grown
  have hsz : w'.heap.size = w1.heap.size + 1 := by
    obtain ⟨es, clock, es', clock', hb, rfl⟩ := ht
    simp [setBlock]
  refine ⟨w', hrun, (below_alloc I.below _).grown hg (by simp; have := I.size; omega) (fun k hk => by cases hk; exact Nat.le_refl _), by rw [hsz, I.size]; omega, by rw [spD_succ h]; exact hown, fun i hi q hq n x hx => ?_⟩
  have hs := I.size
  rw [hg.cell_far ⟨w0.heap.size + 1 + i, n, none⟩ (by simp; omega) (by simp; omega)]
  by_cases e : i = j
  · subst e
    rw [h] at hq
    cases hq
    rw [World.cell?_alloc_at (hn := by omega)]
    simp [hx]
  · rw [World.cell?_alloc_past (hn := by omega)]
    exact I.cells i (by omega) q hq n x hx
theorem sp_insert {w2 w0 w1 : World} {cs : Array Value} (hw : w2 = w1.alloc (.cells cs 3)) {j : Nat} {ops : Array Oper} {rest : List Oper} {o : Oper} {a : Act} {Q : Exit → Act → World → Prop} (hg : o.guard = none) (m x v : Operand) (hop : o.op = Op.insert 30 m x v)
    (I : Inv w0 w1 j) {key : Int} {xs : List Int} (h : sp[j]? = some (key, xs)) (hcs : cs = (xs.map (Value.int .i64)).toArray) (hm : a.eval m = .map (some w0.heap.size)) (hx : a.eval x = .int .i64 key) (hv : a.eval v = .slice (some ⟨w1.heap.size, 0, none⟩) xs.length xs.length)
    (hK : ∀ w', Inv w0 w' (j + 1) → wpList Try.prog ops Q rest (a.put o.dst undef) w') : wpList Try.prog ops Q (o :: rest) a w2 := by
  subst hw
  subst hcs
  refine wpList_plain hg fun K' hK' => ?_
  obtain ⟨w', hrun, r⟩ := sp_ins I h 3
  unfold Oper.wp
  simp [execOp, hop, hm, hx, hv, hrun, Result.andThen]
  exact hK' _ _ (hK w' r)
set_option maxHeartbeats 8000000 in
set_option maxRecDepth 100000 in
theorem sp_open (w : World) : Calls Try.prog 14 #[] w fun e w' => Aside0 (e = .returned (.map (some w.heap.size)) ∧ Inv w w' 20) := by
  have hmm := @run_makeMap Try.prog
  go_enter Try.func14, Try.ntmps14
  have I0 := Inv.made w
  obtain ⟨w1, hw1⟩ : ∃ w1, w1 = w.alloc (.map #[] 0) := ⟨_, rfl⟩
  go_wp2_with (first | (refine sp_insert rfl rfl _ _ _ rfl (by assumption) (by rfl) (by rfl) (by rfl) (by rfl) (by first | rfl | simp [go_sem]) ?_; clear I0; intro w1 I0) | go_in)
  go_ret
  exact ⟨⟨rfl, I0⟩⟩
theorem spD_all : spD 20 = .map (sp.map fun q => (.int .i64 q.1, dat q.2)) := by kernel_rfl
theorem look_list (r : Int) : ∀ L : List (Int × List Int), DataW.atKey (.map (L.map fun q => (Lit.int .i64 q.1, dat q.2))) (.int .i64 r) .nil = (match L.lookup r with | some xs => dat xs | none => .nil) ∧ Go.Maps.has (.map (L.map fun q => (Lit.int .i64 q.1, dat q.2))) (.int .i64 r) = (L.lookup r).isSome
  | [] => ⟨rfl, rfl⟩
  | (k, xs) :: t => by
    have ih := look_list r t
    by_cases h : k = r
    · subst h
      refine ⟨?_, ?_⟩
      · simp [DataW.atKey, Lit.sameKey, List.lookup]
      · simp [Go.Maps.has, Lit.sameKey, List.lookup]
    · have h2 : (r == k) = false := beq_eq_false_iff_ne.mpr (Ne.symm h)
      have h3 : (Lit.int IntKind.i64 k).sameKey (Lit.int IntKind.i64 r) = false := by simp [Lit.sameKey, h]
      refine ⟨?_, ?_⟩
      · have := ih.1
        simp only [DataW.atKey, List.map_cons, List.find?_cons, h3, List.lookup, h2] at this ⊢
        exact this
      · have := ih.2
        simp only [Go.Maps.has, List.map_cons, List.any_cons, h3, List.lookup, h2, Bool.false_or] at this ⊢
        exact this
theorem rdv_nil {base : Nat} {v : Value} {ps : List MemPlace} (h : rdv base v = some (.nil, ps)) : v = .slice none 0 0 := by
  unfold rdv at h
  split at h
  · split at h
    · split at h
      · simp [dat] at h
      · cases h
    · cases h
  · rfl
  · cases h
theorem dat_inj {xs ys : List Int} (h : dat xs = dat ys) : xs = ys := by
  simp only [dat, DataW.slice.injEq] at h
  have := h.1
  induction xs generalizing ys with
  | nil => cases ys with
    | nil => rfl
    | cons => simp at this
  | cons a t ih => cases ys with
    | nil => simp at this
    | cons b u =>
      simp only [List.map_cons, List.cons.injEq, DataW.lit.injEq, Lit.int.injEq] at this
      rw [this.1.2, ih (by simp [this.2]) this.2]
theorem rdv_row {base : Nat} {v : Value} {ps : List MemPlace} {xs : List Int} (h : rdv base v = some (dat xs, ps)) : ∃ i q, sp[i]? = some q ∧ q.2 = xs ∧ v = .slice (some ⟨base + 1 + i, 0, none⟩) xs.length xs.length := by
  unfold rdv at h
  split at h
  · rename_i b n m
    split at h
    · rename_i ys hys
      split at h
      · rename_i hn
        simp only [Option.some.injEq, Prod.mk.injEq] at h
        have e := dat_inj h.1
        subst e
        unfold tbl at hys
        split at hys
        · rename_i hb
          obtain ⟨q, hq, rfl⟩ := Option.map_eq_some_iff.1 hys
          exact ⟨_, q, hq, rfl, by rw [hn.1, hn.2, show base + 1 + (b - base - 1) = b from by omega]⟩
        · cases hys
      · cases h
    · cases h
  · simp [dat] at h
  · cases h
theorem row_len {i : Nat} {q : Int × List Int} {xs : List Int} (hq : sp[i]? = some q) (h2 : q.2 = xs) : 0 < xs.length ∧ xs.length ≤ 1000000 := by
  have : ∀ q ∈ sp, 0 < q.2.length ∧ q.2.length ≤ 1000000 := by decide
  subst h2
  exact this _ (List.mem_of_getElem? hq)
theorem row_C {w0 w : World} (I : Inv w0 w 20) {i : Nat} {q : Int × List Int} {xs : List Int} (hq : sp[i]? = some q) (h2 : q.2 = xs) : Kd.C (Kd.int .i64) w (some ⟨w0.heap.size + 1 + i, 0, none⟩) xs.length xs := by
  subst h2
  refine ⟨rfl, by have := (row_len hq rfl).2; omega, fun _ => ⟨_, rfl, fun n x hx => ⟨[.int .i64 x], rfl, rfl, fun j u hj => ?_⟩⟩⟩
  have hi : i < 20 := (List.getElem?_eq_some_iff.1 hq).1
  have hc := I.cells i hi q hq n x hx
  cases j with
  | zero =>
    simp at hj
    subst hj
    have e : Addr.add ⟨w0.heap.size + 1 + i, 0, none⟩ (n * (Kd.int IntKind.i64).sz + 0) = ⟨w0.heap.size + 1 + i, n, none⟩ := by
      show Addr.add ⟨w0.heap.size + 1 + i, 0, none⟩ (n * 1 + 0) = _
      rw [Nat.mul_one, Nat.add_zero]
      unfold Addr.add
      by_cases h0 : n = 0
      · subst h0; rfl
      · simp [h0]
    rw [e]
    exact hc
  | succ j => simp at hj
end Go.Proofs.Yteemdonegpnkcaa.Sp
