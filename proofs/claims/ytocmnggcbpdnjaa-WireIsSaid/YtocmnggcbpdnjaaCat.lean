/- The library's Grow of nothing, its Concat of two rows of bytes and its Clone of one: what each leaves; the rows are short enough for the memory. -/
import Derived.Test.YtocmnggcbpdnjaaProg
import Derived.Test.YtocmnggcbpdnjaaWMore
import Derived.WalkKit
import Derived.KernelRfl
import Derived.RowKit3
import Derived.Deep.LoopGhost
import Derived.OwnWalk
import Derived.ArgAppend
import Derived.Deep.Slices
import Derived.Lib.AppendZerosOnto
import Derived.Lib.AppendZeros
import Derived.Lib.SliceRun

namespace Go.Proofs.Ytocmnggcbpdnjaa.Cat
open Go.RowKit Go.Proofs.YtocmnggcbpdnjaaW.PrintWords Go.Proofs.YtocmnggcbpdnjaaW.PrintLast Go.Proofs.YtocmnggcbpdnjaaW.PrintMore
set_option linter.unusedVariables false
set_option linter.unusedSimpArgs false
theorem info5 : (Try.prog.info? 5).map (fun i => (i.zero, i.size, i.bytes)) = some (some (.int .u8 0), 1, 1) := by kernel_rfl
set_option maxHeartbeats 1000000 in
theorem grow_nil (n : Nat) (w : World) (hn : n ≤ 140737488355328) :
    Calls Try.prog 33 #[.slice none 0 0, .int .i64 (n : Int)] w fun e w' => Aside0 (∃ v, e = .returned v ∧ w'.ownsRow w.heap.size 5 1 v 0 [] ∧ Below w.heap.size w w') := by
  obtain ⟨i5, hi5, hz5, hsz5, hby5⟩ := info_parts info5
  rcases Nat.eq_zero_or_pos n with h0 | h0
  · subst h0
    have h4 : ¬ ((0 : Int) > 0) := by omega
    go_enter Try.func33, Try.ntmps33
    go_wp2
    go_ret
    exact ⟨_, rfl, own_nil _ _ _ _, Below.refl _ _⟩
  · have h1 : ¬ ((n : Int) < 0) := by omega
    have h4 : (n : Int) > 0 := by omega
    have hold : (Builtin.firstCells i5.size 0 (.slice none 0 0)).run Try.prog w.drew = .ok ([] : List Value).toArray w.drew := run_firstCells_none w.drew i5.size 0 0 0
    have hrz : ∀ ty, (Builtin.append_ #[25, 3] ty #[.slice none 0 0, .int .i64 (n : Int)]).run Try.prog w =
        .ok (.slice (some ⟨w.heap.size, 0, none⟩) n (grownCap w n 0 5)) (w.drew.alloc (.cells (([] : List Value).toArray ++ Builtin.zeroCells (Value.cells (.int .u8 0)) n ++ Builtin.zeroCells (Value.cells (.int .u8 0)) (grownCap w n 0 5 - n)) 5)) := fun ty => by
      have h := Lib.run_append_grow_zeros w 25 3 ty 5 i5 (.int .u8 0) .i64 .i64 Try.underlying25 Try.underlying3 hi5 hz5 none 0 0 [] hold n h0 (by omega) (by omega) (by omega) (by rw [hby5]; omega) (by rw [hby5]; exact growslice_fits (by omega) (by omega))
      simpa using h
    obtain ⟨G, hG⟩ : ∃ G, G = grownCap w n 0 5 := ⟨_, rfl⟩
    have hGn : n ≤ G := by rw [hG]; exact grownCap_ge w _ _ _
    have hG63 : G ≤ maxLen := by rw [hG]; exact grownCap_le_maxLen w n 0 5 (by unfold maxLen; omega)
    rw [← hG] at hrz
    have HG := Aside0.mk hG63
    clear hold hG hG63
    go_enter Try.func33, Try.ntmps33
    go_wp2_with (at_builtin; refine Lib.wpList_append_run _ rfl _ _ _ _ rfl _ _ rfl rfl _ _ (hrz _) ?_)
    all_goals
      go_ret
      have hE : Below w.heap.size w w := Below.refl _ _
      have ho := World.ownsRow_made (base := w.heap.size) (e := 5) (size := 1) w (Builtin.zeroCells #[Value.int IntKind.u8 0] n ++ Builtin.zeroCells #[Value.int IntKind.u8 0] (G - n)) G (Nat.le_refl _) HG.out (by rw [Array.size_append, size_zeroCells, size_zeroCells]; simp; omega)
      exact ⟨_, rfl, pw_own_below ho (below_drew (Below.refl _ _)), below_drew (below_alloc hE _)⟩
theorem cell_old {w w1 : World} (hb : Below w.heap.size w w1) {ad : Addr} {v : Value} (h : w.cell? ad = some v) : w1.cell? ad = some v := pw_cell_below hb h
/-- What stands at the head of a round: of the sum, and of what is appended. -/
def Sum (n1 n2 : Nat) (s i : Value) : Prop := (s = .int .i64 0 ∧ i = .int .i64 0) ∨ (s = .int .i64 (n1 : Int) ∧ i = .int .i64 1) ∨ (s = .int .i64 ((n1 : Int) + (n2 : Int)) ∧ i = .int .i64 2)
def Put (w : World) (l1 l2 : List Int) (v i : Value) (wr : World) : Prop := ∃ xs : List Int, wr.ownsRow w.heap.size 5 1 v xs.length (nums .u8 xs) ∧ Below w.heap.size w wr ∧ ((xs = [] ∧ i = .int .i64 0) ∨ (xs = l1 ∧ i = .int .i64 1) ∨ (xs = l1 ++ l2 ∧ i = .int .i64 2))
set_option maxHeartbeats 4000000 in
theorem concat_two (g : Nat) (c : Nat) (A1 : Option Addr) (c1 : Nat) (l1 : List Int) (A2 : Option Addr) (c2 : Nat) (l2 : List Int) (w : World)
    (k0 : w.cell? ⟨g, 0, none⟩ = some (.slice A1 l1.length c1)) (k1 : w.cell? ⟨g, 1, none⟩ = some (.slice A2 l2.length c2))
    (h1 : ReadsInt w .u8 A1 l1.length l1) (h2 : ReadsInt w .u8 A2 l2.length l2) (hn : l1.length + l2.length ≤ 140737488355328) :
    Calls Try.prog 29 #[.slice (some ⟨g, 0, none⟩) 2 c] w fun e w' => Aside0 (∃ v, e = .returned v ∧ w'.ownsRow w.heap.size 5 1 v (l1 ++ l2).length (nums .u8 (l1 ++ l2)) ∧ Below w.heap.size w w') := by
  have H1 := Aside0.mk h1
  have H2 := Aside0.mk h2
  have K0 := Aside0.mk k0
  have K1 := Aside0.mk k1
  clear h1 h2 k0 k1
  have hn1 : l1.length ≤ 140737488355328 := by omega
  have hn2 : l2.length ≤ 140737488355328 := by omega
  go_enter Try.func29, Try.ntmps29
  go_wp2
  go_loop [3, 11] (fun s i => Sum l1.length l2.length s i) (fun _ i => 2 - (intOf i).toNat)
  case atStart => exact .inl ⟨rfl, rfl⟩
  case round =>
    rcases hrel with ⟨rfl, rfl⟩ | ⟨rfl, rfl⟩ | ⟨rfl, rfl⟩
    · have k0 := K0.out
      go_wp2
      go_round
      case rel => exact .inr (.inl ⟨rfl, rfl⟩)
      case measure => simp [intOf]
    · have k1 := K1.out
      go_wp2
      go_round
      case rel => exact .inr (.inr ⟨by go_num, rfl⟩)
      case measure => simp [intOf]
    · go_wp2_with (go_at_call 33; rw [← Int.natCast_add]; refine (grow_nil _ _ hn).mono ?_; rintro e w1 ⟨⟨v, rfl, ho, hb⟩⟩; have HO := Aside0.mk ho; have HB := Aside0.mk hb; clear ho hb)
      go_loopw [6, 27] (fun v i wr => Put w l1 l2 v i wr) (fun _ i _ => 2 - (intOf i).toNat)
      case atStart => exact ⟨[], HO.out, HB.out, .inl ⟨rfl, rfl⟩⟩
      case round =>
        obtain ⟨xs, ho, hb, hrel⟩ := hrel
        have HO1 := Aside0.mk ho
        have HB1 := Aside0.mk hb
        clear ho hb HO HB
        rcases hrel with ⟨rfl, rfl⟩ | ⟨rfl, rfl⟩ | ⟨rfl, rfl⟩
        · have k0 := cell_old HB1.out K0.out
          go_wp2_with (at_builtin; refine print_append_row (w0 := w) w.heap.size rfl (.tmp 31) (.tmp 32) 25 5 .u8 1 rfl Try.underlying25 info5 (by decide) _ [] l1 A1 l1.length c1 rfl rfl HO1.out (H1.out.below HB1.out) HB1.out HB1.out.size (by simp; omega) ?_; intro v1 w2 ho hb hg hat; have HO2 := Aside0.mk ho; have HB2 := Aside0.mk hb; clear ho hb hg hat)
          go_roundw
          case rel => exact ⟨l1, HO2.out, HB2.out, .inr (.inl ⟨rfl, rfl⟩)⟩
          case measure => simp [intOf]
        · have k1 := cell_old HB1.out K1.out
          go_wp2_with (at_builtin; refine print_append_row (w0 := w) w.heap.size rfl (.tmp 31) (.tmp 32) 25 5 .u8 1 rfl Try.underlying25 info5 (by decide) _ xs l2 A2 l2.length c2 rfl rfl HO1.out (H2.out.below HB1.out) HB1.out HB1.out.size (by simp; omega) ?_; intro v1 w2 ho hb hg hat; have HO2 := Aside0.mk ho; have HB2 := Aside0.mk hb; clear ho hb hg hat)
          go_roundw
          case rel => exact ⟨xs ++ l2, HO2.out, HB2.out, .inr (.inr ⟨rfl, rfl⟩)⟩
          case measure => simp [intOf]
        · go_wp2
          go_ret
          exact ⟨_, rfl, HO1.out, HB1.out⟩
set_option maxHeartbeats 1000000 in
/-- A copy of a row of bytes. -/
theorem clone_on (A : Option Addr) (c : Nat) (l : List Int) (w : World) (hC : ReadsInt w .u8 A l.length l) (h8 : l.length ≤ 140737488355328) :
    Calls Try.prog 30 #[.slice A l.length c] w fun e w' => Aside0 (∃ v, e = .returned v ∧ w'.ownsRow w.heap.size 5 1 v l.length (nums .u8 l) ∧ Below w.heap.size w w') := by
  have HC := Aside0.mk hC
  clear hC
  rcases A with _ | ad
  · have h0 : l.length = 0 := by
      rcases Nat.eq_zero_or_pos l.length with h | h
      · exact h
      · obtain ⟨ad, e, _⟩ := HC.out.2.2 h
        cases e
    obtain rfl : l = [] := List.eq_nil_of_length_eq_zero h0
    clear h0
    have heq : ∀ w, (binOp .eql 25 (.slice none 0 c) (.slice none 0 0)).run Try.prog w = .ok (.bool true) w := fun _ => by kernel_rfl
    go_enter Try.func30, Try.ntmps30
    go_wp2
    go_ret
    exact ⟨_, rfl, own_nil _ _ _ _, Below.refl _ _⟩
  · have heq : ∀ w, (binOp .eql 25 (.slice (some ad) l.length c) (.slice none 0 0)).run Try.prog w = .ok (.bool false) w := fun _ => by kernel_rfl
    have ho0 : (w.alloc (.cells #[] 5)).ownsRow w.heap.size 5 1 (.slice (some ⟨w.heap.size, 0, none⟩) 0 0) ([] : List Int).length (nums .u8 []) := World.ownsRow_made w #[] 0 (Nat.le_refl _) (by decide) rfl
    have HO0 := Aside0.mk ho0
    clear ho0
    go_enter Try.func30, Try.ntmps30
    go_wp2_with (at_builtin; refine print_append_row (w0 := w) w.heap.size rfl (.tmp 5) (.tmp 6) 25 5 .u8 1 rfl Try.underlying25 info5 (by decide) _ [] l (some ad) l.length c rfl rfl HO0.out (HC.out.below (below_alloc (Below.refl _ _) _)) (below_alloc (Below.refl _ _) _) (by simp) (by simp; omega) ?_; intro v1 w2 ho hb hg hat; have HO2 := Aside0.mk ho; have HB2 := Aside0.mk hb; clear ho hb hg hat)
    go_ret
    exact ⟨_, rfl, HO2.out, HB2.out⟩
end Go.Proofs.Ytocmnggcbpdnjaa.Cat
