-- Laid by mix.py, a program of this session, with the kit's print.py; walks by hand come out of wip/over.
import Derived.Test.YtenbbfibampakaaPureLib
import Derived.Test.YtenbbfibampakaaQ0
import Derived.Test.YtenbbfibampakaaQ2
namespace Go.Proofs.Ytenbbfibampakaa.Q
open Go.RowKit Go.Proofs.YtenbbfibampakaaW.PrintWords Go.Proofs.YtenbbfibampakaaW.PrintLast Go.Proofs.YtenbbfibampakaaW.PrintMore
attribute [local go_sem] max2_int min2_int max_two min_two max_three min_three max_four min_four   -- for this text's walks alone
set_option linter.unusedVariables false
set_option linter.unusedSimpArgs false

/-! ### pentroughlaw02_VarintOrder: function 6 -/
def pentroughlaw02_VarintOrder.j0 : Nat → Bool → Int → Bool → Option (Bool)
  | 0, _, _, _ => none
  | k + 1, x5, x6, x28 => if x28 = true then (some false) else (if x5 = true then (if (x6 / 128) = 0 then ((varint_Size.f k x6).bind fun t188 => (if t188 = 1 then (some true) else (if (x6 / 128) > 0 then ((varint_Size.f k x6).bind fun t189 => ((varint_Size.f k (x6 / 128)).bind fun t190 => (some (t189 == (wrap64 (t190 + 1)))))) else (some false)))) else (if (x6 / 128) > 0 then ((varint_Size.f k x6).bind fun t191 => ((varint_Size.f k (x6 / 128)).bind fun t192 => (some (t191 == (wrap64 (t192 + 1)))))) else (some false))) else (some false))
def pentroughlaw02_VarintOrder.f (k : Nat) (a0 : Int) (a1 : Int) : Option (Bool) := (pentroughlaw02_awake.f k).bind fun t183 => (if (Go.bits .and .i64 a0 268435455) ≤ (Go.bits .and .i64 a1 268435455) then ((varint_Size.f k (Go.bits .and .i64 a0 268435455)).bind fun t184 => ((varint_Size.f k (Go.bits .and .i64 a1 268435455)).bind fun t185 => (if t184 > t185 then (pentroughlaw02_VarintOrder.j0 k t183 (Go.bits .and .i64 a0 268435455) true) else ((varint_Size.f k (Go.bits .and .i64 a0 268435455)).bind fun t186 => (pentroughlaw02_VarintOrder.j0 k t183 (Go.bits .and .i64 a0 268435455) (decide (t186 < 1))))))) else ((varint_Size.f k (Go.bits .and .i64 a0 268435455)).bind fun t187 => (pentroughlaw02_VarintOrder.j0 k t183 (Go.bits .and .i64 a0 268435455) (decide (t187 < 1)))))
theorem pentroughlaw02_VarintOrder.mono_l : ∀ k, (∀ y0 y1 y2, LeO (pentroughlaw02_VarintOrder.j0 k y0 y1 y2) (pentroughlaw02_VarintOrder.j0 (k + 1) y0 y1 y2))
  | 0 => fun _ _ _ r h => by simp [pentroughlaw02_VarintOrder.j0] at h
  | k + 1 => by
    have ih0 := pentroughlaw02_VarintOrder.mono_l k
    · intro y0 y1 y2
      unfold pentroughlaw02_VarintOrder.j0
      repeat' first
      | (with_reducible exact ih0 _ _ _)
      | (with_reducible exact pentroughlaw02_awake.mono _)
      | (with_reducible exact varint_Size.mono _ _)
      | (with_reducible exact LeO.refl _)
      | (with_reducible exact LeO.none _)
      | (with_reducible refine LeO.ite ?_ ?_)
      | (with_reducible refine LeO.bind ?_ (fun _ => ?_))
      | exact ih0 _ _ _
      | exact pentroughlaw02_awake.mono _
      | exact varint_Size.mono _ _
      | exact LeO.none _
      | refine LeO.ite ?_ ?_
      | refine LeO.bind ?_ (fun _ => ?_)
theorem pentroughlaw02_VarintOrder.mono : ∀ a0 a1 k, LeO (pentroughlaw02_VarintOrder.f k a0 a1) (pentroughlaw02_VarintOrder.f (k + 1) a0 a1) := by
  intro a0 a1 k
  have ih0 := pentroughlaw02_VarintOrder.mono_l k
  unfold pentroughlaw02_VarintOrder.f
  repeat' first
      | (with_reducible exact ih0 _ _ _)
      | (with_reducible exact pentroughlaw02_awake.mono _)
      | (with_reducible exact varint_Size.mono _ _)
      | (with_reducible exact LeO.refl _)
      | (with_reducible exact LeO.none _)
      | (with_reducible refine LeO.ite ?_ ?_)
      | (with_reducible refine LeO.bind ?_ (fun _ => ?_))
      | exact ih0 _ _ _
      | exact pentroughlaw02_awake.mono _
      | exact varint_Size.mono _ _
      | exact LeO.none _
      | refine LeO.ite ?_ ?_
      | refine LeO.bind ?_ (fun _ => ?_)
-- import Derived.Test.YtenbbfibampakaaPureLib
theorem pentroughlaw02_VarintOrder.val (k : Nat) (hk : 6 < k) (a0 a1 : Int) : pentroughlaw02_VarintOrder.f k a0 a1 = some true := by
  obtain ⟨k, rfl⟩ : ∃ j, k = j + 1 := ⟨k - 1, by omega⟩
  obtain ⟨x0, x1⟩ := Pure.and_mask a0
  obtain ⟨y0, y1⟩ := Pure.and_mask a1
  have hs : ∀ n, 0 ≤ n → ∀ k, 4 < k → varint_Size.f k n = some (Pure.sz n) := fun n _ k hk => Pure.size_val n k hk
  unfold pentroughlaw02_VarintOrder.f
  generalize bits .and .i64 a0 268435455 = x at x0 x1 ⊢
  generalize bits .and .i64 a1 268435455 = y at y0 y1 ⊢
  obtain ⟨f1, f2, f3, f4⟩ := Pure.sz_facts x x0 x1
  have e1 : wrap64 (Pure.sz (x / 128) + 1) = Pure.sz (x / 128) + 1 := by
    have := (Pure.sz_facts (x / 128) (by omega) (by omega)).2.1
    have := (Pure.sz_facts (x / 128) (by omega) (by omega)).1
    unfold wrap64; omega
  have hj : pentroughlaw02_VarintOrder.j0 (k + 1) true x (decide (Pure.sz x < 1)) = some true := by
    rw [pentroughlaw02_VarintOrder.j0, if_neg (by simp only [decide_eq_true_eq]; omega), if_pos rfl, hs x x0 k (by omega), hs (x / 128) (by omega) k (by omega)]
    by_cases z : x / 128 = 0
    · rw [if_pos z, Option.bind_some, if_pos (f3 z)]
    · rw [if_neg z, if_pos (by omega), Option.bind_some, Option.bind_some, e1, f4 (by omega)]
      simp
  rw [Pure.awake_val (k + 1) (by omega), Option.bind_some, hs x x0 (k + 1) (by omega), hs y y0 (k + 1) (by omega)]
  simp only [Option.bind_some]
  rw [hj]
  by_cases c : x ≤ y
  · have := Pure.sz_mono x y x0 c y1
    rw [if_pos c, if_neg (by omega)]
  · rw [if_neg c]
/-- The callee's contract, behind whatever has been called. -/
theorem size_on (w0 : World) (n : Int) (w : World) (HB : Aside0 (Below w0.heap.size w0 w)) : Calls Try.prog 13 #[.int .i64 n] w fun e w' => e = .returned (.int .i64 (Pure.sz n)) ∧ Aside0 (Below w0.heap.size w0 w') :=
  (varint_Size.calls 5 n (Pure.sz n) w (Pure.size_val n 5 (by decide))).mono fun _ _ ⟨he, hb⟩ => ⟨he, ⟨below_step HB.out hb⟩⟩
theorem awake_on (w : World) : Calls Try.prog 8 #[] w fun e w' => e = .returned (.bool true) ∧ Aside0 (Below w.heap.size w w') :=
  (pentroughlaw02_awake.calls 5 true w (Pure.awake_val 5 (by decide))).mono fun _ _ ⟨he, hb⟩ => ⟨he, ⟨hb⟩⟩
set_option maxHeartbeats 1000000 in
theorem order_walk (a0 a1 x y : Int) (w0 : World) (hx : bits .and .i64 a0 268435455 = x) (hy : bits .and .i64 a1 268435455 = y) (x0 : 0 ≤ x) (x1 : x ≤ 268435455) (y0 : 0 ≤ y) (y1 : y ≤ 268435455) :
    Calls Try.prog 6 #[.int .i64 a0, .int .i64 a1] w0 fun e w' => e = .returned (.bool true) ∧ Aside0 (Below w0.heap.size w0 w') := by
  obtain ⟨f1, f2, f3, f4⟩ := Pure.sz_facts x x0 x1
  have f5 : x ≤ y → Pure.sz x ≤ Pure.sz y := fun c => Pure.sz_mono x y x0 c y1
  have g1 : decide (Pure.sz x < 1) = false := decide_eq_false (by omega)
  have H0 : x / 128 = 0 → (Pure.sz x == 1) = true := fun z => by rw [f3 z]; rfl
  have H1 : 0 < x / 128 → (Pure.sz x == Pure.sz (x / 128) + 1) = true := fun z => by rw [f4 z]; exact beq_self_eq_true _
  have q := Pure.sz_facts (x / 128) (by omega) (by omega)
  have q1 := q.1
  have q2 := q.2.1
  clear f1 f2 f3 f4 q
  by_cases c : x ≤ y
  · have c1 := f5 c
    have c2 : decide (Pure.sz y < Pure.sz x) = false := decide_eq_false (by omega)
    clear f5 c1
    by_cases z : x / 128 = 0
    · have z1 : (x / 128 == 0) = true := beq_iff_eq.mpr z
      have z2 := H0 z
      clear H0 H1 z
      go_enter Try.func6, Try.ntmps6
      go_wp2_with (first | (go_at_call 8; refine (awake_on _).mono ?_; rintro e w1 ⟨rfl, HB⟩) | (go_at_call 13; refine (size_on w0 _ _ (by assumption)).mono ?_; rintro e w1 ⟨rfl, HB⟩))
      go_ret
      exact ⟨rfl, by assumption⟩
    · have z1 : (x / 128 == 0) = false := beq_eq_false_iff_ne.mpr z
      have z2 := H1 (by omega)
      have z3 : decide (0 < x / 128) = true := decide_eq_true (by omega)
      clear H0 H1 z
      go_enter Try.func6, Try.ntmps6
      go_wp2_with (first | (go_at_call 8; refine (awake_on _).mono ?_; rintro e w1 ⟨rfl, HB⟩) | (go_at_call 13; refine (size_on w0 _ _ (by assumption)).mono ?_; rintro e w1 ⟨rfl, HB⟩))
      go_ret
      exact ⟨rfl, by assumption⟩
  · clear f5
    by_cases z : x / 128 = 0
    · have z1 : (x / 128 == 0) = true := beq_iff_eq.mpr z
      have z2 := H0 z
      clear H0 H1 z
      go_enter Try.func6, Try.ntmps6
      go_wp2_with (first | (go_at_call 8; refine (awake_on _).mono ?_; rintro e w1 ⟨rfl, HB⟩) | (go_at_call 13; refine (size_on w0 _ _ (by assumption)).mono ?_; rintro e w1 ⟨rfl, HB⟩))
      go_ret
      exact ⟨rfl, by assumption⟩
    · have z1 : (x / 128 == 0) = false := beq_eq_false_iff_ne.mpr z
      have z2 := H1 (by omega)
      have z3 : decide (0 < x / 128) = true := decide_eq_true (by omega)
      clear H0 H1 z
      go_enter Try.func6, Try.ntmps6
      go_wp2_with (first | (go_at_call 8; refine (awake_on _).mono ?_; rintro e w1 ⟨rfl, HB⟩) | (go_at_call 13; refine (size_on w0 _ _ (by assumption)).mono ?_; rintro e w1 ⟨rfl, HB⟩))
      go_ret
      exact ⟨rfl, by assumption⟩
theorem pentroughlaw02_VarintOrder.calls (k : Nat) (a0 : Int) (a1 : Int) (r : Bool) (w : World) (h : pentroughlaw02_VarintOrder.f k a0 a1 = some r) :
    Calls Try.prog 6 #[.int .i64 a0, .int .i64 a1] w fun e w' => e = .returned (.bool r) ∧ Below w.heap.size w w' := by
  have hr : r = true := by
    have h1 : pentroughlaw02_VarintOrder.f (k + 7) a0 a1 = some r := at_rounds (g := fun k => pentroughlaw02_VarintOrder.f k a0 a1) (pentroughlaw02_VarintOrder.mono a0 a1) (Nat.le_add_right k 7) h
    have h2 := pentroughlaw02_VarintOrder.val (k + 7) (by omega) a0 a1
    rw [h2] at h1
    exact (Option.some.inj h1).symm
  subst hr
  obtain ⟨x0, x1⟩ := Pure.and_mask a0
  obtain ⟨y0, y1⟩ := Pure.and_mask a1
  exact (order_walk a0 a1 _ _ w rfl rfl x0 x1 y0 y1).mono fun _ _ ⟨he, hb⟩ => ⟨he, hb.out⟩
/-- THE ONE PURE STATEMENT of pentroughlaw02_VarintOrder: yours. -/
def pentroughlaw02_VarintOrder.Pure : Prop := ∀ (a0 : Int) (a1 : Int), (Lit.int .i64 a0).wf = true → (Lit.int .i64 a1).wf = true → ∃ k, pentroughlaw02_VarintOrder.f k a0 a1 = some true
theorem pentroughlaw02_VarintOrder.walk (P : pentroughlaw02_VarintOrder.Pure) (a0 : Int) (a1 : Int) (w : World) (w0 : (Lit.int .i64 a0).wf = true) (w1 : (Lit.int .i64 a1).wf = true) :
    Calls Try.prog 6 #[.int .i64 a0, .int .i64 a1] w fun e w' => e = .returned (.bool true) ∧ Below w.heap.size w w' := by
  obtain ⟨k, h⟩ := P a0 a1 w0 w1
  refine (pentroughlaw02_VarintOrder.calls k a0 a1 true w h).mono ?_
  rintro e w' ⟨rfl, hd⟩
  exact ⟨rfl, hd⟩

end Go.Proofs.Ytenbbfibampakaa.Q
