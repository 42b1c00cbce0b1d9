-- Laid by mix.py, a program of this session, with the kit's print.py; walks by hand come out of wip/over.
import Derived.Test.YteemdonegpnkcaaQ0
import Derived.Test.YteemdonegpnkcaaQ3
namespace Go.Proofs.Yteemdonegpnkcaa.Q
open Go.RowKit Go.Proofs.YteemdonegpnkcaaW.PrintWords Go.Proofs.YteemdonegpnkcaaW.PrintLast Go.Proofs.YteemdonegpnkcaaW.PrintMore
attribute [local go_sem] max2_int min2_int max_two min_two max_three min_three max_four min_four   -- for this text's walks alone
set_option linter.unusedVariables false
set_option linter.unusedSimpArgs false

/-! ### pentroughref04_Find: function 17 -/
mutual
def pentroughref04_Find.l0 : Nat → ByteArray → Int → List Int → Int → Int → Option (List Int × Bool)
  | 0, _, _, _, _, _ => none
  | k + 1, x0, x1, x6, x7, x8 => if x8 < (x0.size : Int) then (if 0 ≤ x8 then (if (bt x0 x8) = 61 then (pentroughref04_Find.j1 k x0 x1 x6 x7 x8 (bt x0 x8) ((bt x0 x8) == 61)) else (pentroughref04_Find.j1 k x0 x1 x6 x7 x8 (bt x0 x8) ((bt x0 x8) == 44))) else (none)) else (some (([] : List Int), false))
def pentroughref04_Find.j1 : Nat → ByteArray → Int → List Int → Int → Int → Int → Bool → Option (List Int × Bool)
  | 0, _, _, _, _, _, _, _ => none
  | k + 1, x0, x1, x6, x7, x8, x17, x25 => if x25 = true then (if x6.length < 17592186044416 then (pentroughref04_Find.l0 k x0 x1 (x6 ++ [x7]) 0 (wrap64 (x8 + 1))) else (none)) else (if x17 = 32 then (if x6.length < 17592186044416 then ((some (x6 ++ [x7] : List Int)).bind fun y199 => (if 0 < (y199.length : Int) then (if (rd y199 0) = x1 then (if 1 ≤ (y199.length : Int) then (some ((y199.drop (1 : Int).toNat), true)) else (none)) else (pentroughref04_Find.l0 k x0 x1 ([] : List Int) 0 (wrap64 (x8 + 1)))) else (none))) else (none)) else (if 0 ≤ x8 then (if x8 < (x0.size : Int) then ((pentroughref04_Digit.f (bt x0 x8)).bind fun t206 => (pentroughref04_Find.l0 k x0 x1 x6 (wrap64 ((wrap64 (x7 * 16)) + t206)) (wrap64 (x8 + 1)))) else (none)) else (none)))
end
def pentroughref04_Find.f (k : Nat) (a0 : ByteArray) (a1 : Int) : Option (List Int × Bool) := pentroughref04_Find.l0 k a0 a1 ([] : List Int) 0 0
theorem pentroughref04_Find.mono_l : ∀ k, (∀ y0 y1 y2 y3 y4, LeO (pentroughref04_Find.l0 k y0 y1 y2 y3 y4) (pentroughref04_Find.l0 (k + 1) y0 y1 y2 y3 y4)) ∧ (∀ y0 y1 y2 y3 y4 y5 y6, LeO (pentroughref04_Find.j1 k y0 y1 y2 y3 y4 y5 y6) (pentroughref04_Find.j1 (k + 1) y0 y1 y2 y3 y4 y5 y6))
  | 0 => ⟨fun _ _ _ _ _ r h => by simp [pentroughref04_Find.l0] at h, fun _ _ _ _ _ _ _ r h => by simp [pentroughref04_Find.j1] at h⟩
  | k + 1 => by
    obtain ⟨ih0, ih1⟩ := pentroughref04_Find.mono_l k
    refine ⟨?_, ?_⟩
    · intro y0 y1 y2 y3 y4
      unfold pentroughref04_Find.l0
      repeat' first
      | (with_reducible exact ih0 _ _ _ _ _)
      | (with_reducible exact ih1 _ _ _ _ _ _ _)
      | (with_reducible exact LeO.refl _)
      | (with_reducible exact LeO.none _)
      | (with_reducible refine LeO.ite ?_ ?_)
      | (with_reducible refine LeO.bind ?_ (fun _ => ?_))
      | exact ih0 _ _ _ _ _
      | exact ih1 _ _ _ _ _ _ _
      | exact LeO.none _
      | refine LeO.ite ?_ ?_
      | refine LeO.bind ?_ (fun _ => ?_)
    · intro y0 y1 y2 y3 y4 y5 y6
      unfold pentroughref04_Find.j1
      repeat' first
      | (with_reducible exact ih0 _ _ _ _ _)
      | (with_reducible exact ih1 _ _ _ _ _ _ _)
      | (with_reducible exact LeO.refl _)
      | (with_reducible exact LeO.none _)
      | (with_reducible refine LeO.ite ?_ ?_)
      | (with_reducible refine LeO.bind ?_ (fun _ => ?_))
      | exact ih0 _ _ _ _ _
      | exact ih1 _ _ _ _ _ _ _
      | exact LeO.none _
      | refine LeO.ite ?_ ?_
      | refine LeO.bind ?_ (fun _ => ?_)
theorem pentroughref04_Find.mono : ∀ a0 a1 k, LeO (pentroughref04_Find.f k a0 a1) (pentroughref04_Find.f (k + 1) a0 a1) := by
  intro a0 a1 k
  obtain ⟨ih0, ih1⟩ := pentroughref04_Find.mono_l k
  unfold pentroughref04_Find.f
  repeat' first
      | (with_reducible exact ih0 _ _ _ _ _)
      | (with_reducible exact ih1 _ _ _ _ _ _ _)
      | (with_reducible exact LeO.refl _)
      | (with_reducible exact LeO.none _)
      | (with_reducible refine LeO.ite ?_ ?_)
      | (with_reducible refine LeO.bind ?_ (fun _ => ?_))
      | exact ih0 _ _ _ _ _
      | exact ih1 _ _ _ _ _ _ _
      | exact LeO.none _
      | refine LeO.ite ?_ ?_
      | refine LeO.bind ?_ (fun _ => ?_)
set_option maxHeartbeats 8000000 in
set_option maxRecDepth 100000 in
theorem pentroughref04_Find.calls (k : Nat) (a0 : ByteArray) (a1 : Int) (r1 : List Int) (r2 : Bool) (w : World) (h : pentroughref04_Find.f k a0 a1 = some (r1, r2)) :
    Calls Try.prog 17 #[.string a0, .int .i64 a1] w fun e w' => ∃ v0_ : Value, e = .returned (.tuple #[v0_, .bool r2]) ∧ Kd.Q (Kd.int .i64) 3 w' w.heap.size (fun _ => True) v0_ r1 ∧ Below w.heap.size w w' := by
  have HB := Aside0.mk (Below.refl w.heap.size w)
  have H : (pentroughref04_Find.l0 k a0 a1 ([] : List Int) 0 0) = some (r1, r2) := h
  clear h
  have H' := Aside0.mk H
  clear H
  go_enter Try.func17, Try.ntmps17
  go_wp2
  go_loopg [6, 7, 8] k (fun kq v6 v7 v8 w' => ∃ (x6_1 : List Int) (x7_1 : Int) (x8_1 : Int), v7 = .int .i64 x7_1 ∧ v8 = .int .i64 x8_1 ∧ Aside0 (pentroughref04_Find.l0 kq a0 a1 x6_1 x7_1 x8_1 = some (r1, r2)) ∧ Aside0 (kq ≤ k) ∧ Aside0 (Kd.R (Kd.int .i64) 3 w' w.heap.size (fun _ => True) v6 x6_1) ∧ Aside0 (Below w.heap.size w w'))
  case atStart => exact ⟨(([] : List Int)), (0), (0), (by first | rfl | (simp; done) | (simp [*]; done)), (by first | rfl | (simp; done) | (simp [*]; done)), H', ⟨Nat.le_refl _⟩, ⟨by first | exact Kd.R_nil _ _ _ _ _ | exact Kd.N_nil _ _ _ _ _ | exact Kd.V_nil _ _ _ _ _ | exact Kd.Q_nil _ _ _ _ _ | exact Kd.S_nil _ _ _ _ _⟩, ⟨by repeat (first | (with_reducible first | exact HB.out | apply below_alloc | apply pw_below_drewN | apply below_drew1) | exact HB.out)⟩⟩
  case round =>
    clear H'
    try clear c1
    try clear p2
    obtain ⟨x6_1, x7_1, x8_1, rfl, rfl, HA, HK1, HO_6, HB⟩ := hrel
    cases gk with
    | zero => exact absurd HA.out (by simp [pentroughref04_Find.l0])
    | succ k1 =>
      have H := HA.out
      clear HA
      simp only [pentroughref04_Find.l0] at H
      by_cases c3 : x8_1 < (a0.size : Int)
      · rw [if_pos c3] at H
        have c3b0 : decide (x8_1 < (a0.size : Int)) = true := decide_eq_true c3
        clear c3
        by_cases c4 : 0 ≤ x8_1
        · rw [if_pos c4] at H
          have c4b0 : decide (0 ≤ x8_1) = true := decide_eq_true c4
          clear c4
          have HC6 := Aside0.mk H
          clear H
          have p5 : 0 ≤ (x8_1 : Int) := of_decide_eq_true (by first | (with_reducible assumption) | assumption)
          have q5 : x8_1 < (a0.size : Int) := of_decide_eq_true (by first | (with_reducible assumption) | assumption)
          have hx5 := bt_at a0 x8_1
          replace p5 := eq_true p5
          replace q5 := eq_true q5
          go_upto_if 25 with (fail)
          go_cut [25] (fun v25 wc => ∃ (kq : Nat) (x25_5 : Bool), v25 = .bool x25_5 ∧ Aside0 (pentroughref04_Find.j1 kq a0 a1 x6_1 x7_1 x8_1 (bt a0 x8_1) x25_5 = some (r1, r2)) ∧ Aside0 (kq ≤ k1) ∧ Aside0 (Kd.R (Kd.int .i64) 3 wc w.heap.size (fun _ => True) u6 x6_1) ∧ Aside0 (Below w.heap.size w wc))
          case first =>
            have H := HC6.out
            clear HC6
            by_cases c7 : (bt a0 x8_1) = 61
            · rw [if_pos c7] at H
              have c7b0 : ((bt a0 x8_1) == 61) = true := beq_iff_eq.mpr c7
              have c7b1 : ((bt a0 x8_1) != 61) = false := bne_eq_false_iff_eq.mpr c7
              clear c7
              (first | rw [c7b0] | (simp only [i64_w, i32_w]; rw [c7b0]) | skip)
              have H' := Aside0.mk H
              clear H
              go_wp2
              go_meet
              case rel => exact ⟨_, (((bt a0 x8_1) == 61)), (by first | rfl | (simp; done) | (simp [*]; done)), H', ⟨by have := HK1.out; first | omega | exact Nat.le_refl _⟩, ⟨by (with_reducible repeat (first | apply Kd.R_alloc | apply Kd.R_drewN | apply Kd.R_drew)); exact HO_6.out⟩, ⟨by repeat (first | (with_reducible first | exact HB.out | apply below_alloc | apply pw_below_drewN | apply below_drew1) | exact HB.out)⟩⟩
            · rw [if_neg c7] at H
              have c7b0 : ((bt a0 x8_1) == 61) = false := beq_eq_false_iff_ne.mpr c7
              have c7b1 : ((bt a0 x8_1) != 61) = true := bne_iff_ne.mpr c7
              (first | rw [c7b0] | (simp only [i64_w, i32_w]; rw [c7b0]) | skip)
              have H' := Aside0.mk H
              clear H
              go_wp2
              go_meet
              case rel => exact ⟨_, (((bt a0 x8_1) == 44)), (by first | rfl | (simp; done) | (simp [*]; done)), H', ⟨by have := HK1.out; first | omega | exact Nat.le_refl _⟩, ⟨by (with_reducible repeat (first | apply Kd.R_alloc | apply Kd.R_drewN | apply Kd.R_drew)); exact HO_6.out⟩, ⟨by repeat (first | (with_reducible first | exact HB.out | apply below_alloc | apply pw_below_drewN | apply below_drew1) | exact HB.out)⟩⟩
          case rest =>
            clear HC6
            try clear c1
            try clear p2
            try clear c3
            try clear c3b0
            try clear c4
            try clear c4b0
            try clear p5
            try clear q5
            try clear hx5
            try clear c7
            try clear c7b0
            try clear c7b1
            try clear p2
            try clear p5
            try clear q5
            obtain ⟨kq, x25_5, rfl, HA, HJ5, HO_6, HB⟩ := hcut
            cases kq with
            | zero => exact absurd HA.out (by simp [pentroughref04_Find.j1])
            | succ kj5 =>
              have H := HA.out
              clear HA
              simp only [pentroughref04_Find.j1] at H
              by_cases c8 : x25_5 = true
              · subst c8
                have H1 : (if x6_1.length < 17592186044416 then (pentroughref04_Find.l0 kj5 a0 a1 (x6_1 ++ [x7_1]) 0 (wrap64 (x8_1 + 1))) else (none)) = some (r1, r2) := by rw [if_pos rfl] at H; exact H
                clear H
                have H := H1
                clear H1
                by_cases c9 : x6_1.length < 17592186044416
                · rw [if_pos c9] at H
                  have LMc9 := Aside0.mk c9
                  clear c9
                  obtain ⟨y196, hy196⟩ : ∃ y_ : List Int, y_ = (x6_1 ++ [x7_1]) := ⟨_, rfl⟩
                  replace H : (pentroughref04_Find.l0 kj5 a0 a1 y196 0 (wrap64 (x8_1 + 1))) = some (r1, r2) := by first | (rw [hy196]; with_reducible exact H) | (have H2_ := (Option.bind_some _ _).symm.trans H; rw [hy196]; with_reducible exact H2_) | (have H2_ := (Option.bind_some _ _).symm.trans H; with_reducible exact H2_) | with_reducible exact H | (rw [hy196]; exact H) | exact H
                  have Ny196 := Aside0.mk hy196
                  clear hy196
                  have H' := Aside0.mk H
                  clear H
                  go_wp2_with (first | ((with_reducible refine gate_builtin (b := .append) (xs := #[.tmp 28, .tmp 30]) rfl ?_); at_builtin; refine Kd.R_append (Kd.int .i64) (w0 := w) w.heap.size rfl (.tmp 28) (.tmp 30) 22 3 (.int .i64 0) 8 rfl Try.underlying22 info3 rfl (by decide) (by omega) u6 x6_1 x7_1 [.int .i64 x7_1] (fun _ => True) (fun _ => False) rfl rfl ?aP (fun _ hk => hk.elim) ?aF ?aO ?aB ?aS ?aL ?_; (case aP => exact rfl); (case aB => exact (by repeat (first | (with_reducible first | exact HB.out | apply below_alloc | apply pw_below_drewN | apply below_drew1) | exact HB.out))); (case aF => exact (fun _ _ => trivial)); (case aO => exact (by (with_reducible repeat (first | apply Kd.R_alloc | apply Kd.R_drewN | apply Kd.R_drew)); exact HO_6.out)); (case aS => exact (below_size (by repeat (first | (with_reducible first | exact HB.out | apply below_alloc | apply pw_below_drewN | apply below_drew1) | exact HB.out)))); (case aL => have := LMc9.out; omega); intro v197 w10 ho hb hg hat; rw [← Ny196.out] at ho; have n0_ := Aside0.mk (hb); have n1_ := Aside0.mk (ho); clear HB; clear HO_6; have HB := n0_; have HO198 := n1_; clear n0_ n1_; clear ho hb hg hat))
                  go_roundg kj5
                  case measure => have := HK1.out; have := HJ5.out; omega
                  case rel => exact ⟨(y196), (0), (wrap64 (x8_1 + 1)), (by first | rfl | (simp; done) | (simp [*]; done)), (by first | rfl | (simp; done) | (simp [*]; done)), H', ⟨by have := HK1.out; have := HJ5.out; omega⟩, ⟨by (with_reducible repeat (first | apply Kd.R_alloc | apply Kd.R_drewN | apply Kd.R_drew)); exact HO198.out⟩, ⟨by repeat (first | (with_reducible first | exact HB.out | apply below_alloc | apply pw_below_drewN | apply below_drew1) | exact HB.out)⟩⟩
                · rw [if_neg c9] at H
                  exact absurd H (by simp)
              · replace c8 := Bool.eq_false_iff.mpr c8
                subst c8
                have H1 : (if (bt a0 x8_1) = 32 then (if x6_1.length < 17592186044416 then ((some (x6_1 ++ [x7_1] : List Int)).bind fun y199 => (if 0 < (y199.length : Int) then (if (rd y199 0) = a1 then (if 1 ≤ (y199.length : Int) then (some ((y199.drop (1 : Int).toNat), true)) else (none)) else (pentroughref04_Find.l0 kj5 a0 a1 ([] : List Int) 0 (wrap64 (x8_1 + 1)))) else (none))) else (none)) else (if 0 ≤ x8_1 then (if x8_1 < (a0.size : Int) then ((pentroughref04_Digit.f (bt a0 x8_1)).bind fun t206 => (pentroughref04_Find.l0 kj5 a0 a1 x6_1 (wrap64 ((wrap64 (x7_1 * 16)) + t206)) (wrap64 (x8_1 + 1)))) else (none)) else (none))) = some (r1, r2) := by rw [if_neg (show ¬ (false = true) by decide)] at H; exact H
                clear H
                have H := H1
                clear H1
                by_cases c11 : (bt a0 x8_1) = 32
                · rw [if_pos c11] at H
                  have c11b0 : ((bt a0 x8_1) == 32) = true := beq_iff_eq.mpr c11
                  have c11b1 : ((bt a0 x8_1) != 32) = false := bne_eq_false_iff_eq.mpr c11
                  clear c11
                  by_cases c12 : x6_1.length < 17592186044416
                  · rw [if_pos c12] at H
                    have LMc12 := Aside0.mk c12
                    clear c12
                    obtain ⟨y199, hy199⟩ : ∃ y_ : List Int, y_ = (x6_1 ++ [x7_1]) := ⟨_, rfl⟩
                    replace H : (if 0 < (y199.length : Int) then (if (rd y199 0) = a1 then (if 1 ≤ (y199.length : Int) then (some ((y199.drop (1 : Int).toNat), true)) else (none)) else (pentroughref04_Find.l0 kj5 a0 a1 ([] : List Int) 0 (wrap64 (x8_1 + 1)))) else (none)) = some (r1, r2) := by first | (rw [hy199]; with_reducible exact H) | (have H2_ := (Option.bind_some _ _).symm.trans H; rw [hy199]; with_reducible exact H2_) | (have H2_ := (Option.bind_some _ _).symm.trans H; with_reducible exact H2_) | with_reducible exact H | (rw [hy199]; exact H) | exact H
                    have Ny199 := Aside0.mk hy199
                    clear hy199
                    by_cases c13 : 0 < (y199.length : Int)
                    · rw [if_pos c13] at H
                      have c13b0 : decide (0 < (y199.length : Int)) = true := decide_eq_true c13
                      have c13b1 : decide (0 < y199.length) = true := decide_eq_true (by omega)
                      clear c13
                      by_cases c14 : (rd y199 0) = a1
                      · rw [if_pos c14] at H
                        have c14b0 : ((rd y199 0) == a1) = true := beq_iff_eq.mpr c14
                        have c14b1 : ((rd y199 0) != a1) = false := bne_eq_false_iff_eq.mpr c14
                        clear c14
                        by_cases c15 : 1 ≤ (y199.length : Int)
                        · rw [if_pos c15] at H
                          have c15b0 := eq_true c15
                          have c15b1 : decide (1 ≤ (y199.length : Int)) = true := decide_eq_true c15
                          clear c15
                          obtain ⟨y203, hy203⟩ : ∃ y_ : List Int, y_ = (y199.drop (1 : Int).toNat) := ⟨_, rfl⟩
                          replace H : (some (y203, true)) = some (r1, r2) := by first | (rw [hy203]; with_reducible exact H) | (have H2_ := (Option.bind_some _ _).symm.trans H; rw [hy203]; with_reducible exact H2_) | (have H2_ := (Option.bind_some _ _).symm.trans H; with_reducible exact H2_) | with_reducible exact H | (rw [hy203]; exact H) | exact H
                          have Ny203 := Aside0.mk hy203
                          clear hy203
                          simp only [Option.some.injEq, Prod.mk.injEq] at H
                          obtain ⟨rfl, rfl⟩ := H
                          go_wp2_with (first | ((with_reducible refine gate_builtin (b := .append) (xs := #[.tmp 34, .tmp 36]) rfl ?_); at_builtin; refine Kd.R_append (Kd.int .i64) (w0 := w) w.heap.size rfl (.tmp 34) (.tmp 36) 22 3 (.int .i64 0) 8 rfl Try.underlying22 info3 rfl (by decide) (by omega) u6 x6_1 x7_1 [.int .i64 x7_1] (fun _ => True) (fun _ => False) rfl rfl ?aP (fun _ hk => hk.elim) ?aF ?aO ?aB ?aS ?aL ?_; (case aP => exact rfl); (case aB => exact (by repeat (first | (with_reducible first | exact HB.out | apply below_alloc | apply pw_below_drewN | apply below_drew1) | exact HB.out))); (case aF => exact (fun _ _ => trivial)); (case aO => exact (by (with_reducible repeat (first | apply Kd.R_alloc | apply Kd.R_drewN | apply Kd.R_drew)); exact HO_6.out)); (case aS => exact (below_size (by repeat (first | (with_reducible first | exact HB.out | apply below_alloc | apply pw_below_drewN | apply below_drew1) | exact HB.out)))); (case aL => have := LMc12.out; omega); intro v200 w16 ho hb hg hat; rw [← Ny199.out] at ho; have n0_ := Aside0.mk (hb); have n1_ := Aside0.mk (ho); clear HB; clear HO_6; have HB := n0_; have HO201 := n1_; clear n0_ n1_; clear ho hb hg hat; obtain ⟨Ao17, co17, eo17⟩ := Kd.R_slice HO201.out; subst eo17; have p202 : 0 ≤ (0 : Int) := (by omega); have q202 : 0 < (y199.length : Int) := of_decide_eq_true (by first | (with_reducible assumption) | assumption); obtain ⟨ad202, e202, hx202_0⟩ := Kd.at_int (Kd.R_reads' HO201.out).2.2 0 p202 q202; cases e202; have qi202 : (0 < y199.length) = True := eq_true (by omega); (try rw [show ((0 : Int)).toNat = 0 from rfl] at hx202_0); (try rw [Addr.add_zero'] at hx202_0); replace p202 := eq_true p202; replace q202 := eq_true q202; have q18 : (1 : Int) ≤ ((y199.length : Int) : Int) := of_decide_eq_true (by first | (with_reducible assumption) | assumption); obtain ⟨i018, hi018, _, hsz18, _⟩ := info_parts info3; have hcut18 := cut_from (P := Try.prog) 22 3 .i64 Try.underlying22 hi018 1 hsz18 (some ad202) y199.length co17 1 (by omega) q18; have hr18 := Kd.Q_drop (k := (1 : Int).toNat) (Kd.Q_of_R HO201.out) (by omega); obtain ⟨A18, hA18⟩ : ∃ A1, A1 = (if co17 = (1 : Int).toNat then (some ad202) else ((some ad202) : Option Addr).map (·.add ((1 : Int).toNat * 1))) := ⟨_, rfl⟩; obtain ⟨c18, hc18⟩ : ∃ c1, c1 = co17 - (1 : Int).toNat := ⟨_, rfl⟩; have hy18 : y203.length = y199.length - (1 : Int).toNat := (by rw [Ny203.out, List.length_drop]); rw [← Ny203.out] at hr18; rw [← hy18, ← hA18, ← hc18] at hcut18; replace hr18 : Kd.Q (Kd.int .i64) 3 w16 w.heap.size (fun _ => True) (.slice A18 y203.length c18) y203 := (by rw [hA18, hc18, hy18]; exact hr18); have HE18 : Aside0 ((Value.slice A18 y203.length c18).ownBlock = (.slice (some ad202) y199.length co17 : Value).ownBlock) := ⟨by rw [hA18]; split <;> (cases ((some ad202) : Option Addr) <;> rfl)⟩; clear hy18 hi018 hsz18 HO201 hA18 hc18; have HO205 := Aside0.mk hr18; clear hr18; replace q18 := eq_true q18))
                          go_ret2
                          exact ⟨_, by first | rfl | (simp [errW_none, errW_some] <;> rfl) | (simp [*, errW_none, errW_some] <;> rfl), by (with_reducible repeat (first | apply Kd.Q_alloc | apply Kd.Q_drewN | apply Kd.Q_drew)); exact HO205.out, by repeat (first | (with_reducible first | exact HB.out | apply below_alloc | apply pw_below_drewN | apply below_drew1) | exact HB.out)⟩
                        · rw [if_neg c15] at H
                          exact absurd H (by simp)
                      · rw [if_neg c14] at H
                        have c14b0 : ((rd y199 0) == a1) = false := beq_eq_false_iff_ne.mpr c14
                        have c14b1 : ((rd y199 0) != a1) = true := bne_iff_ne.mpr c14
                        have H' := Aside0.mk H
                        clear H
                        go_wp2_with (first | ((with_reducible refine gate_builtin (b := .append) (xs := #[.tmp 34, .tmp 36]) rfl ?_); at_builtin; refine Kd.R_append (Kd.int .i64) (w0 := w) w.heap.size rfl (.tmp 34) (.tmp 36) 22 3 (.int .i64 0) 8 rfl Try.underlying22 info3 rfl (by decide) (by omega) u6 x6_1 x7_1 [.int .i64 x7_1] (fun _ => True) (fun _ => False) rfl rfl ?aP (fun _ hk => hk.elim) ?aF ?aO ?aB ?aS ?aL ?_; (case aP => exact rfl); (case aB => exact (by repeat (first | (with_reducible first | exact HB.out | apply below_alloc | apply pw_below_drewN | apply below_drew1) | exact HB.out))); (case aF => exact (fun _ _ => trivial)); (case aO => exact (by (with_reducible repeat (first | apply Kd.R_alloc | apply Kd.R_drewN | apply Kd.R_drew)); exact HO_6.out)); (case aS => exact (below_size (by repeat (first | (with_reducible first | exact HB.out | apply below_alloc | apply pw_below_drewN | apply below_drew1) | exact HB.out)))); (case aL => have := LMc12.out; omega); intro v200 w19 ho hb hg hat; rw [← Ny199.out] at ho; have n0_ := Aside0.mk (hb); have n1_ := Aside0.mk (ho); clear HB; clear HO_6; have HB := n0_; have HO201 := n1_; clear n0_ n1_; clear ho hb hg hat; obtain ⟨Ao20, co20, eo20⟩ := Kd.R_slice HO201.out; subst eo20; have p202 : 0 ≤ (0 : Int) := (by omega); have q202 : 0 < (y199.length : Int) := of_decide_eq_true (by first | (with_reducible assumption) | assumption); obtain ⟨ad202, e202, hx202_0⟩ := Kd.at_int (Kd.R_reads' HO201.out).2.2 0 p202 q202; cases e202; have qi202 : (0 < y199.length) = True := eq_true (by omega); (try rw [show ((0 : Int)).toNat = 0 from rfl] at hx202_0); (try rw [Addr.add_zero'] at hx202_0); replace p202 := eq_true p202; replace q202 := eq_true q202))
                        go_roundg kj5
                        case measure => have := HK1.out; have := HJ5.out; omega
                        case rel => exact ⟨(([] : List Int)), (0), (wrap64 (x8_1 + 1)), (by first | rfl | (simp; done) | (simp [*]; done)), (by first | rfl | (simp; done) | (simp [*]; done)), H', ⟨by have := HK1.out; have := HJ5.out; omega⟩, ⟨by first | exact Kd.R_nil _ _ _ _ _ | exact Kd.N_nil _ _ _ _ _ | exact Kd.V_nil _ _ _ _ _ | exact Kd.Q_nil _ _ _ _ _ | exact Kd.S_nil _ _ _ _ _⟩, ⟨by repeat (first | (with_reducible first | exact HB.out | apply below_alloc | apply pw_below_drewN | apply below_drew1) | exact HB.out)⟩⟩
                    · rw [if_neg c13] at H
                      exact absurd H (by simp)
                  · rw [if_neg c12] at H
                    exact absurd H (by simp)
                · rw [if_neg c11] at H
                  have c11b0 : ((bt a0 x8_1) == 32) = false := beq_eq_false_iff_ne.mpr c11
                  have c11b1 : ((bt a0 x8_1) != 32) = true := bne_iff_ne.mpr c11
                  by_cases c21 : 0 ≤ x8_1
                  · rw [if_pos c21] at H
                    have c21b0 : decide (0 ≤ x8_1) = true := decide_eq_true c21
                    clear c21
                    by_cases c22 : x8_1 < (a0.size : Int)
                    · rw [if_pos c22] at H
                      have c22b0 : decide (x8_1 < (a0.size : Int)) = true := decide_eq_true c22
                      clear c22
                      replace H := Option.bind_eq_some_iff.mp H
                      obtain ⟨t206, A240, H⟩ := H
                      replace H : (pentroughref04_Find.l0 kj5 a0 a1 x6_1 (wrap64 ((wrap64 (x7_1 * 16)) + t206)) (wrap64 (x8_1 + 1))) = some (r1, r2) := H
                      have A24 := Aside0.mk A240
                      clear A240
                      have H' := Aside0.mk H
                      clear H
                      have p23 : 0 ≤ (x8_1 : Int) := of_decide_eq_true (by first | (with_reducible assumption) | assumption)
                      have q23 : x8_1 < (a0.size : Int) := of_decide_eq_true (by first | (with_reducible assumption) | assumption)
                      have hx23 := bt_at a0 x8_1
                      replace p23 := eq_true p23
                      replace q23 := eq_true q23
                      go_wp2_with (first | ((with_reducible refine gate_callee (f := 19) rfl ?_); refine goesL_ (some 23) rfl rfl Try.func19 (by kernel_rfl) rfl #[.int .u8 (bt a0 x8_1)] rfl (by (try simp only [List.map_toArray, List.map_cons, List.map_nil]); first | done | rfl | (simp only [List.length_drop, List.length_take]; rfl)) ?_; (with_reducible refine (pentroughref04_Digit.calls (bt a0 x8_1) t206 _ A24.out).mono ?_); rintro e w' ⟨rfl, ⟨nd, rfl⟩⟩; refine ⟨_, rfl, ?_⟩))
                      go_roundg kj5
                      case measure => have := HK1.out; have := HJ5.out; omega
                      case rel => exact ⟨(x6_1), (wrap64 ((wrap64 (x7_1 * 16)) + t206)), (wrap64 (x8_1 + 1)), (by first | rfl | (simp; done) | (simp [*]; done)), (by first | rfl | (simp; done) | (simp [*]; done)), H', ⟨by have := HK1.out; have := HJ5.out; omega⟩, ⟨by (with_reducible repeat (first | apply Kd.R_alloc | apply Kd.R_drewN | apply Kd.R_drew)); exact HO_6.out⟩, ⟨by repeat (first | (with_reducible first | exact HB.out | apply below_alloc | apply pw_below_drewN | apply below_drew1) | exact HB.out)⟩⟩
                    · rw [if_neg c22] at H
                      exact absurd H (by simp)
                  · rw [if_neg c21] at H
                    exact absurd H (by simp)
        · rw [if_neg c4] at H
          exact absurd H (by simp)
      · rw [if_neg c3] at H
        have c3b0 : decide (x8_1 < (a0.size : Int)) = false := decide_eq_false c3
        clear c3
        simp only [Option.some.injEq, Prod.mk.injEq] at H
        obtain ⟨rfl, rfl⟩ := H
        go_wp2
        go_ret2
        exact ⟨_, by first | rfl | (simp [errW_none, errW_some] <;> rfl) | (simp [*, errW_none, errW_some] <;> rfl), Kd.Q_of_R (by first | exact Kd.R_nil _ _ _ _ _ | exact Kd.N_nil _ _ _ _ _ | exact Kd.V_nil _ _ _ _ _ | exact Kd.Q_nil _ _ _ _ _ | exact Kd.S_nil _ _ _ _ _), by repeat (first | (with_reducible first | exact HB.out | apply below_alloc | apply pw_below_drewN | apply below_drew1) | exact HB.out)⟩

/-! ### pentroughref06_table: function 18 -/
def pentroughref06_table.f  : Option (ByteArray) := some (⟨#[48, 48, 52, 49, 61, 48, 48, 54, 49, 32, 48, 48, 52, 50, 61, 48, 48, 54, 50, 32, 48, 48, 52, 51, 61, 48, 48, 54, 51, 32, 48, 48, 52, 52, 61, 48, 48, 54, 52, 32, 48, 48, 52, 53, 61, 48, 48, 54, 53, 32, 48, 48, 52, 54, 61, 48, 48, 54, 54, 32, 48, 48, 52, 55, 61, 48, 48, 54, 55, 32, 48, 48, 52, 56, 61, 48, 48, 54, 56, 32, 48, 48, 52, 57, 61, 48, 48, 54, 57, 32, 48, 48, 52, 65, 61, 48, 48, 54, 65, 32, 48, 48, 52, 66, 61, 48, 48, 54, 66, 32, 48, 48, 52, 67, 61, 48, 48, 54, 67, 32, 48, 48, 52, 68, 61, 48, 48, 54, 68, 32, 48, 48, 52, 69, 61, 48, 48, 54, 69, 32, 48, 48, 52, 70, 61, 48, 48, 54, 70, 32, 48, 48, 53, 48, 61, 48, 48, 55, 48, 32, 48, 48, 53, 49, 61, 48, 48, 55, 49, 32, 48, 48, 53, 50, 61, 48, 48, 55, 50, 32, 48, 48, 53, 51, 61, 48, 48, 55, 51, 32, 48, 48, 53, 52, 61, 48, 48, 55, 52, 32, 48, 48, 53, 53, 61, 48, 48, 55, 53, 32, 48, 48, 53, 54, 61, 48, 48, 55, 54, 32, 48, 48, 53, 55, 61, 48, 48, 55, 55, 32, 48, 48, 53, 56, 61, 48, 48, 55, 56, 32, 48, 48, 53, 57, 61, 48, 48, 55, 57, 32, 48, 48, 53, 65, 61, 48, 48, 55, 65, 32, 48, 48, 66, 53, 61, 48, 51, 66, 67, 32, 48, 48, 67, 48, 61, 48, 48, 69, 48, 32, 48, 48, 67, 49, 61, 48, 48, 69, 49, 32, 48, 48, 67, 50, 61, 48, 48, 69, 50, 32, 48, 48, 67, 51, 61, 48, 48, 69, 51, 32, 48, 48, 67, 52, 61, 48, 48, 69, 52, 32, 48, 48, 67, 53, 61, 48, 48, 69, 53, 32, 48, 48, 67, 54, 61, 48, 48, 69, 54, 32, 48, 48, 67, 55, 61, 48, 48, 69, 55, 32, 48, 48, 67, 56, 61, 48, 48, 69, 56, 32, 48, 48, 67, 57, 61, 48, 48, 69, 57, 32, 48, 48, 67, 65, 61, 48, 48, 69, 65, 32, 48, 48, 67, 66, 61, 48, 48, 69, 66, 32, 48, 48, 67, 67, 61, 48, 48, 69, 67, 32, 48, 48, 67, 68, 61, 48, 48, 69, 68, 32, 48, 48, 67, 69, 61, 48, 48, 69, 69, 32, 48, 48, 67, 70, 61, 48, 48, 69, 70, 32, 48, 48, 68, 48, 61, 48, 48, 70, 48, 32, 48, 48, 68, 49, 61, 48, 48, 70, 49, 32, 48, 48, 68, 50, 61, 48, 48, 70, 50, 32, 48, 48, 68, 51, 61, 48, 48, 70, 51, 32, 48, 48, 68, 52, 61, 48, 48, 70, 52, 32, 48, 48, 68, 53, 61, 48, 48, 70, 53, 32, 48, 48, 68, 54, 61, 48, 48, 70, 54, 32, 48, 48, 68, 56, 61, 48, 48, 70, 56, 32, 48, 48, 68, 57, 61, 48, 48, 70, 57, 32, 48, 48, 68, 65, 61, 48, 48, 70, 65, 32, 48, 48, 68, 66, 61, 48, 48, 70, 66, 32, 48, 48, 68, 67, 61, 48, 48, 70, 67, 32, 48, 48, 68, 68, 61, 48, 48, 70, 68, 32, 48, 48, 68, 69, 61, 48, 48, 70, 69, 32, 48, 48, 68, 70, 61, 48, 48, 55, 51, 44, 48, 48, 55, 51, 32, 48, 49, 48, 48, 61, 48, 49, 48, 49, 32, 48, 49, 48, 50, 61, 48, 49, 48, 51, 32, 48, 49, 48, 52, 61, 48, 49, 48, 53, 32, 48, 49, 48, 54, 61, 48, 49, 48, 55, 32, 48, 49, 48, 56, 61, 48, 49, 48, 57, 32, 48, 49, 48, 65, 61, 48, 49, 48, 66, 32, 48, 49, 48, 67, 61, 48, 49, 48, 68, 32, 48, 49, 48, 69, 61, 48, 49, 48, 70, 32, 48, 49, 49, 48, 61, 48, 49, 49, 49, 32, 48, 49, 49, 50, 61, 48, 49, 49, 51, 32, 48, 49, 49, 52, 61, 48, 49, 49, 53, 32, 48, 49, 49, 54, 61, 48, 49, 49, 55, 32, 48, 49, 49, 56, 61, 48, 49, 49, 57, 32, 48, 49, 49, 65, 61, 48, 49, 49, 66, 32, 48, 49, 49, 67, 61, 48, 49, 49, 68, 32, 48, 49, 49, 69, 61, 48, 49, 49, 70, 32, 48, 49, 50, 48, 61, 48, 49, 50, 49, 32, 48, 49, 50, 50, 61, 48, 49, 50, 51, 32, 48, 49, 50, 52, 61, 48, 49, 50, 53, 32, 48, 49, 50, 54, 61, 48, 49, 50, 55, 32, 48, 49, 50, 56, 61, 48, 49, 50, 57, 32, 48, 49, 50, 65, 61, 48, 49, 50, 66, 32, 48, 49, 50, 67, 61, 48, 49, 50, 68, 32, 48, 49, 50, 69, 61, 48, 49, 50, 70, 32, 48, 49, 51, 48, 61, 48, 48, 54, 57, 44, 48, 51, 48, 55, 32, 48, 49, 51, 50, 61, 48, 49, 51, 51, 32, 48, 49, 51, 52, 61, 48, 49, 51, 53, 32, 48, 49, 51, 54, 61, 48, 49, 51, 55, 32, 48, 49, 51, 57, 61, 48, 49, 51, 65, 32, 48, 49, 51, 66, 61, 48, 49, 51, 67, 32, 48, 49, 51, 68, 61, 48, 49, 51, 69, 32, 48, 49, 51, 70, 61, 48, 49, 52, 48, 32, 48, 49, 52, 49, 61, 48, 49, 52, 50, 32, 48, 49, 52, 51, 61, 48, 49, 52, 52, 32, 48, 49, 52, 53, 61, 48, 49, 52, 54, 32, 48, 49, 52, 55, 61, 48, 49, 52, 56, 32, 48, 49, 52, 57, 61, 48, 50, 66, 67, 44, 48, 48, 54, 69, 32, 48, 49, 52, 65, 61, 48, 49, 52, 66, 32, 48, 49, 52, 67, 61, 48, 49, 52, 68, 32, 48, 49, 52, 69, 61, 48, 49, 52, 70, 32, 48, 49, 53, 48, 61, 48, 49, 53, 49, 32, 48, 49, 53, 50, 61, 48, 49, 53, 51, 32, 48, 49, 53, 52, 61, 48, 49, 53, 53, 32, 48, 49, 53, 54, 61, 48, 49, 53, 55, 32, 48, 49, 53, 56, 61, 48, 49, 53, 57, 32, 48, 49, 53, 65, 61, 48, 49, 53, 66, 32, 48, 49, 53, 67, 61, 48, 49, 53, 68, 32, 48, 49, 53, 69, 61, 48, 49, 53, 70, 32, 48, 49, 54, 48, 61, 48, 49, 54, 49, 32, 48, 49, 54, 50, 61, 48, 49, 54, 51, 32, 48, 49, 54, 52, 61, 48, 49, 54, 53, 32, 48, 49, 54, 54, 61, 48, 49, 54, 55, 32, 48, 49, 54, 56, 61, 48, 49, 54, 57, 32, 48, 49, 54, 65, 61, 48, 49, 54, 66, 32, 48, 49, 54, 67, 61, 48, 49, 54, 68, 32, 48, 49, 54, 69, 61, 48, 49, 54, 70, 32, 48, 49, 55, 48, 61, 48, 49, 55, 49, 32, 48, 49, 55, 50, 61, 48, 49, 55, 51, 32, 48, 49, 55, 52, 61, 48, 49, 55, 53, 32, 48, 49, 55, 54, 61, 48, 49, 55, 55, 32, 48, 49, 55, 56, 61, 48, 48, 70, 70, 32, 48, 49, 55, 57, 61, 48, 49, 55, 65, 32, 48, 49, 55, 66, 61, 48, 49, 55, 67, 32, 48, 49, 55, 68, 61, 48, 49, 55, 69, 32, 48, 49, 55, 70, 61, 48, 48, 55, 51, 32, 48, 49, 65, 48, 61, 48, 49, 65, 49, 32, 48, 49, 65, 50, 61, 48, 49, 65, 51, 32, 48, 49, 65, 52, 61, 48, 49, 65, 53, 32, 48, 49, 65, 54, 61, 48, 50, 56, 48, 32, 48, 49, 65, 55, 61, 48, 49, 65, 56, 32, 48, 49, 65, 57, 61, 48, 50, 56, 51, 32, 48, 49, 65, 67, 61, 48, 49, 65, 68, 32, 48, 49, 65, 69, 61, 48, 50, 56, 56, 32, 48, 49, 65, 70, 61, 48, 49, 66, 48, 32, 48, 51, 52, 53, 61, 48, 51, 66, 57, 32, 48, 51, 56, 54, 61, 48, 51, 65, 67, 32, 48, 51, 56, 56, 61, 48, 51, 65, 68, 32, 48, 51, 56, 57, 61, 48, 51, 65, 69, 32, 48, 51, 56, 65, 61, 48, 51, 65, 70, 32, 48, 51, 56, 67, 61, 48, 51, 67, 67, 32, 48, 51, 56, 69, 61, 48, 51, 67, 68, 32, 48, 51, 56, 70, 61, 48, 51, 67, 69, 32, 48, 51, 57, 48, 61, 48, 51, 66, 57, 44, 48, 51, 48, 56, 44, 48, 51, 48, 49, 32, 48, 51, 57, 49, 61, 48, 51, 66, 49, 32, 48, 51, 57, 50, 61, 48, 51, 66, 50, 32, 48, 51, 57, 51, 61, 48, 51, 66, 51, 32, 48, 51, 57, 52, 61, 48, 51, 66, 52, 32, 48, 51, 57, 53, 61, 48, 51, 66, 53, 32, 48, 51, 57, 54, 61, 48, 51, 66, 54, 32, 48, 51, 57, 55, 61, 48, 51, 66, 55, 32, 48, 51, 57, 56, 61, 48, 51, 66, 56, 32, 48, 51, 57, 57, 61, 48, 51, 66, 57, 32, 48, 51, 57, 65, 61, 48, 51, 66, 65, 32, 48, 51, 57, 66, 61, 48, 51, 66, 66, 32, 48, 51, 57, 67, 61, 48, 51, 66, 67, 32, 48, 51, 57, 68, 61, 48, 51, 66, 68, 32, 48, 51, 57, 69, 61, 48, 51, 66, 69, 32, 48, 51, 57, 70, 61, 48, 51, 66, 70, 32, 48, 51, 65, 48, 61, 48, 51, 67, 48, 32, 48, 51, 65, 49, 61, 48, 51, 67, 49, 32, 48, 51, 65, 51, 61, 48, 51, 67, 51, 32, 48, 51, 65, 52, 61, 48, 51, 67, 52, 32, 48, 51, 65, 53, 61, 48, 51, 67, 53, 32, 48, 51, 65, 54, 61, 48, 51, 67, 54, 32, 48, 51, 65, 55, 61, 48, 51, 67, 55, 32, 48, 51, 65, 56, 61, 48, 51, 67, 56, 32, 48, 51, 65, 57, 61, 48, 51, 67, 57, 32, 48, 51, 65, 65, 61, 48, 51, 67, 65, 32, 48, 51, 65, 66, 61, 48, 51, 67, 66, 32, 48, 51, 66, 48, 61, 48, 51, 67, 53, 44, 48, 51, 48, 56, 44, 48, 51, 48, 49, 32, 48, 51, 67, 50, 61, 48, 51, 67, 51, 32, 49, 69, 65, 48, 61, 49, 69, 65, 49, 32, 49, 69, 65, 50, 61, 49, 69, 65, 51, 32, 49, 69, 65, 52, 61, 49, 69, 65, 53, 32, 49, 69, 65, 54, 61, 49, 69, 65, 55, 32, 49, 69, 65, 56, 61, 49, 69, 65, 57, 32, 49, 69, 65, 65, 61, 49, 69, 65, 66, 32, 49, 69, 65, 67, 61, 49, 69, 65, 68, 32, 49, 69, 65, 69, 61, 49, 69, 65, 70, 32, 49, 69, 66, 48, 61, 49, 69, 66, 49, 32, 49, 69, 66, 50, 61, 49, 69, 66, 51, 32, 49, 69, 66, 52, 61, 49, 69, 66, 53, 32, 49, 69, 66, 54, 61, 49, 69, 66, 55, 32, 49, 69, 66, 56, 61, 49, 69, 66, 57, 32, 49, 69, 66, 65, 61, 49, 69, 66, 66, 32, 49, 69, 66, 67, 61, 49, 69, 66, 68, 32, 49, 69, 66, 69, 61, 49, 69, 66, 70, 32, 49, 69, 67, 48, 61, 49, 69, 67, 49, 32, 49, 69, 67, 50, 61, 49, 69, 67, 51, 32, 49, 69, 67, 52, 61, 49, 69, 67, 53, 32, 49, 69, 67, 54, 61, 49, 69, 67, 55, 32, 49, 69, 67, 56, 61, 49, 69, 67, 57, 32, 49, 69, 67, 65, 61, 49, 69, 67, 66, 32, 49, 69, 67, 67, 61, 49, 69, 67, 68, 32, 49, 69, 67, 69, 61, 49, 69, 67, 70, 32, 49, 69, 68, 48, 61, 49, 69, 68, 49, 32, 49, 69, 68, 50, 61, 49, 69, 68, 51, 32, 49, 69, 68, 52, 61, 49, 69, 68, 53, 32, 49, 69, 68, 54, 61, 49, 69, 68, 55, 32, 49, 69, 68, 56, 61, 49, 69, 68, 57, 32, 49, 69, 68, 65, 61, 49, 69, 68, 66, 32, 49, 69, 68, 67, 61, 49, 69, 68, 68, 32, 49, 69, 68, 69, 61, 49, 69, 68, 70, 32, 49, 69, 69, 48, 61, 49, 69, 69, 49, 32, 49, 69, 69, 50, 61, 49, 69, 69, 51, 32, 49, 69, 69, 52, 61, 49, 69, 69, 53, 32, 49, 69, 69, 54, 61, 49, 69, 69, 55, 32, 49, 69, 69, 56, 61, 49, 69, 69, 57, 32, 49, 69, 69, 65, 61, 49, 69, 69, 66, 32, 49, 69, 69, 67, 61, 49, 69, 69, 68, 32, 49, 69, 69, 69, 61, 49, 69, 69, 70, 32, 49, 69, 70, 48, 61, 49, 69, 70, 49, 32, 49, 69, 70, 50, 61, 49, 69, 70, 51, 32, 49, 69, 70, 52, 61, 49, 69, 70, 53, 32, 49, 69, 70, 54, 61, 49, 69, 70, 55, 32, 49, 69, 70, 56, 61, 49, 69, 70, 57, 32]⟩ : ByteArray)
set_option maxHeartbeats 8000000 in
set_option maxRecDepth 100000 in
theorem pentroughref06_table.calls  (r : ByteArray) (w : World) (h : pentroughref06_table.f  = some r) :
    Calls Try.prog 18 #[] w fun e w' => e = .returned (.string r) ∧ Drawn0 w w' := by
  obtain rfl := Option.some.inj h
  go_enter Try.func18, Try.ntmps18
  go_wp2
  go_ret
  exact ⟨by kernel_rfl, by repeat (first | exact Drawn0.refl _ | apply Drawn0.step)⟩

/-! ### pentroughref06_Fold: function 10 -/
def pentroughref06_Fold.f (k : Nat) (a0 : Int) : Option (List Int) := (pentroughref06_table.f).bind fun t207 => ((pentroughref04_Find.f k t207 a0).bind fun bt208 => (if bt208.2 = true then (some bt208.1) else (some (([a0] : List Int)))))
theorem pentroughref06_Fold.mono : ∀ a0 k, LeO (pentroughref06_Fold.f k a0) (pentroughref06_Fold.f (k + 1) a0) := by
  intro a0 k
  unfold pentroughref06_Fold.f
  repeat' first
      | (with_reducible exact pentroughref04_Find.mono _ _ _)
      | (with_reducible exact LeO.refl _)
      | (with_reducible exact LeO.none _)
      | (with_reducible refine LeO.ite ?_ ?_)
      | (with_reducible refine LeO.bind ?_ (fun _ => ?_))
      | exact pentroughref04_Find.mono _ _ _
      | exact LeO.none _
      | refine LeO.ite ?_ ?_
      | refine LeO.bind ?_ (fun _ => ?_)
set_option maxHeartbeats 8000000 in
set_option maxRecDepth 100000 in
theorem pentroughref06_Fold.calls (k : Nat) (a0 : Int) (r : List Int) (w : World) (h : pentroughref06_Fold.f k a0 = some r) :
    Calls Try.prog 10 #[.int .i64 a0] w fun e w' => ∃ v0_ : Value, e = .returned (v0_) ∧ Kd.Q (Kd.int .i64) 3 w' w.heap.size (fun _ => True) v0_ r ∧ Below w.heap.size w w' := by
  have HB := Aside0.mk (Below.refl w.heap.size w)
  have H : ((pentroughref06_table.f).bind fun t207 => ((pentroughref04_Find.f k t207 a0).bind fun bt208 => (if bt208.2 = true then (some bt208.1) else (some (([a0] : List Int)))))) = some r := h
  clear h
  replace H := Option.bind_eq_some_iff.mp H
  obtain ⟨t207, A20, H⟩ := H
  replace H : ((pentroughref04_Find.f k t207 a0).bind fun bt208 => (if bt208.2 = true then (some bt208.1) else (some (([a0] : List Int))))) = some r := H
  have A2 := Aside0.mk A20
  clear A20
  replace H := Option.bind_eq_some_iff.mp H
  obtain ⟨⟨t208, t209⟩, A30, H⟩ := H
  replace H : (if t209 = true then (some t208) else (some (([a0] : List Int)))) = some r := H
  have A3 := Aside0.mk A30
  clear A30
  by_cases c4 : t209 = true
  · subst c4
    have H1 : (some t208) = some r := by rw [if_pos rfl] at H; exact H
    clear H
    have H := H1
    clear H1
    obtain rfl := Option.some.inj H
    go_enter Try.func10, Try.ntmps10
    go_wp2_with (first | ((with_reducible refine gate_callee (f := 18) rfl ?_); refine goesL_ (some 6) rfl rfl Try.func18 (by kernel_rfl) rfl #[] rfl (by (try simp only [List.map_toArray, List.map_cons, List.map_nil]); first | done | rfl | (simp only [List.length_drop, List.length_take]; rfl)) ?_; (with_reducible refine (pentroughref06_table.calls  t207 _ A2.out).mono ?_); rintro e w' ⟨rfl, ⟨nd, rfl⟩⟩; refine ⟨_, rfl, ?_⟩) | ((with_reducible refine gate_callee (f := 17) rfl ?_); refine goesL_ (some 8) rfl rfl Try.func17 (by kernel_rfl) rfl #[.string t207, .int .i64 a0] rfl (by (try simp only [List.map_toArray, List.map_cons, List.map_nil]); first | done | rfl | (simp only [List.length_drop, List.length_take]; rfl)) ?_; (with_reducible refine (pentroughref04_Find.calls k t207 a0 t208 true _ A3.out).mono ?_); rintro e w5 ⟨v210, rfl, ho0, hb⟩; refine ⟨_, rfl, ?_⟩; have n0_ := Aside0.mk (Kd.Q_lower ho0 (below_size (by repeat (first | (with_reducible first | exact HB.out | apply below_alloc | apply pw_below_drewN | apply below_drew1) | exact HB.out)))); have n1_ := Aside0.mk (below_step (by repeat (first | (with_reducible first | exact HB.out | apply below_alloc | apply pw_below_drewN | apply below_drew1) | exact HB.out)) hb); clear HB; have HO211 := n0_; have HB := n1_; clear n0_ n1_; (try clear hb); (try clear hb2); (try clear hk); (try clear hi); (try clear ho0)))
    go_ret
    exact ⟨_, by first | rfl | (simp [errW_none, errW_some] <;> rfl) | (simp [*, errW_none, errW_some] <;> rfl), by (with_reducible repeat (first | apply Kd.Q_alloc | apply Kd.Q_drewN | apply Kd.Q_drew)); exact HO211.out, by repeat (first | (with_reducible first | exact HB.out | apply below_alloc | apply pw_below_drewN | apply below_drew1) | exact HB.out)⟩
  · replace c4 := Bool.eq_false_iff.mpr c4
    subst c4
    have H1 : (some (([a0] : List Int))) = some r := by rw [if_neg (show ¬ (false = true) by decide)] at H; exact H
    clear H
    have H := H1
    clear H1
    obtain ⟨y212, hy212⟩ : ∃ y_ : List Int, y_ = (([a0] : List Int)) := ⟨_, rfl⟩
    replace H : (some y212) = some r := by first | (rw [hy212]; with_reducible exact H) | (have H2_ := (Option.bind_some _ _).symm.trans H; rw [hy212]; with_reducible exact H2_) | (have H2_ := (Option.bind_some _ _).symm.trans H; with_reducible exact H2_) | with_reducible exact H | (rw [hy212]; exact H) | exact H
    have Ny212 := Aside0.mk hy212
    clear hy212
    obtain rfl := Option.some.inj H
    go_enter Try.func10, Try.ntmps10
    go_wp2_with (first | ((with_reducible refine gate_callee (f := 18) rfl ?_); refine goesL_ (some 6) rfl rfl Try.func18 (by kernel_rfl) rfl #[] rfl (by (try simp only [List.map_toArray, List.map_cons, List.map_nil]); first | done | rfl | (simp only [List.length_drop, List.length_take]; rfl)) ?_; (with_reducible refine (pentroughref06_table.calls  t207 _ A2.out).mono ?_); rintro e w' ⟨rfl, ⟨nd, rfl⟩⟩; refine ⟨_, rfl, ?_⟩) | ((with_reducible refine gate_callee (f := 17) rfl ?_); refine goesL_ (some 8) rfl rfl Try.func17 (by kernel_rfl) rfl #[.string t207, .int .i64 a0] rfl (by (try simp only [List.map_toArray, List.map_cons, List.map_nil]); first | done | rfl | (simp only [List.length_drop, List.length_take]; rfl)) ?_; (with_reducible refine (pentroughref04_Find.calls k t207 a0 t208 false _ A3.out).mono ?_); rintro e w6 ⟨v210, rfl, ho0, hb⟩; refine ⟨_, rfl, ?_⟩; have n0_ := Aside0.mk (Kd.Q_lower ho0 (below_size (by repeat (first | (with_reducible first | exact HB.out | apply below_alloc | apply pw_below_drewN | apply below_drew1) | exact HB.out)))); have n1_ := Aside0.mk (below_step (by repeat (first | (with_reducible first | exact HB.out | apply below_alloc | apply pw_below_drewN | apply below_drew1) | exact HB.out)) hb); clear HB; have HO211 := n0_; have HB := n1_; clear n0_ n1_; (try clear hb); (try clear hb2); (try clear hk); (try clear hi); (try clear ho0)) | ((with_reducible refine gate_dst (N := 14) rfl ?_); refine Kd.R_lit (Kd.int .i64) _ 3 ?hg (N := 14) ?hd (xs := ([a0] : List Int)) (inner := [.int .i64 a0]) (ok := fun _ => True) (okp := fun _ => True) ?hr ?hp (fun _ hk => hk) trivial (Below.refl _ _) (Nat.le_refl _) (by simp) ?_; (case hd => rfl); (case hg => rfl); (case hr => first | (go_simp; done) | (go_simp; rfl)); (case hp => exact (Reps.one (show Kd.M (Kd.int .i64) _ _ _ a0 [.int .i64 a0] from rfl) (Reps.none _ _))); intro v213 w7 ho8 hb hg_ hnew_; clear hg_ hnew_; (first | rw [← Ny212.out] at ho8 | (simp only [Int.reduceToNat] at ho8; rw [← Ny212.out] at ho8)); have n0_ := Aside0.mk (Kd.Q_elder' (by (with_reducible repeat (first | apply Kd.Q_alloc | apply Kd.Q_drewN | apply Kd.Q_drew)); exact HO211.out) (Kd.R_base ho8) hb); have n1_ := Aside0.mk (Kd.R_lower (Kd.R_new' ho8 (Kd.Q_lt (by (with_reducible repeat (first | apply Kd.Q_alloc | apply Kd.Q_drewN | apply Kd.Q_drew)); exact HO211.out))) (below_size (by repeat (first | (with_reducible first | exact HB.out | apply below_alloc | apply pw_below_drewN | apply below_drew1) | exact HB.out)))); have n2_ := Aside0.mk (below_step (by repeat (first | (with_reducible first | exact HB.out | apply below_alloc | apply pw_below_drewN | apply below_drew1) | exact HB.out)) hb); clear HO211; clear HB; have HO211 := n0_; have HO214 := n1_; have HB := n2_; clear n0_ n1_ n2_; clear hb ho8))
    go_ret
    exact ⟨_, by first | rfl | (simp [errW_none, errW_some] <;> rfl) | (simp [*, errW_none, errW_some] <;> rfl), Kd.Q_of_R (by (with_reducible repeat (first | apply Kd.R_alloc | apply Kd.R_drewN | apply Kd.R_drew)); exact Kd.R_mono HO214.out (fun _ hk => trivial)), by repeat (first | (with_reducible first | exact HB.out | apply below_alloc | apply pw_below_drewN | apply below_drew1) | exact HB.out)⟩

end Go.Proofs.Yteemdonegpnkcaa.Q
