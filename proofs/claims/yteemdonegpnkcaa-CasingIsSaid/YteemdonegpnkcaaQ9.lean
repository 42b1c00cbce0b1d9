-- Laid by mix.py, a program of this session, with the kit's print.py; walks by hand come out of wip/over.
import Derived.Test.YteemdonegpnkcaaQ0
import Derived.Test.YteemdonegpnkcaaQ1
import Derived.Test.YteemdonegpnkcaaQ2
import Derived.Test.YteemdonegpnkcaaQ3
import Derived.Test.YteemdonegpnkcaaQ8
namespace Go.Proofs.Yteemdonegpnkcaa.Q
open Go.RowKit Go.Proofs.YteemdonegpnkcaaW.PrintWords Go.Proofs.YteemdonegpnkcaaW.PrintLast Go.Proofs.YteemdonegpnkcaaW.PrintMore
attribute [local go_sem] max2_int min2_int max_two min_two max_three min_three max_four min_four   -- for this text's walks alone
set_option linter.unusedVariables false
set_option linter.unusedSimpArgs false

/-! ### pentroughlaw06_CasingOnce: function 6 -/
mutual
def pentroughlaw06_CasingOnce.j0 : Nat → Int → Bool → List Int → Bool → Option (Bool)
  | 0, _, _, _, _ => none
  | k + 1, x0, x3, x4, x16 => if x16 = true then (some false) else (pentroughlaw06_CasingOnce.l0 k x0 x3 x4 0)
def pentroughlaw06_CasingOnce.l0 : Nat → Int → Bool → List Int → Int → Option (Bool)
  | 0, _, _, _, _ => none
  | k + 1, x0, x3, x4, x5 => if x5 < (x4.length : Int) then ((dec_Good.f x0).bind fun t281 => (if t281 = true then (if 0 ≤ x5 then ((dec_Good.f (rd x4 x5)).bind fun t283 => (if t283 = true then (pentroughlaw06_CasingOnce.l0 k x0 x3 x4 (wrap64 (x5 + 1))) else (some false))) else (none)) else (pentroughlaw06_CasingOnce.l0 k x0 x3 x4 (wrap64 (x5 + 1))))) else (if x0 ≥ 65 then (if x0 ≤ 90 then (if (x4.length : Int) = 1 then (if 0 < (x4.length : Int) then (if (rd x4 0) = (wrap64 (x0 + 32)) then (if x0 ≥ 0 then (if x0 < 128 then (if x0 < 65 then (pentroughlaw06_CasingOnce.j2 k x3 x4 ((rd x4 0) != x0)) else (if x0 > 90 then (pentroughlaw06_CasingOnce.j2 k x3 x4 ((rd x4 0) != x0)) else (pentroughlaw06_CasingOnce.j2 k x3 x4 false))) else (pentroughlaw06_CasingOnce.j2 k x3 x4 false)) else (pentroughlaw06_CasingOnce.j2 k x3 x4 false)) else (pentroughlaw06_CasingOnce.j2 k x3 x4 true)) else (none)) else (pentroughlaw06_CasingOnce.j2 k x3 x4 true)) else (if x0 ≥ 0 then (if x0 < 128 then (if x0 < 65 then (if 0 < (x4.length : Int) then (pentroughlaw06_CasingOnce.j2 k x3 x4 ((rd x4 0) != x0)) else (none)) else (if x0 > 90 then (if 0 < (x4.length : Int) then (pentroughlaw06_CasingOnce.j2 k x3 x4 ((rd x4 0) != x0)) else (none)) else (pentroughlaw06_CasingOnce.j2 k x3 x4 false))) else (pentroughlaw06_CasingOnce.j2 k x3 x4 false)) else (pentroughlaw06_CasingOnce.j2 k x3 x4 false))) else (if x0 ≥ 0 then (if x0 < 128 then (if x0 < 65 then (if 0 < (x4.length : Int) then (pentroughlaw06_CasingOnce.j2 k x3 x4 ((rd x4 0) != x0)) else (none)) else (if x0 > 90 then (if 0 < (x4.length : Int) then (pentroughlaw06_CasingOnce.j2 k x3 x4 ((rd x4 0) != x0)) else (none)) else (pentroughlaw06_CasingOnce.j2 k x3 x4 false))) else (pentroughlaw06_CasingOnce.j2 k x3 x4 false)) else (pentroughlaw06_CasingOnce.j2 k x3 x4 false)))
def pentroughlaw06_CasingOnce.j2 : Nat → Bool → List Int → Bool → Option (Bool)
  | 0, _, _, _ => none
  | k + 1, x3, x4, x74 => if x74 = true then (some false) else (if x3 = true then ((casing_All.f k x4).bind fun t291 => ((pentroughref01_Same.f k t291 x4).bind fun t294 => (some t294))) else (some false))
end
def pentroughlaw06_CasingOnce.f (k : Nat) (a0 : Int) : Option (Bool) := (pentroughlaw06_awake.f k).bind fun t277 => ((casing_Fold.f k a0).bind fun t278 => (if (t278.length : Int) < 1 then (pentroughlaw06_CasingOnce.j0 k a0 t277 t278 true) else (pentroughlaw06_CasingOnce.j0 k a0 t277 t278 (decide ((t278.length : Int) > 3)))))
theorem pentroughlaw06_CasingOnce.mono_l : ∀ k, (∀ y0 y1 y2 y3, LeO (pentroughlaw06_CasingOnce.j0 k y0 y1 y2 y3) (pentroughlaw06_CasingOnce.j0 (k + 1) y0 y1 y2 y3)) ∧ (∀ y0 y1 y2 y3, LeO (pentroughlaw06_CasingOnce.l0 k y0 y1 y2 y3) (pentroughlaw06_CasingOnce.l0 (k + 1) y0 y1 y2 y3)) ∧ (∀ y0 y1 y2, LeO (pentroughlaw06_CasingOnce.j2 k y0 y1 y2) (pentroughlaw06_CasingOnce.j2 (k + 1) y0 y1 y2))
  | 0 => ⟨fun _ _ _ _ r h => by simp [pentroughlaw06_CasingOnce.j0] at h, fun _ _ _ _ r h => by simp [pentroughlaw06_CasingOnce.l0] at h, fun _ _ _ r h => by simp [pentroughlaw06_CasingOnce.j2] at h⟩
  | k + 1 => by
    obtain ⟨ih0, ih1, ih2⟩ := pentroughlaw06_CasingOnce.mono_l k
    refine ⟨?_, ?_, ?_⟩
    · intro y0 y1 y2 y3
      unfold pentroughlaw06_CasingOnce.j0
      repeat' first
      | (with_reducible exact ih0 _ _ _ _)
      | (with_reducible exact ih1 _ _ _ _)
      | (with_reducible exact ih2 _ _ _)
      | (with_reducible exact casing_All.mono _ _)
      | (with_reducible exact casing_Fold.mono _ _)
      | (with_reducible exact pentroughlaw06_awake.mono _)
      | (with_reducible exact pentroughref01_Same.mono _ _ _)
      | (with_reducible exact LeO.refl _)
      | (with_reducible exact LeO.none _)
      | (with_reducible refine LeO.ite ?_ ?_)
      | (with_reducible refine LeO.bind ?_ (fun _ => ?_))
      | exact ih0 _ _ _ _
      | exact ih1 _ _ _ _
      | exact ih2 _ _ _
      | exact casing_All.mono _ _
      | exact casing_Fold.mono _ _
      | exact pentroughlaw06_awake.mono _
      | exact pentroughref01_Same.mono _ _ _
      | exact LeO.none _
      | refine LeO.ite ?_ ?_
      | refine LeO.bind ?_ (fun _ => ?_)
    · intro y0 y1 y2 y3
      unfold pentroughlaw06_CasingOnce.l0
      repeat' first
      | (with_reducible exact ih0 _ _ _ _)
      | (with_reducible exact ih1 _ _ _ _)
      | (with_reducible exact ih2 _ _ _)
      | (with_reducible exact casing_All.mono _ _)
      | (with_reducible exact casing_Fold.mono _ _)
      | (with_reducible exact pentroughlaw06_awake.mono _)
      | (with_reducible exact pentroughref01_Same.mono _ _ _)
      | (with_reducible exact LeO.refl _)
      | (with_reducible exact LeO.none _)
      | (with_reducible refine LeO.ite ?_ ?_)
      | (with_reducible refine LeO.bind ?_ (fun _ => ?_))
      | exact ih0 _ _ _ _
      | exact ih1 _ _ _ _
      | exact ih2 _ _ _
      | exact casing_All.mono _ _
      | exact casing_Fold.mono _ _
      | exact pentroughlaw06_awake.mono _
      | exact pentroughref01_Same.mono _ _ _
      | exact LeO.none _
      | refine LeO.ite ?_ ?_
      | refine LeO.bind ?_ (fun _ => ?_)
    · intro y0 y1 y2
      unfold pentroughlaw06_CasingOnce.j2
      repeat' first
      | (with_reducible exact ih0 _ _ _ _)
      | (with_reducible exact ih1 _ _ _ _)
      | (with_reducible exact ih2 _ _ _)
      | (with_reducible exact casing_All.mono _ _)
      | (with_reducible exact casing_Fold.mono _ _)
      | (with_reducible exact pentroughlaw06_awake.mono _)
      | (with_reducible exact pentroughref01_Same.mono _ _ _)
      | (with_reducible exact LeO.refl _)
      | (with_reducible exact LeO.none _)
      | (with_reducible refine LeO.ite ?_ ?_)
      | (with_reducible refine LeO.bind ?_ (fun _ => ?_))
      | exact ih0 _ _ _ _
      | exact ih1 _ _ _ _
      | exact ih2 _ _ _
      | exact casing_All.mono _ _
      | exact casing_Fold.mono _ _
      | exact pentroughlaw06_awake.mono _
      | exact pentroughref01_Same.mono _ _ _
      | exact LeO.none _
      | refine LeO.ite ?_ ?_
      | refine LeO.bind ?_ (fun _ => ?_)
theorem pentroughlaw06_CasingOnce.mono : ∀ a0 k, LeO (pentroughlaw06_CasingOnce.f k a0) (pentroughlaw06_CasingOnce.f (k + 1) a0) := by
  intro a0 k
  obtain ⟨ih0, ih1, ih2⟩ := pentroughlaw06_CasingOnce.mono_l k
  unfold pentroughlaw06_CasingOnce.f
  repeat' first
      | (with_reducible exact ih0 _ _ _ _)
      | (with_reducible exact ih1 _ _ _ _)
      | (with_reducible exact ih2 _ _ _)
      | (with_reducible exact casing_All.mono _ _)
      | (with_reducible exact casing_Fold.mono _ _)
      | (with_reducible exact pentroughlaw06_awake.mono _)
      | (with_reducible exact pentroughref01_Same.mono _ _ _)
      | (with_reducible exact LeO.refl _)
      | (with_reducible exact LeO.none _)
      | (with_reducible refine LeO.ite ?_ ?_)
      | (with_reducible refine LeO.bind ?_ (fun _ => ?_))
      | exact ih0 _ _ _ _
      | exact ih1 _ _ _ _
      | exact ih2 _ _ _
      | exact casing_All.mono _ _
      | exact casing_Fold.mono _ _
      | exact pentroughlaw06_awake.mono _
      | exact pentroughref01_Same.mono _ _ _
      | exact LeO.none _
      | refine LeO.ite ?_ ?_
      | refine LeO.bind ?_ (fun _ => ?_)
set_option maxHeartbeats 8000000 in
set_option maxRecDepth 100000 in
theorem pentroughlaw06_CasingOnce.calls (k : Nat) (a0 : Int) (r : Bool) (w : World) (h : pentroughlaw06_CasingOnce.f k a0 = some r) :
    Calls Try.prog 6 #[.int .i64 a0] w fun e w' => e = .returned (.bool r) ∧ Below w.heap.size w w' := by
  have HB := Aside0.mk (Below.refl w.heap.size w)
  have H : ((pentroughlaw06_awake.f k).bind fun t277 => ((casing_Fold.f k a0).bind fun t278 => (if (t278.length : Int) < 1 then (pentroughlaw06_CasingOnce.j0 k a0 t277 t278 true) else (pentroughlaw06_CasingOnce.j0 k a0 t277 t278 (decide ((t278.length : Int) > 3)))))) = some r := h
  clear h
  replace H := Option.bind_eq_some_iff.mp H
  obtain ⟨t277, A20, H⟩ := H
  replace H : ((casing_Fold.f k a0).bind fun t278 => (if (t278.length : Int) < 1 then (pentroughlaw06_CasingOnce.j0 k a0 t277 t278 true) else (pentroughlaw06_CasingOnce.j0 k a0 t277 t278 (decide ((t278.length : Int) > 3))))) = some r := H
  have A2 := Aside0.mk A20
  clear A20
  replace H := Option.bind_eq_some_iff.mp H
  obtain ⟨t278, A30, H⟩ := H
  replace H : (if (t278.length : Int) < 1 then (pentroughlaw06_CasingOnce.j0 k a0 t277 t278 true) else (pentroughlaw06_CasingOnce.j0 k a0 t277 t278 (decide ((t278.length : Int) > 3)))) = some r := H
  have A3 := Aside0.mk A30
  clear A30
  have HC4 := Aside0.mk H
  clear H
  go_enter Try.func6, Try.ntmps6
  go_upto_region 3 with (first | ((with_reducible refine gate_callee (f := 7) rfl ?_); refine goesL_ (some 6) rfl rfl Try.func7 (by kernel_rfl) rfl #[] rfl (by (try simp only [List.map_toArray, List.map_cons, List.map_nil]); first | done | rfl | (simp only [List.length_drop, List.length_take]; rfl)) ?_; (with_reducible refine (pentroughlaw06_awake.calls k  t277 _ A2.out).mono ?_); rintro e w5 ⟨rfl, hb⟩; refine ⟨_, rfl, ?_⟩; have n0_ := Aside0.mk (below_step (by repeat (first | (with_reducible first | exact HB.out | apply below_alloc | apply pw_below_drewN | apply below_drew1) | exact HB.out)) hb); clear HB; have HB := n0_; clear n0_; (try clear hb); (try clear hb2); (try clear hk); (try clear hi)) | ((with_reducible refine gate_callee (f := 9) rfl ?_); refine goesL_ (some 8) rfl rfl Try.func9 (by kernel_rfl) rfl #[.int .i64 a0] rfl (by (try simp only [List.map_toArray, List.map_cons, List.map_nil]); first | done | rfl | (simp only [List.length_drop, List.length_take]; rfl)) ?_; (with_reducible refine (casing_Fold.calls k a0 t278 _ A3.out).mono ?_); rintro e w6 ⟨v279, rfl, ho0, hb⟩; refine ⟨_, rfl, ?_⟩; have n0_ := Aside0.mk (Kd.R_lower ho0 (below_size (by repeat (first | (with_reducible first | exact HB.out | apply below_alloc | apply pw_below_drewN | apply below_drew1) | exact HB.out)))); have n1_ := Aside0.mk (below_step (by repeat (first | (with_reducible first | exact HB.out | apply below_alloc | apply pw_below_drewN | apply below_drew1) | exact HB.out)) hb); clear HB; have HO280 := n0_; have HB := n1_; clear n0_ n1_; (try clear hb); (try clear hb2); (try clear hk); (try clear hi); (try clear ho0)))
  (try simp only [Act.put, List.setIfInBounds_toArray, List.set_cons_zero, List.set_cons_succ])
  go_cut [16] (fun v16 wc => ∃ (kq : Nat) (x16_3 : Bool), v16 = .bool x16_3 ∧ Aside0 (pentroughlaw06_CasingOnce.j0 kq a0 t277 t278 x16_3 = some r) ∧ Aside0 (kq ≤ k) ∧ Aside0 (Kd.R (Kd.int .i64) 3 wc w.heap.size (fun _ => True) v279 t278) ∧ Aside0 (Below w.heap.size w wc))
  case first =>
    have H := HC4.out
    clear HC4
    by_cases c7 : (t278.length : Int) < 1
    · rw [if_pos c7] at H
      have c7b0 : decide ((t278.length : Int) < 1) = true := decide_eq_true c7
      have c7b1 : decide (t278.length < 1) = true := decide_eq_true (by omega)
      clear c7
      (first | rw [c7b0] | (simp only [i64_w, i32_w]; rw [c7b0]) | skip)
      have H' := Aside0.mk H
      clear H
      obtain ⟨Ao8, co8, eo8⟩ := Kd.R_slice HO280.out
      subst eo8
      go_wp2
      go_meet
      case rel => exact ⟨_, (true), (by first | rfl | (simp; done) | (simp [*]; done)), H', ⟨by first | omega | exact Nat.le_refl _⟩, ⟨by (with_reducible repeat (first | apply Kd.R_alloc | apply Kd.R_drewN | apply Kd.R_drew)); exact HO280.out⟩, ⟨by repeat (first | (with_reducible first | exact HB.out | apply below_alloc | apply pw_below_drewN | apply below_drew1) | exact HB.out)⟩⟩
    · rw [if_neg c7] at H
      have c7b0 : decide ((t278.length : Int) < 1) = false := decide_eq_false c7
      have c7b1 : decide (t278.length < 1) = false := decide_eq_false (by omega)
      clear c7
      (first | rw [c7b0] | (simp only [i64_w, i32_w]; rw [c7b0]) | skip)
      have H' := Aside0.mk H
      clear H
      obtain ⟨Ao9, co9, eo9⟩ := Kd.R_slice HO280.out
      subst eo9
      go_wp2
      go_meet
      case rel => exact ⟨_, (decide ((t278.length : Int) > 3)), (by first | rfl | (simp; done) | (simp [*]; done)), H', ⟨by first | omega | exact Nat.le_refl _⟩, ⟨by (with_reducible repeat (first | apply Kd.R_alloc | apply Kd.R_drewN | apply Kd.R_drew)); exact HO280.out⟩, ⟨by repeat (first | (with_reducible first | exact HB.out | apply below_alloc | apply pw_below_drewN | apply below_drew1) | exact HB.out)⟩⟩
  case rest =>
    clear HC4
    try clear p2
    try clear c6
    try clear c7
    try clear c7b0
    try clear c7b1
    try clear c9
    obtain ⟨kq, x16_3, rfl, HA, HJ3, HO_4, HB⟩ := hcut
    cases kq with
    | zero => exact absurd HA.out (by simp [pentroughlaw06_CasingOnce.j0])
    | succ kj3 =>
      have H := HA.out
      clear HA
      simp only [pentroughlaw06_CasingOnce.j0] at H
      by_cases c10 : x16_3 = true
      · subst c10
        have H1 : (some false) = some r := by rw [if_pos rfl] at H; exact H
        clear H
        have H := H1
        clear H1
        obtain rfl := Option.some.inj H
        go_wp2
        go_ret
        exact ⟨by first | rfl | (simp [errW_none, errW_some] <;> rfl) | (simp [*, errW_none, errW_some] <;> rfl), by repeat (first | (with_reducible first | exact HB.out | apply below_alloc | apply pw_below_drewN | apply below_drew1) | exact HB.out)⟩
      · replace c10 := Bool.eq_false_iff.mpr c10
        subst c10
        have H1 : (pentroughlaw06_CasingOnce.l0 kj3 a0 t277 t278 0) = some r := by rw [if_neg (show ¬ (false = true) by decide)] at H; exact H
        clear H
        have H := H1
        clear H1
        have H' := Aside0.mk H
        clear H
        go_wp2
        go_loopg [5] kj3 (fun kq v5 w' => ∃ (x5_2 : Int), v5 = .int .i64 x5_2 ∧ Aside0 (pentroughlaw06_CasingOnce.l0 kq a0 t277 t278 x5_2 = some r) ∧ Aside0 (kq ≤ kj3) ∧ Aside0 (Kd.R (Kd.int .i64) 3 w' w.heap.size (fun _ => True) v279 t278) ∧ Aside0 (Below w.heap.size w w'))
        case atStart => exact ⟨(0), (by first | rfl | (simp; done) | (simp [*]; done)), H', ⟨Nat.le_refl _⟩, ⟨by (with_reducible repeat (first | apply Kd.R_alloc | apply Kd.R_drewN | apply Kd.R_drew)); exact HO_4.out⟩, ⟨by repeat (first | (with_reducible first | exact HB.out | apply below_alloc | apply pw_below_drewN | apply below_drew1) | exact HB.out)⟩⟩
        case round =>
          clear H'
          try clear c1
          try clear p2
          try clear c6
          try clear c7
          try clear c7b0
          try clear c7b1
          try clear c9
          try clear c10
          try clear p2
          obtain ⟨x5_2, rfl, HA, HK2, HO_4, HB⟩ := hrel
          cases gk with
          | zero => exact absurd HA.out (by simp [pentroughlaw06_CasingOnce.l0])
          | succ k2 =>
            have H := HA.out
            clear HA
            simp only [pentroughlaw06_CasingOnce.l0] at H
            by_cases c11 : x5_2 < (t278.length : Int)
            · rw [if_pos c11] at H
              have c11b0 : decide (x5_2 < (t278.length : Int)) = true := decide_eq_true c11
              clear c11
              replace H := Option.bind_eq_some_iff.mp H
              obtain ⟨t281, A120, H⟩ := H
              replace H : (if t281 = true then (if 0 ≤ x5_2 then ((dec_Good.f (rd t278 x5_2)).bind fun t283 => (if t283 = true then (pentroughlaw06_CasingOnce.l0 k2 a0 t277 t278 (wrap64 (x5_2 + 1))) else (some false))) else (none)) else (pentroughlaw06_CasingOnce.l0 k2 a0 t277 t278 (wrap64 (x5_2 + 1)))) = some r := H
              have A12 := Aside0.mk A120
              clear A120
              by_cases c13 : t281 = true
              · subst c13
                have H1 : (if 0 ≤ x5_2 then ((dec_Good.f (rd t278 x5_2)).bind fun t283 => (if t283 = true then (pentroughlaw06_CasingOnce.l0 k2 a0 t277 t278 (wrap64 (x5_2 + 1))) else (some false))) else (none)) = some r := by rw [if_pos rfl] at H; exact H
                clear H
                have H := H1
                clear H1
                by_cases c14 : 0 ≤ x5_2
                · rw [if_pos c14] at H
                  have c14b0 : decide (0 ≤ x5_2) = true := decide_eq_true c14
                  clear c14
                  replace H := Option.bind_eq_some_iff.mp H
                  obtain ⟨t283, A150, H⟩ := H
                  replace H : (if t283 = true then (pentroughlaw06_CasingOnce.l0 k2 a0 t277 t278 (wrap64 (x5_2 + 1))) else (some false)) = some r := H
                  have A15 := Aside0.mk A150
                  clear A150
                  by_cases c16 : t283 = true
                  · subst c16
                    have H1 : (pentroughlaw06_CasingOnce.l0 k2 a0 t277 t278 (wrap64 (x5_2 + 1))) = some r := by rw [if_pos rfl] at H; exact H
                    clear H
                    have H := H1
                    clear H1
                    have H' := Aside0.mk H
                    clear H
                    obtain ⟨Ao17, co17, eo17⟩ := Kd.R_slice HO_4.out
                    subst eo17
                    go_wp2_with (first | ((with_reducible refine gate_callee (f := 13) rfl ?_); refine goesL_ (some 24) rfl rfl Try.func13 (by kernel_rfl) rfl #[.int .i64 a0] rfl (by (try simp only [List.map_toArray, List.map_cons, List.map_nil]); first | done | rfl | (simp only [List.length_drop, List.length_take]; rfl)) ?_; (with_reducible refine (dec_Good.calls a0 true _ A12.out).mono ?_); rintro e w' ⟨rfl, ⟨nd, rfl⟩⟩; refine ⟨_, rfl, ?_⟩; have p282 : 0 ≤ (x5_2 : Int) := of_decide_eq_true (by first | (with_reducible assumption) | assumption); have q282 : x5_2 < (t278.length : Int) := of_decide_eq_true (by first | (with_reducible assumption) | assumption); obtain ⟨ad282, e282, hx282_0⟩ := Kd.at_int (Kd.R_reads' HO_4.out).2.2 x5_2 p282 q282; cases e282; replace p282 := eq_true p282; replace q282 := eq_true q282) | (go_at_call 13; (with_reducible refine (dec_Good.calls (rd t278 x5_2) true _ A15.out).mono ?_); rintro e w' ⟨rfl, ⟨nd, rfl⟩⟩))
                    go_roundg k2
                    case measure => have := HJ3.out; have := HK2.out; omega
                    case rel => exact ⟨(wrap64 (x5_2 + 1)), (by first | rfl | (simp; done) | (simp [*]; done)), H', ⟨by have := HJ3.out; have := HK2.out; omega⟩, ⟨by (with_reducible repeat (first | apply Kd.R_alloc | apply Kd.R_drewN | apply Kd.R_drew)); exact HO_4.out⟩, ⟨by repeat (first | (with_reducible first | exact HB.out | apply below_alloc | apply pw_below_drewN | apply below_drew1) | exact HB.out)⟩⟩
                  · replace c16 := Bool.eq_false_iff.mpr c16
                    subst c16
                    have H1 : (some false) = some r := by rw [if_neg (show ¬ (false = true) by decide)] at H; exact H
                    clear H
                    have H := H1
                    clear H1
                    obtain rfl := Option.some.inj H
                    obtain ⟨Ao18, co18, eo18⟩ := Kd.R_slice HO_4.out
                    subst eo18
                    go_wp2_with (first | ((with_reducible refine gate_callee (f := 13) rfl ?_); refine goesL_ (some 24) rfl rfl Try.func13 (by kernel_rfl) rfl #[.int .i64 a0] rfl (by (try simp only [List.map_toArray, List.map_cons, List.map_nil]); first | done | rfl | (simp only [List.length_drop, List.length_take]; rfl)) ?_; (with_reducible refine (dec_Good.calls a0 true _ A12.out).mono ?_); rintro e w' ⟨rfl, ⟨nd, rfl⟩⟩; refine ⟨_, rfl, ?_⟩; have p282 : 0 ≤ (x5_2 : Int) := of_decide_eq_true (by first | (with_reducible assumption) | assumption); have q282 : x5_2 < (t278.length : Int) := of_decide_eq_true (by first | (with_reducible assumption) | assumption); obtain ⟨ad282, e282, hx282_0⟩ := Kd.at_int (Kd.R_reads' HO_4.out).2.2 x5_2 p282 q282; cases e282; replace p282 := eq_true p282; replace q282 := eq_true q282) | (go_at_call 13; (with_reducible refine (dec_Good.calls (rd t278 x5_2) false _ A15.out).mono ?_); rintro e w' ⟨rfl, ⟨nd, rfl⟩⟩))
                    go_ret
                    exact ⟨by first | rfl | (simp [errW_none, errW_some] <;> rfl) | (simp [*, errW_none, errW_some] <;> rfl), by repeat (first | (with_reducible first | exact HB.out | apply below_alloc | apply pw_below_drewN | apply below_drew1) | exact HB.out)⟩
                · rw [if_neg c14] at H
                  exact absurd H (by simp)
              · replace c13 := Bool.eq_false_iff.mpr c13
                subst c13
                have H1 : (pentroughlaw06_CasingOnce.l0 k2 a0 t277 t278 (wrap64 (x5_2 + 1))) = some r := by rw [if_neg (show ¬ (false = true) by decide)] at H; exact H
                clear H
                have H := H1
                clear H1
                have H' := Aside0.mk H
                clear H
                obtain ⟨Ao19, co19, eo19⟩ := Kd.R_slice HO_4.out
                subst eo19
                go_wp2_with (first | ((with_reducible refine gate_callee (f := 13) rfl ?_); refine goesL_ (some 24) rfl rfl Try.func13 (by kernel_rfl) rfl #[.int .i64 a0] rfl (by (try simp only [List.map_toArray, List.map_cons, List.map_nil]); first | done | rfl | (simp only [List.length_drop, List.length_take]; rfl)) ?_; (with_reducible refine (dec_Good.calls a0 false _ A12.out).mono ?_); rintro e w' ⟨rfl, ⟨nd, rfl⟩⟩; refine ⟨_, rfl, ?_⟩))
                go_roundg k2
                case measure => have := HJ3.out; have := HK2.out; omega
                case rel => exact ⟨(wrap64 (x5_2 + 1)), (by first | rfl | (simp; done) | (simp [*]; done)), H', ⟨by have := HJ3.out; have := HK2.out; omega⟩, ⟨by (with_reducible repeat (first | apply Kd.R_alloc | apply Kd.R_drewN | apply Kd.R_drew)); exact HO_4.out⟩, ⟨by repeat (first | (with_reducible first | exact HB.out | apply below_alloc | apply pw_below_drewN | apply below_drew1) | exact HB.out)⟩⟩
            · rw [if_neg c11] at H
              have c11b0 : decide (x5_2 < (t278.length : Int)) = false := decide_eq_false c11
              clear c11
              have HC20 := Aside0.mk H
              clear H
              obtain ⟨Ao21, co21, eo21⟩ := Kd.R_slice HO_4.out
              subst eo21
              go_upto_region 10 with (fail)
              go_cut [74] (fun v74 wc => ∃ (kq : Nat) (x74_19 : Bool), v74 = .bool x74_19 ∧ Aside0 (pentroughlaw06_CasingOnce.j2 kq t277 t278 x74_19 = some r) ∧ Aside0 (kq ≤ k2) ∧ Aside0 (Kd.R (Kd.int .i64) 3 wc w.heap.size (fun _ => True) (.slice Ao21 t278.length co21) t278) ∧ Aside0 (Below w.heap.size w wc))
              case first =>
                have H := HC20.out
                clear HC20
                by_cases c22 : a0 ≥ 65
                · rw [if_pos c22] at H
                  have c22b0 : decide (65 ≤ a0) = true := decide_eq_true c22
                  clear c22
                  (first | rw [c22b0] | (simp only [i64_w, i32_w]; rw [c22b0]) | skip)
                  by_cases c23 : a0 ≤ 90
                  · rw [if_pos c23] at H
                    have c23b0 : decide (a0 ≤ 90) = true := decide_eq_true c23
                    clear c23
                    by_cases c24 : (t278.length : Int) = 1
                    · rw [if_pos c24] at H
                      have c24b0 : ((t278.length : Int) == 1) = true := beq_iff_eq.mpr c24
                      have c24b1 : ((t278.length : Int) != 1) = false := bne_eq_false_iff_eq.mpr c24
                      clear c24
                      by_cases c25 : 0 < (t278.length : Int)
                      · rw [if_pos c25] at H
                        have c25b0 : decide (0 < (t278.length : Int)) = true := decide_eq_true c25
                        have c25b1 : decide (0 < t278.length) = true := decide_eq_true (by omega)
                        clear c25
                        by_cases c26 : (rd t278 0) = (wrap64 (a0 + 32))
                        · rw [if_pos c26] at H
                          have c26b0 : ((rd t278 0) == (wrap64 (a0 + 32))) = true := beq_iff_eq.mpr c26
                          have c26b1 : ((rd t278 0) != (wrap64 (a0 + 32))) = false := bne_eq_false_iff_eq.mpr c26
                          clear c26
                          by_cases c27 : a0 ≥ 0
                          · rw [if_pos c27] at H
                            have c27b0 : decide (0 ≤ a0) = true := decide_eq_true c27
                            clear c27
                            by_cases c28 : a0 < 128
                            · rw [if_pos c28] at H
                              have c28b0 : decide (a0 < 128) = true := decide_eq_true c28
                              clear c28
                              by_cases c29 : a0 < 65
                              · rw [if_pos c29] at H
                                have c29b0 : decide (a0 < 65) = true := decide_eq_true c29
                                clear c29
                                have H' := Aside0.mk H
                                clear H
                                have p284 : 0 ≤ (0 : Int) := (by omega)
                                have q284 : 0 < (t278.length : Int) := of_decide_eq_true (by first | (with_reducible assumption) | assumption)
                                obtain ⟨ad284, e284, hx284_0⟩ := Kd.at_int (Kd.R_reads' HO_4.out).2.2 0 p284 q284
                                cases e284
                                have qi284 : (0 < t278.length) = True := eq_true (by omega)
                                (try rw [show ((0 : Int)).toNat = 0 from rfl] at hx284_0)
                                (try rw [Addr.add_zero'] at hx284_0)
                                replace p284 := eq_true p284
                                replace q284 := eq_true q284
                                have p285 : 0 ≤ (0 : Int) := (by omega)
                                have q285 : 0 < (t278.length : Int) := of_decide_eq_true (by first | (with_reducible assumption) | assumption)
                                obtain ⟨ad285, e285, hx285_0⟩ := Kd.at_int (Kd.R_reads' HO_4.out).2.2 0 p285 q285
                                obtain rfl : ad284 = ad285 := (by injection e285)
                                have qi285 : (0 < t278.length) = True := eq_true (by omega)
                                (try rw [show ((0 : Int)).toNat = 0 from rfl] at hx285_0)
                                (try rw [Addr.add_zero'] at hx285_0)
                                replace p285 := eq_true p285
                                replace q285 := eq_true q285
                                go_wp2
                                go_meet
                                case rel => exact ⟨_, (((rd t278 0) != a0)), (by first | rfl | (simp; done) | (simp [*]; done)), H', ⟨by have := HJ3.out; have := HK2.out; first | omega | exact Nat.le_refl _⟩, ⟨by (with_reducible repeat (first | apply Kd.R_alloc | apply Kd.R_drewN | apply Kd.R_drew)); exact HO_4.out⟩, ⟨by repeat (first | (with_reducible first | exact HB.out | apply below_alloc | apply pw_below_drewN | apply below_drew1) | exact HB.out)⟩⟩
                              · rw [if_neg c29] at H
                                have c29b0 : decide (a0 < 65) = false := decide_eq_false c29
                                clear c29
                                by_cases c30 : a0 > 90
                                · rw [if_pos c30] at H
                                  have c30b0 : decide (90 < a0) = true := decide_eq_true c30
                                  clear c30
                                  have H' := Aside0.mk H
                                  clear H
                                  have p284 : 0 ≤ (0 : Int) := (by omega)
                                  have q284 : 0 < (t278.length : Int) := of_decide_eq_true (by first | (with_reducible assumption) | assumption)
                                  obtain ⟨ad284, e284, hx284_0⟩ := Kd.at_int (Kd.R_reads' HO_4.out).2.2 0 p284 q284
                                  cases e284
                                  have qi284 : (0 < t278.length) = True := eq_true (by omega)
                                  (try rw [show ((0 : Int)).toNat = 0 from rfl] at hx284_0)
                                  (try rw [Addr.add_zero'] at hx284_0)
                                  replace p284 := eq_true p284
                                  replace q284 := eq_true q284
                                  have p286 : 0 ≤ (0 : Int) := (by omega)
                                  have q286 : 0 < (t278.length : Int) := of_decide_eq_true (by first | (with_reducible assumption) | assumption)
                                  obtain ⟨ad286, e286, hx286_0⟩ := Kd.at_int (Kd.R_reads' HO_4.out).2.2 0 p286 q286
                                  obtain rfl : ad284 = ad286 := (by injection e286)
                                  have qi286 : (0 < t278.length) = True := eq_true (by omega)
                                  (try rw [show ((0 : Int)).toNat = 0 from rfl] at hx286_0)
                                  (try rw [Addr.add_zero'] at hx286_0)
                                  replace p286 := eq_true p286
                                  replace q286 := eq_true q286
                                  go_wp2
                                  go_meet
                                  case rel => exact ⟨_, (((rd t278 0) != a0)), (by first | rfl | (simp; done) | (simp [*]; done)), H', ⟨by have := HJ3.out; have := HK2.out; first | omega | exact Nat.le_refl _⟩, ⟨by (with_reducible repeat (first | apply Kd.R_alloc | apply Kd.R_drewN | apply Kd.R_drew)); exact HO_4.out⟩, ⟨by repeat (first | (with_reducible first | exact HB.out | apply below_alloc | apply pw_below_drewN | apply below_drew1) | exact HB.out)⟩⟩
                                · rw [if_neg c30] at H
                                  have c30b0 : decide (90 < a0) = false := decide_eq_false c30
                                  clear c30
                                  have H' := Aside0.mk H
                                  clear H
                                  have p284 : 0 ≤ (0 : Int) := (by omega)
                                  have q284 : 0 < (t278.length : Int) := of_decide_eq_true (by first | (with_reducible assumption) | assumption)
                                  obtain ⟨ad284, e284, hx284_0⟩ := Kd.at_int (Kd.R_reads' HO_4.out).2.2 0 p284 q284
                                  cases e284
                                  have qi284 : (0 < t278.length) = True := eq_true (by omega)
                                  (try rw [show ((0 : Int)).toNat = 0 from rfl] at hx284_0)
                                  (try rw [Addr.add_zero'] at hx284_0)
                                  replace p284 := eq_true p284
                                  replace q284 := eq_true q284
                                  go_wp2
                                  go_meet
                                  case rel => exact ⟨_, (false), (by first | rfl | (simp; done) | (simp [*]; done)), H', ⟨by have := HJ3.out; have := HK2.out; first | omega | exact Nat.le_refl _⟩, ⟨by (with_reducible repeat (first | apply Kd.R_alloc | apply Kd.R_drewN | apply Kd.R_drew)); exact HO_4.out⟩, ⟨by repeat (first | (with_reducible first | exact HB.out | apply below_alloc | apply pw_below_drewN | apply below_drew1) | exact HB.out)⟩⟩
                            · rw [if_neg c28] at H
                              have c28b0 : decide (a0 < 128) = false := decide_eq_false c28
                              clear c28
                              have H' := Aside0.mk H
                              clear H
                              have p284 : 0 ≤ (0 : Int) := (by omega)
                              have q284 : 0 < (t278.length : Int) := of_decide_eq_true (by first | (with_reducible assumption) | assumption)
                              obtain ⟨ad284, e284, hx284_0⟩ := Kd.at_int (Kd.R_reads' HO_4.out).2.2 0 p284 q284
                              cases e284
                              have qi284 : (0 < t278.length) = True := eq_true (by omega)
                              (try rw [show ((0 : Int)).toNat = 0 from rfl] at hx284_0)
                              (try rw [Addr.add_zero'] at hx284_0)
                              replace p284 := eq_true p284
                              replace q284 := eq_true q284
                              go_wp2
                              go_meet
                              case rel => exact ⟨_, (false), (by first | rfl | (simp; done) | (simp [*]; done)), H', ⟨by have := HJ3.out; have := HK2.out; first | omega | exact Nat.le_refl _⟩, ⟨by (with_reducible repeat (first | apply Kd.R_alloc | apply Kd.R_drewN | apply Kd.R_drew)); exact HO_4.out⟩, ⟨by repeat (first | (with_reducible first | exact HB.out | apply below_alloc | apply pw_below_drewN | apply below_drew1) | exact HB.out)⟩⟩
                          · rw [if_neg c27] at H
                            have c27b0 : decide (0 ≤ a0) = false := decide_eq_false c27
                            clear c27
                            have H' := Aside0.mk H
                            clear H
                            have p284 : 0 ≤ (0 : Int) := (by omega)
                            have q284 : 0 < (t278.length : Int) := of_decide_eq_true (by first | (with_reducible assumption) | assumption)
                            obtain ⟨ad284, e284, hx284_0⟩ := Kd.at_int (Kd.R_reads' HO_4.out).2.2 0 p284 q284
                            cases e284
                            have qi284 : (0 < t278.length) = True := eq_true (by omega)
                            (try rw [show ((0 : Int)).toNat = 0 from rfl] at hx284_0)
                            (try rw [Addr.add_zero'] at hx284_0)
                            replace p284 := eq_true p284
                            replace q284 := eq_true q284
                            go_wp2
                            go_meet
                            case rel => exact ⟨_, (false), (by first | rfl | (simp; done) | (simp [*]; done)), H', ⟨by have := HJ3.out; have := HK2.out; first | omega | exact Nat.le_refl _⟩, ⟨by (with_reducible repeat (first | apply Kd.R_alloc | apply Kd.R_drewN | apply Kd.R_drew)); exact HO_4.out⟩, ⟨by repeat (first | (with_reducible first | exact HB.out | apply below_alloc | apply pw_below_drewN | apply below_drew1) | exact HB.out)⟩⟩
                        · rw [if_neg c26] at H
                          have c26b0 : ((rd t278 0) == (wrap64 (a0 + 32))) = false := beq_eq_false_iff_ne.mpr c26
                          have c26b1 : ((rd t278 0) != (wrap64 (a0 + 32))) = true := bne_iff_ne.mpr c26
                          have H' := Aside0.mk H
                          clear H
                          have p284 : 0 ≤ (0 : Int) := (by omega)
                          have q284 : 0 < (t278.length : Int) := of_decide_eq_true (by first | (with_reducible assumption) | assumption)
                          obtain ⟨ad284, e284, hx284_0⟩ := Kd.at_int (Kd.R_reads' HO_4.out).2.2 0 p284 q284
                          cases e284
                          have qi284 : (0 < t278.length) = True := eq_true (by omega)
                          (try rw [show ((0 : Int)).toNat = 0 from rfl] at hx284_0)
                          (try rw [Addr.add_zero'] at hx284_0)
                          replace p284 := eq_true p284
                          replace q284 := eq_true q284
                          go_wp2
                          go_meet
                          case rel => exact ⟨_, (true), (by first | rfl | (simp; done) | (simp [*]; done)), H', ⟨by have := HJ3.out; have := HK2.out; first | omega | exact Nat.le_refl _⟩, ⟨by (with_reducible repeat (first | apply Kd.R_alloc | apply Kd.R_drewN | apply Kd.R_drew)); exact HO_4.out⟩, ⟨by repeat (first | (with_reducible first | exact HB.out | apply below_alloc | apply pw_below_drewN | apply below_drew1) | exact HB.out)⟩⟩
                      · rw [if_neg c25] at H
                        exact absurd H (by simp)
                    · rw [if_neg c24] at H
                      have c24b0 : ((t278.length : Int) == 1) = false := beq_eq_false_iff_ne.mpr c24
                      have c24b1 : ((t278.length : Int) != 1) = true := bne_iff_ne.mpr c24
                      have H' := Aside0.mk H
                      clear H
                      go_wp2
                      go_meet
                      case rel => exact ⟨_, (true), (by first | rfl | (simp; done) | (simp [*]; done)), H', ⟨by have := HJ3.out; have := HK2.out; first | omega | exact Nat.le_refl _⟩, ⟨by (with_reducible repeat (first | apply Kd.R_alloc | apply Kd.R_drewN | apply Kd.R_drew)); exact HO_4.out⟩, ⟨by repeat (first | (with_reducible first | exact HB.out | apply below_alloc | apply pw_below_drewN | apply below_drew1) | exact HB.out)⟩⟩
                  · rw [if_neg c23] at H
                    have c23b0 : decide (a0 ≤ 90) = false := decide_eq_false c23
                    clear c23
                    by_cases c31 : a0 ≥ 0
                    · rw [if_pos c31] at H
                      have c31b0 : decide (0 ≤ a0) = true := decide_eq_true c31
                      clear c31
                      by_cases c32 : a0 < 128
                      · rw [if_pos c32] at H
                        have c32b0 : decide (a0 < 128) = true := decide_eq_true c32
                        clear c32
                        by_cases c33 : a0 < 65
                        · rw [if_pos c33] at H
                          have c33b0 : decide (a0 < 65) = true := decide_eq_true c33
                          clear c33
                          by_cases c34 : 0 < (t278.length : Int)
                          · rw [if_pos c34] at H
                            have c34b0 : decide (0 < (t278.length : Int)) = true := decide_eq_true c34
                            have c34b1 : decide (0 < t278.length) = true := decide_eq_true (by omega)
                            clear c34
                            have H' := Aside0.mk H
                            clear H
                            have p287 : 0 ≤ (0 : Int) := (by omega)
                            have q287 : 0 < (t278.length : Int) := of_decide_eq_true (by first | (with_reducible assumption) | assumption)
                            obtain ⟨ad287, e287, hx287_0⟩ := Kd.at_int (Kd.R_reads' HO_4.out).2.2 0 p287 q287
                            cases e287
                            have qi287 : (0 < t278.length) = True := eq_true (by omega)
                            (try rw [show ((0 : Int)).toNat = 0 from rfl] at hx287_0)
                            (try rw [Addr.add_zero'] at hx287_0)
                            replace p287 := eq_true p287
                            replace q287 := eq_true q287
                            go_wp2
                            go_meet
                            case rel => exact ⟨_, (((rd t278 0) != a0)), (by first | rfl | (simp; done) | (simp [*]; done)), H', ⟨by have := HJ3.out; have := HK2.out; first | omega | exact Nat.le_refl _⟩, ⟨by (with_reducible repeat (first | apply Kd.R_alloc | apply Kd.R_drewN | apply Kd.R_drew)); exact HO_4.out⟩, ⟨by repeat (first | (with_reducible first | exact HB.out | apply below_alloc | apply pw_below_drewN | apply below_drew1) | exact HB.out)⟩⟩
                          · rw [if_neg c34] at H
                            exact absurd H (by simp)
                        · rw [if_neg c33] at H
                          have c33b0 : decide (a0 < 65) = false := decide_eq_false c33
                          clear c33
                          by_cases c35 : a0 > 90
                          · rw [if_pos c35] at H
                            have c35b0 : decide (90 < a0) = true := decide_eq_true c35
                            clear c35
                            by_cases c36 : 0 < (t278.length : Int)
                            · rw [if_pos c36] at H
                              have c36b0 : decide (0 < (t278.length : Int)) = true := decide_eq_true c36
                              have c36b1 : decide (0 < t278.length) = true := decide_eq_true (by omega)
                              clear c36
                              have H' := Aside0.mk H
                              clear H
                              have p288 : 0 ≤ (0 : Int) := (by omega)
                              have q288 : 0 < (t278.length : Int) := of_decide_eq_true (by first | (with_reducible assumption) | assumption)
                              obtain ⟨ad288, e288, hx288_0⟩ := Kd.at_int (Kd.R_reads' HO_4.out).2.2 0 p288 q288
                              cases e288
                              have qi288 : (0 < t278.length) = True := eq_true (by omega)
                              (try rw [show ((0 : Int)).toNat = 0 from rfl] at hx288_0)
                              (try rw [Addr.add_zero'] at hx288_0)
                              replace p288 := eq_true p288
                              replace q288 := eq_true q288
                              go_wp2
                              go_meet
                              case rel => exact ⟨_, (((rd t278 0) != a0)), (by first | rfl | (simp; done) | (simp [*]; done)), H', ⟨by have := HJ3.out; have := HK2.out; first | omega | exact Nat.le_refl _⟩, ⟨by (with_reducible repeat (first | apply Kd.R_alloc | apply Kd.R_drewN | apply Kd.R_drew)); exact HO_4.out⟩, ⟨by repeat (first | (with_reducible first | exact HB.out | apply below_alloc | apply pw_below_drewN | apply below_drew1) | exact HB.out)⟩⟩
                            · rw [if_neg c36] at H
                              exact absurd H (by simp)
                          · rw [if_neg c35] at H
                            have c35b0 : decide (90 < a0) = false := decide_eq_false c35
                            clear c35
                            have H' := Aside0.mk H
                            clear H
                            go_wp2
                            go_meet
                            case rel => exact ⟨_, (false), (by first | rfl | (simp; done) | (simp [*]; done)), H', ⟨by have := HJ3.out; have := HK2.out; first | omega | exact Nat.le_refl _⟩, ⟨by (with_reducible repeat (first | apply Kd.R_alloc | apply Kd.R_drewN | apply Kd.R_drew)); exact HO_4.out⟩, ⟨by repeat (first | (with_reducible first | exact HB.out | apply below_alloc | apply pw_below_drewN | apply below_drew1) | exact HB.out)⟩⟩
                      · rw [if_neg c32] at H
                        have c32b0 : decide (a0 < 128) = false := decide_eq_false c32
                        clear c32
                        have H' := Aside0.mk H
                        clear H
                        go_wp2
                        go_meet
                        case rel => exact ⟨_, (false), (by first | rfl | (simp; done) | (simp [*]; done)), H', ⟨by have := HJ3.out; have := HK2.out; first | omega | exact Nat.le_refl _⟩, ⟨by (with_reducible repeat (first | apply Kd.R_alloc | apply Kd.R_drewN | apply Kd.R_drew)); exact HO_4.out⟩, ⟨by repeat (first | (with_reducible first | exact HB.out | apply below_alloc | apply pw_below_drewN | apply below_drew1) | exact HB.out)⟩⟩
                    · rw [if_neg c31] at H
                      have c31b0 : decide (0 ≤ a0) = false := decide_eq_false c31
                      clear c31
                      have H' := Aside0.mk H
                      clear H
                      go_wp2
                      go_meet
                      case rel => exact ⟨_, (false), (by first | rfl | (simp; done) | (simp [*]; done)), H', ⟨by have := HJ3.out; have := HK2.out; first | omega | exact Nat.le_refl _⟩, ⟨by (with_reducible repeat (first | apply Kd.R_alloc | apply Kd.R_drewN | apply Kd.R_drew)); exact HO_4.out⟩, ⟨by repeat (first | (with_reducible first | exact HB.out | apply below_alloc | apply pw_below_drewN | apply below_drew1) | exact HB.out)⟩⟩
                · rw [if_neg c22] at H
                  have c22b0 : decide (65 ≤ a0) = false := decide_eq_false c22
                  clear c22
                  (first | rw [c22b0] | (simp only [i64_w, i32_w]; rw [c22b0]) | skip)
                  by_cases c37 : a0 ≥ 0
                  · rw [if_pos c37] at H
                    have c37b0 : decide (0 ≤ a0) = true := decide_eq_true c37
                    clear c37
                    by_cases c38 : a0 < 128
                    · rw [if_pos c38] at H
                      have c38b0 : decide (a0 < 128) = true := decide_eq_true c38
                      clear c38
                      by_cases c39 : a0 < 65
                      · rw [if_pos c39] at H
                        have c39b0 : decide (a0 < 65) = true := decide_eq_true c39
                        clear c39
                        by_cases c40 : 0 < (t278.length : Int)
                        · rw [if_pos c40] at H
                          have c40b0 : decide (0 < (t278.length : Int)) = true := decide_eq_true c40
                          have c40b1 : decide (0 < t278.length) = true := decide_eq_true (by omega)
                          clear c40
                          have H' := Aside0.mk H
                          clear H
                          have p289 : 0 ≤ (0 : Int) := (by omega)
                          have q289 : 0 < (t278.length : Int) := of_decide_eq_true (by first | (with_reducible assumption) | assumption)
                          obtain ⟨ad289, e289, hx289_0⟩ := Kd.at_int (Kd.R_reads' HO_4.out).2.2 0 p289 q289
                          cases e289
                          have qi289 : (0 < t278.length) = True := eq_true (by omega)
                          (try rw [show ((0 : Int)).toNat = 0 from rfl] at hx289_0)
                          (try rw [Addr.add_zero'] at hx289_0)
                          replace p289 := eq_true p289
                          replace q289 := eq_true q289
                          go_wp2
                          go_meet
                          case rel => exact ⟨_, (((rd t278 0) != a0)), (by first | rfl | (simp; done) | (simp [*]; done)), H', ⟨by have := HJ3.out; have := HK2.out; first | omega | exact Nat.le_refl _⟩, ⟨by (with_reducible repeat (first | apply Kd.R_alloc | apply Kd.R_drewN | apply Kd.R_drew)); exact HO_4.out⟩, ⟨by repeat (first | (with_reducible first | exact HB.out | apply below_alloc | apply pw_below_drewN | apply below_drew1) | exact HB.out)⟩⟩
                        · rw [if_neg c40] at H
                          exact absurd H (by simp)
                      · rw [if_neg c39] at H
                        have c39b0 : decide (a0 < 65) = false := decide_eq_false c39
                        clear c39
                        by_cases c41 : a0 > 90
                        · rw [if_pos c41] at H
                          have c41b0 : decide (90 < a0) = true := decide_eq_true c41
                          clear c41
                          by_cases c42 : 0 < (t278.length : Int)
                          · rw [if_pos c42] at H
                            have c42b0 : decide (0 < (t278.length : Int)) = true := decide_eq_true c42
                            have c42b1 : decide (0 < t278.length) = true := decide_eq_true (by omega)
                            clear c42
                            have H' := Aside0.mk H
                            clear H
                            have p290 : 0 ≤ (0 : Int) := (by omega)
                            have q290 : 0 < (t278.length : Int) := of_decide_eq_true (by first | (with_reducible assumption) | assumption)
                            obtain ⟨ad290, e290, hx290_0⟩ := Kd.at_int (Kd.R_reads' HO_4.out).2.2 0 p290 q290
                            cases e290
                            have qi290 : (0 < t278.length) = True := eq_true (by omega)
                            (try rw [show ((0 : Int)).toNat = 0 from rfl] at hx290_0)
                            (try rw [Addr.add_zero'] at hx290_0)
                            replace p290 := eq_true p290
                            replace q290 := eq_true q290
                            go_wp2
                            go_meet
                            case rel => exact ⟨_, (((rd t278 0) != a0)), (by first | rfl | (simp; done) | (simp [*]; done)), H', ⟨by have := HJ3.out; have := HK2.out; first | omega | exact Nat.le_refl _⟩, ⟨by (with_reducible repeat (first | apply Kd.R_alloc | apply Kd.R_drewN | apply Kd.R_drew)); exact HO_4.out⟩, ⟨by repeat (first | (with_reducible first | exact HB.out | apply below_alloc | apply pw_below_drewN | apply below_drew1) | exact HB.out)⟩⟩
                          · rw [if_neg c42] at H
                            exact absurd H (by simp)
                        · rw [if_neg c41] at H
                          have c41b0 : decide (90 < a0) = false := decide_eq_false c41
                          clear c41
                          have H' := Aside0.mk H
                          clear H
                          go_wp2
                          go_meet
                          case rel => exact ⟨_, (false), (by first | rfl | (simp; done) | (simp [*]; done)), H', ⟨by have := HJ3.out; have := HK2.out; first | omega | exact Nat.le_refl _⟩, ⟨by (with_reducible repeat (first | apply Kd.R_alloc | apply Kd.R_drewN | apply Kd.R_drew)); exact HO_4.out⟩, ⟨by repeat (first | (with_reducible first | exact HB.out | apply below_alloc | apply pw_below_drewN | apply below_drew1) | exact HB.out)⟩⟩
                    · rw [if_neg c38] at H
                      have c38b0 : decide (a0 < 128) = false := decide_eq_false c38
                      clear c38
                      have H' := Aside0.mk H
                      clear H
                      go_wp2
                      go_meet
                      case rel => exact ⟨_, (false), (by first | rfl | (simp; done) | (simp [*]; done)), H', ⟨by have := HJ3.out; have := HK2.out; first | omega | exact Nat.le_refl _⟩, ⟨by (with_reducible repeat (first | apply Kd.R_alloc | apply Kd.R_drewN | apply Kd.R_drew)); exact HO_4.out⟩, ⟨by repeat (first | (with_reducible first | exact HB.out | apply below_alloc | apply pw_below_drewN | apply below_drew1) | exact HB.out)⟩⟩
                  · rw [if_neg c37] at H
                    have c37b0 : decide (0 ≤ a0) = false := decide_eq_false c37
                    clear c37
                    have H' := Aside0.mk H
                    clear H
                    go_wp2
                    go_meet
                    case rel => exact ⟨_, (false), (by first | rfl | (simp; done) | (simp [*]; done)), H', ⟨by have := HJ3.out; have := HK2.out; first | omega | exact Nat.le_refl _⟩, ⟨by (with_reducible repeat (first | apply Kd.R_alloc | apply Kd.R_drewN | apply Kd.R_drew)); exact HO_4.out⟩, ⟨by repeat (first | (with_reducible first | exact HB.out | apply below_alloc | apply pw_below_drewN | apply below_drew1) | exact HB.out)⟩⟩
              case rest =>
                clear HC20
                try clear c1
                try clear c2
                try clear p2
                try clear q2
                try clear hx2
                try clear qi2
                try clear c3
                try clear c4
                try clear c6
                try clear p6
                try clear c7
                try clear c7b0
                try clear c7b1
                try clear c9
                try clear c10
                try clear c11
                try clear c11b0
                try clear c13
                try clear c14
                try clear c14b0
                try clear c16
                try clear c22
                try clear c22b0
                try clear c23
                try clear c23b0
                try clear c24
                try clear c24b0
                try clear c24b1
                try clear c25
                try clear c25b0
                try clear c25b1
                try clear c26
                try clear c26b0
                try clear c26b1
                try clear c27
                try clear c27b0
                try clear c28
                try clear c28b0
                try clear p28
                try clear q28
                try clear hx28
                try clear qi28
                try clear c29
                try clear c29b0
                try clear p29
                try clear q29
                try clear hx29
                try clear qi29
                try clear c30
                try clear c30b0
                try clear c31
                try clear c31b0
                try clear c32
                try clear c32b0
                try clear c33
                try clear c33b0
                try clear c34
                try clear c34b0
                try clear c34b1
                try clear c35
                try clear c35b0
                try clear c36
                try clear c36b0
                try clear c36b1
                try clear c37
                try clear c37b0
                try clear c38
                try clear c38b0
                try clear c39
                try clear c39b0
                try clear c40
                try clear c40b0
                try clear c40b1
                try clear c41
                try clear c41b0
                try clear c42
                try clear c42b0
                try clear c42b1
                try clear hx282_0
                try clear hx284_0
                try clear hx285_0
                try clear hx286_0
                try clear hx287_0
                try clear hx288_0
                try clear hx289_0
                try clear hx290_0
                try clear p2
                try clear p282
                try clear p284
                try clear p285
                try clear p286
                try clear p287
                try clear p288
                try clear p289
                try clear p290
                try clear q282
                try clear q284
                try clear q285
                try clear q286
                try clear q287
                try clear q288
                try clear q289
                try clear q290
                obtain ⟨kq, x74_19, rfl, HA, HJ19, HO_4, HB⟩ := hcut
                cases kq with
                | zero => exact absurd HA.out (by simp [pentroughlaw06_CasingOnce.j2])
                | succ kj19 =>
                  have H := HA.out
                  clear HA
                  simp only [pentroughlaw06_CasingOnce.j2] at H
                  by_cases c43 : x74_19 = true
                  · subst c43
                    have H1 : (some false) = some r := by rw [if_pos rfl] at H; exact H
                    clear H
                    have H := H1
                    clear H1
                    obtain rfl := Option.some.inj H
                    go_wp2
                    go_ret
                    exact ⟨by first | rfl | (simp [errW_none, errW_some] <;> rfl) | (simp [*, errW_none, errW_some] <;> rfl), by repeat (first | (with_reducible first | exact HB.out | apply below_alloc | apply pw_below_drewN | apply below_drew1) | exact HB.out)⟩
                  · replace c43 := Bool.eq_false_iff.mpr c43
                    subst c43
                    have H1 : (if t277 = true then ((casing_All.f kj19 t278).bind fun t291 => ((pentroughref01_Same.f kj19 t291 t278).bind fun t294 => (some t294))) else (some false)) = some r := by rw [if_neg (show ¬ (false = true) by decide)] at H; exact H
                    clear H
                    have H := H1
                    clear H1
                    by_cases c44 : t277 = true
                    · subst c44
                      have H1 : ((casing_All.f kj19 t278).bind fun t291 => ((pentroughref01_Same.f kj19 t291 t278).bind fun t294 => (some t294))) = some r := by rw [if_pos rfl] at H; exact H
                      clear H
                      have H := H1
                      clear H1
                      replace H := Option.bind_eq_some_iff.mp H
                      obtain ⟨t291, A450, H⟩ := H
                      replace H : ((pentroughref01_Same.f kj19 t291 t278).bind fun t294 => (some t294)) = some r := H
                      have A45 := Aside0.mk A450
                      clear A450
                      replace H := Option.bind_eq_some_iff.mp H
                      obtain ⟨t294, A460, H⟩ := H
                      replace H : (some t294) = some r := H
                      have A46 := Aside0.mk A460
                      clear A460
                      obtain rfl := Option.some.inj H
                      go_wp2_with (first | (go_at_call 11; (with_reducible refine (casing_All.calls kj19 _ _ t278 t291 _ ?side1 ?side2 A45.out).mono ?_); (case side1 => repeat (first | exact (Kd.R_reads' HO_4.out).2.2 | (with_reducible refine Kd.C_alloc ?_ _) | (with_reducible refine Kd.C_drewN ?_ _) | (with_reducible refine Kd.C_drew ?_))); (case side2 => exact (Kd.R_reads' HO_4.out).2.1); rintro e w47 ⟨v292, rfl, ho0, hb⟩; have n0_ := Aside0.mk (Kd.R_elder' (by (with_reducible repeat (first | apply Kd.R_alloc | apply Kd.R_drewN | apply Kd.R_drew)); exact HO_4.out) (Kd.R_base ho0) hb); have n1_ := Aside0.mk (Kd.R_lower (Kd.R_new' ho0 (Kd.R_lt (by (with_reducible repeat (first | apply Kd.R_alloc | apply Kd.R_drewN | apply Kd.R_drew)); exact HO_4.out))) (below_size (by repeat (first | (with_reducible first | exact HB.out | apply below_alloc | apply pw_below_drewN | apply below_drew1) | exact HB.out)))); have n2_ := Aside0.mk (below_step (by repeat (first | (with_reducible first | exact HB.out | apply below_alloc | apply pw_below_drewN | apply below_drew1) | exact HB.out)) hb); clear HO_4; clear HB; have HO_4 := n0_; have HO293 := n1_; have HB := n2_; clear n0_ n1_ n2_; (try clear hb); (try clear hb2); (try clear hk); (try clear hi); (try clear ho0); obtain ⟨Ao48, co48, eo48⟩ := Kd.R_slice HO293.out; subst eo48) | (go_at_call 8; (with_reducible refine (pentroughref01_Same.calls kj19 _ _ t291 _ _ t278 t294 _ ?side1 ?side2 ?side3 ?side4 A46.out).mono ?_); (case side1 => repeat (first | exact (Kd.R_reads' HO293.out).2.2 | (with_reducible refine Kd.C_alloc ?_ _) | (with_reducible refine Kd.C_drewN ?_ _) | (with_reducible refine Kd.C_drew ?_))); (case side2 => exact (Kd.R_reads' HO293.out).2.1); (case side3 => repeat (first | exact (Kd.R_reads' HO_4.out).2.2 | (with_reducible refine Kd.C_alloc ?_ _) | (with_reducible refine Kd.C_drewN ?_ _) | (with_reducible refine Kd.C_drew ?_))); (case side4 => exact (Kd.R_reads' HO_4.out).2.1); rintro e w' ⟨rfl, ⟨nd, rfl⟩⟩))
                      go_ret
                      exact ⟨by first | rfl | (simp [errW_none, errW_some] <;> rfl) | (simp [*, errW_none, errW_some] <;> rfl), by repeat (first | (with_reducible first | exact HB.out | apply below_alloc | apply pw_below_drewN | apply below_drew1) | exact HB.out)⟩
                    · replace c44 := Bool.eq_false_iff.mpr c44
                      subst c44
                      have H1 : (some false) = some r := by rw [if_neg (show ¬ (false = true) by decide)] at H; exact H
                      clear H
                      have H := H1
                      clear H1
                      obtain rfl := Option.some.inj H
                      go_wp2
                      go_ret
                      exact ⟨by first | rfl | (simp [errW_none, errW_some] <;> rfl) | (simp [*, errW_none, errW_some] <;> rfl), by repeat (first | (with_reducible first | exact HB.out | apply below_alloc | apply pw_below_drewN | apply below_drew1) | exact HB.out)⟩

/-- THE ONE PURE STATEMENT of pentroughlaw06_CasingOnce: yours. -/
def pentroughlaw06_CasingOnce.Pure : Prop := ∀ (a0 : Int), (Lit.int .i64 a0).wf = true → ∃ k, pentroughlaw06_CasingOnce.f k a0 = some true
theorem pentroughlaw06_CasingOnce.walk (P : pentroughlaw06_CasingOnce.Pure) (a0 : Int) (w : World) (w0 : (Lit.int .i64 a0).wf = true) :
    Calls Try.prog 6 #[.int .i64 a0] w fun e w' => e = .returned (.bool true) ∧ Below w.heap.size w w' := by
  obtain ⟨k, h⟩ := P a0 w0
  refine (pentroughlaw06_CasingOnce.calls k a0 true w h).mono ?_
  rintro e w' ⟨rfl, hd⟩
  exact ⟨rfl, hd⟩

end Go.Proofs.Yteemdonegpnkcaa.Q
