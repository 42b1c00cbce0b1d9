-- Laid by mix.py, a program of this session, with the kit's print.py; walks by hand come out of wip/over.
import Derived.Test.YtdnglfodlhhikaaShort
import Derived.Test.YtdnglfodlhhikaaQ0
import Derived.Test.YtdnglfodlhhikaaQ2
import Derived.Test.YtdnglfodlhhikaaQ4
import Derived.Test.YtdnglfodlhhikaaQ7
import Derived.Test.YtdnglfodlhhikaaQ9
namespace Go.Proofs.Ytdnglfodlhhikaa.Q
open Go.RowKit Go.Proofs.YtdnglfodlhhikaaW.PrintWords Go.Proofs.YtdnglfodlhhikaaW.PrintLast Go.Proofs.YtdnglfodlhhikaaW.PrintMore Go.Proofs.YtdnglfodlhhikaaW.Sh
attribute [local go_sem] max2_int min2_int max_two min_two max_three min_three max_four min_four   -- for this text's walks alone
set_option linter.unusedVariables false
set_option linter.unusedSimpArgs false

/-! ### pentroughlaw23_ScriptRows: function 7 -/
mutual
def pentroughlaw23_ScriptRows.j0 : Nat → List (S24) → List Int → Bool → Bool → Option (Bool)
  | 0, _, _, _, _ => none
  | k + 1, x0, x1, x5, x25 => if x25 = true then (some x5) else (pentroughlaw23_ScriptRows.l0 k x0 x1 x5 ([] : List Int) 0)
def pentroughlaw23_ScriptRows.l0 : Nat → List (S24) → List Int → Bool → List Int → Int → Option (Bool)
  | 0, _, _, _, _, _ => none
  | k + 1, x0, x1, x5, x6, x7 => if x7 < (x0.length : Int) then (if 0 ≤ x7 then (if (((rd_T24 x0 x7).f3).length : Int) > 300 then (pentroughlaw23_ScriptRows.j2 k x0 x1 x5 x6 x7 true) else ((pentroughlaw23_ours.f ((rd_T24 x0 x7).f0) ((rd_T24 x0 x7).f1) ((rd_T24 x0 x7).f2) ((rd_T24 x0 x7).f3)).bind fun bt261 => ((script_Sane.f k bt261.1 bt261.2.1 bt261.2.2.1 bt261.2.2.2).bind fun t267 => (pentroughlaw23_ScriptRows.j2 k x0 x1 x5 x6 x7 (!t267))))) else (none)) else (if x6.length + x1.length < 140737488355328 then ((script_All.f k (x6 ++ x1)).bind fun bt284 => ((script_All.f k x1).bind fun bt289 => (if (bt284.1.length : Int) = (wrap64 ((x0.length : Int) + (bt289.1.length : Int))) then (if bt284.2.1 = (wrap64 ((x6.length : Int) + bt289.2.1)) then (pentroughlaw23_ScriptRows.j3 k x0 x5 bt284.1 bt289.1 (bt284.2.2 != bt289.2.2)) else (pentroughlaw23_ScriptRows.j3 k x0 x5 bt284.1 bt289.1 true)) else (pentroughlaw23_ScriptRows.j3 k x0 x5 bt284.1 bt289.1 true)))) else (none))
def pentroughlaw23_ScriptRows.j2 : Nat → List (S24) → List Int → Bool → List Int → Int → Bool → Option (Bool)
  | 0, _, _, _, _, _, _ => none
  | k + 1, x0, x1, x5, x6, x7, x48 => if x48 = true then (some x5) else (if 0 ≤ x7 then (if x7 < (x0.length : Int) then ((pentroughlaw23_ours.f ((rd_T24 x0 x7).f0) ((rd_T24 x0 x7).f1) ((rd_T24 x0 x7).f2) ((rd_T24 x0 x7).f3)).bind fun bt269 => ((script_Put.f k bt269.1 bt269.2.1 bt269.2.2.1 bt269.2.2.2).bind fun t275 => (if x6.length + t275.length < 140737488355328 then (pentroughlaw23_ScriptRows.l0 k x0 x1 x5 (x6 ++ t275) (wrap64 (x7 + 1))) else (none)))) else (none)) else (none))
def pentroughlaw23_ScriptRows.j3 : Nat → List (S24) → Bool → List (S27) → List (S27) → Bool → Option (Bool)
  | 0, _, _, _, _, _ => none
  | k + 1, x0, x5, x9, x12, x94 => if x94 = true then (some false) else (pentroughlaw23_ScriptRows.l1 k x0 x5 x9 x12 0)
def pentroughlaw23_ScriptRows.l1 : Nat → List (S24) → Bool → List (S27) → List (S27) → Int → Option (Bool)
  | 0, _, _, _, _, _ => none
  | k + 1, x0, x5, x9, x12, x15 => if x15 < (x9.length : Int) then (if x15 < (x0.length : Int) then (if 0 ≤ x15 then ((pentroughlaw23_theirs.f ((rd_T27 x9 x15).f0) ((rd_T27 x9 x15).f1) ((rd_T27 x9 x15).f2) ((rd_T27 x9 x15).f3)).bind fun bt297 => ((pentroughref23_Same.f bt297.1 bt297.2.1 bt297.2.2.1 bt297.2.2.2 ((rd_T24 x0 x15).f0) ((rd_T24 x0 x15).f1) ((rd_T24 x0 x15).f2) ((rd_T24 x0 x15).f3)).bind fun t303 => (if t303 = true then (pentroughlaw23_ScriptRows.l1 k x0 x5 x9 x12 (wrap64 (x15 + 1))) else (some false)))) else (none)) else (if 0 ≤ (wrap64 (x15 - (x0.length : Int))) then (if (wrap64 (x15 - (x0.length : Int))) < (x12.length : Int) then ((pentroughlaw23_theirs.f ((rd_T27 x12 (wrap64 (x15 - (x0.length : Int)))).f0) ((rd_T27 x12 (wrap64 (x15 - (x0.length : Int)))).f1) ((rd_T27 x12 (wrap64 (x15 - (x0.length : Int)))).f2) ((rd_T27 x12 (wrap64 (x15 - (x0.length : Int)))).f3)).bind fun bt305 => (if 0 ≤ x15 then ((pentroughlaw23_theirs.f ((rd_T27 x9 x15).f0) ((rd_T27 x9 x15).f1) ((rd_T27 x9 x15).f2) ((rd_T27 x9 x15).f3)).bind fun bt312 => ((pentroughref23_Same.f bt312.1 bt312.2.1 bt312.2.2.1 bt312.2.2.2 bt305.1 bt305.2.1 bt305.2.2.1 bt305.2.2.2).bind fun t318 => (if t318 = true then (pentroughlaw23_ScriptRows.l1 k x0 x5 x9 x12 (wrap64 (x15 + 1))) else (some false)))) else (none))) else (none)) else (none))) else (some x5)
end
def pentroughlaw23_ScriptRows.f (k : Nat) (l0 : List (S24)) (l1 : List Int) : Option (Bool) := (pentroughlaw23_awake.f).bind fun t258 => (if (l0.length : Int) > 20 then (pentroughlaw23_ScriptRows.j0 k l0 l1 t258 true) else (pentroughlaw23_ScriptRows.j0 k l0 l1 t258 (decide ((l1.length : Int) > 200))))
theorem pentroughlaw23_ScriptRows.mono_l : ∀ k, (∀ y0 y1 y2 y3, LeO (pentroughlaw23_ScriptRows.j0 k y0 y1 y2 y3) (pentroughlaw23_ScriptRows.j0 (k + 1) y0 y1 y2 y3)) ∧ (∀ y0 y1 y2 y3 y4, LeO (pentroughlaw23_ScriptRows.l0 k y0 y1 y2 y3 y4) (pentroughlaw23_ScriptRows.l0 (k + 1) y0 y1 y2 y3 y4)) ∧ (∀ y0 y1 y2 y3 y4 y5, LeO (pentroughlaw23_ScriptRows.j2 k y0 y1 y2 y3 y4 y5) (pentroughlaw23_ScriptRows.j2 (k + 1) y0 y1 y2 y3 y4 y5)) ∧ (∀ y0 y1 y2 y3 y4, LeO (pentroughlaw23_ScriptRows.j3 k y0 y1 y2 y3 y4) (pentroughlaw23_ScriptRows.j3 (k + 1) y0 y1 y2 y3 y4)) ∧ (∀ y0 y1 y2 y3 y4, LeO (pentroughlaw23_ScriptRows.l1 k y0 y1 y2 y3 y4) (pentroughlaw23_ScriptRows.l1 (k + 1) y0 y1 y2 y3 y4))
  | 0 => ⟨fun _ _ _ _ r h => by simp [pentroughlaw23_ScriptRows.j0] at h, fun _ _ _ _ _ r h => by simp [pentroughlaw23_ScriptRows.l0] at h, fun _ _ _ _ _ _ r h => by simp [pentroughlaw23_ScriptRows.j2] at h, fun _ _ _ _ _ r h => by simp [pentroughlaw23_ScriptRows.j3] at h, fun _ _ _ _ _ r h => by simp [pentroughlaw23_ScriptRows.l1] at h⟩
  | k + 1 => by
    obtain ⟨ih0, ih1, ih2, ih3, ih4⟩ := pentroughlaw23_ScriptRows.mono_l k
    refine ⟨?_, ?_, ?_, ?_, ?_⟩
    · intro y0 y1 y2 y3
      unfold pentroughlaw23_ScriptRows.j0
      repeat' first
      | (with_reducible exact ih0 _ _ _ _)
      | (with_reducible exact ih1 _ _ _ _ _)
      | (with_reducible exact ih2 _ _ _ _ _ _)
      | (with_reducible exact ih3 _ _ _ _ _)
      | (with_reducible exact ih4 _ _ _ _ _)
      | (with_reducible exact script_All.mono _ _)
      | (with_reducible exact script_Put.mono _ _ _ _ _)
      | (with_reducible exact script_Sane.mono _ _ _ _ _)
      | (with_reducible exact LeO.refl _)
      | (with_reducible exact LeO.none _)
      | (with_reducible refine LeO.ite ?_ ?_)
      | (with_reducible refine LeO.bind ?_ (fun _ => ?_))
      | exact ih0 _ _ _ _
      | exact ih1 _ _ _ _ _
      | exact ih2 _ _ _ _ _ _
      | exact ih3 _ _ _ _ _
      | exact ih4 _ _ _ _ _
      | exact script_All.mono _ _
      | exact script_Put.mono _ _ _ _ _
      | exact script_Sane.mono _ _ _ _ _
      | exact LeO.none _
      | refine LeO.ite ?_ ?_
      | refine LeO.bind ?_ (fun _ => ?_)
    · intro y0 y1 y2 y3 y4
      unfold pentroughlaw23_ScriptRows.l0
      repeat' first
      | (with_reducible exact ih0 _ _ _ _)
      | (with_reducible exact ih1 _ _ _ _ _)
      | (with_reducible exact ih2 _ _ _ _ _ _)
      | (with_reducible exact ih3 _ _ _ _ _)
      | (with_reducible exact ih4 _ _ _ _ _)
      | (with_reducible exact script_All.mono _ _)
      | (with_reducible exact script_Put.mono _ _ _ _ _)
      | (with_reducible exact script_Sane.mono _ _ _ _ _)
      | (with_reducible exact LeO.refl _)
      | (with_reducible exact LeO.none _)
      | (with_reducible refine LeO.ite ?_ ?_)
      | (with_reducible refine LeO.bind ?_ (fun _ => ?_))
      | exact ih0 _ _ _ _
      | exact ih1 _ _ _ _ _
      | exact ih2 _ _ _ _ _ _
      | exact ih3 _ _ _ _ _
      | exact ih4 _ _ _ _ _
      | exact script_All.mono _ _
      | exact script_Put.mono _ _ _ _ _
      | exact script_Sane.mono _ _ _ _ _
      | exact LeO.none _
      | refine LeO.ite ?_ ?_
      | refine LeO.bind ?_ (fun _ => ?_)
    · intro y0 y1 y2 y3 y4 y5
      unfold pentroughlaw23_ScriptRows.j2
      repeat' first
      | (with_reducible exact ih0 _ _ _ _)
      | (with_reducible exact ih1 _ _ _ _ _)
      | (with_reducible exact ih2 _ _ _ _ _ _)
      | (with_reducible exact ih3 _ _ _ _ _)
      | (with_reducible exact ih4 _ _ _ _ _)
      | (with_reducible exact script_All.mono _ _)
      | (with_reducible exact script_Put.mono _ _ _ _ _)
      | (with_reducible exact script_Sane.mono _ _ _ _ _)
      | (with_reducible exact LeO.refl _)
      | (with_reducible exact LeO.none _)
      | (with_reducible refine LeO.ite ?_ ?_)
      | (with_reducible refine LeO.bind ?_ (fun _ => ?_))
      | exact ih0 _ _ _ _
      | exact ih1 _ _ _ _ _
      | exact ih2 _ _ _ _ _ _
      | exact ih3 _ _ _ _ _
      | exact ih4 _ _ _ _ _
      | exact script_All.mono _ _
      | exact script_Put.mono _ _ _ _ _
      | exact script_Sane.mono _ _ _ _ _
      | exact LeO.none _
      | refine LeO.ite ?_ ?_
      | refine LeO.bind ?_ (fun _ => ?_)
    · intro y0 y1 y2 y3 y4
      unfold pentroughlaw23_ScriptRows.j3
      repeat' first
      | (with_reducible exact ih0 _ _ _ _)
      | (with_reducible exact ih1 _ _ _ _ _)
      | (with_reducible exact ih2 _ _ _ _ _ _)
      | (with_reducible exact ih3 _ _ _ _ _)
      | (with_reducible exact ih4 _ _ _ _ _)
      | (with_reducible exact script_All.mono _ _)
      | (with_reducible exact script_Put.mono _ _ _ _ _)
      | (with_reducible exact script_Sane.mono _ _ _ _ _)
      | (with_reducible exact LeO.refl _)
      | (with_reducible exact LeO.none _)
      | (with_reducible refine LeO.ite ?_ ?_)
      | (with_reducible refine LeO.bind ?_ (fun _ => ?_))
      | exact ih0 _ _ _ _
      | exact ih1 _ _ _ _ _
      | exact ih2 _ _ _ _ _ _
      | exact ih3 _ _ _ _ _
      | exact ih4 _ _ _ _ _
      | exact script_All.mono _ _
      | exact script_Put.mono _ _ _ _ _
      | exact script_Sane.mono _ _ _ _ _
      | exact LeO.none _
      | refine LeO.ite ?_ ?_
      | refine LeO.bind ?_ (fun _ => ?_)
    · intro y0 y1 y2 y3 y4
      unfold pentroughlaw23_ScriptRows.l1
      repeat' first
      | (with_reducible exact ih0 _ _ _ _)
      | (with_reducible exact ih1 _ _ _ _ _)
      | (with_reducible exact ih2 _ _ _ _ _ _)
      | (with_reducible exact ih3 _ _ _ _ _)
      | (with_reducible exact ih4 _ _ _ _ _)
      | (with_reducible exact script_All.mono _ _)
      | (with_reducible exact script_Put.mono _ _ _ _ _)
      | (with_reducible exact script_Sane.mono _ _ _ _ _)
      | (with_reducible exact LeO.refl _)
      | (with_reducible exact LeO.none _)
      | (with_reducible refine LeO.ite ?_ ?_)
      | (with_reducible refine LeO.bind ?_ (fun _ => ?_))
      | exact ih0 _ _ _ _
      | exact ih1 _ _ _ _ _
      | exact ih2 _ _ _ _ _ _
      | exact ih3 _ _ _ _ _
      | exact ih4 _ _ _ _ _
      | exact script_All.mono _ _
      | exact script_Put.mono _ _ _ _ _
      | exact script_Sane.mono _ _ _ _ _
      | exact LeO.none _
      | refine LeO.ite ?_ ?_
      | refine LeO.bind ?_ (fun _ => ?_)
theorem pentroughlaw23_ScriptRows.mono : ∀ a0 a1 k, LeO (pentroughlaw23_ScriptRows.f k a0 a1) (pentroughlaw23_ScriptRows.f (k + 1) a0 a1) := by
  intro a0 a1 k
  obtain ⟨ih0, ih1, ih2, ih3, ih4⟩ := pentroughlaw23_ScriptRows.mono_l k
  unfold pentroughlaw23_ScriptRows.f
  repeat' first
      | (with_reducible exact ih0 _ _ _ _)
      | (with_reducible exact ih1 _ _ _ _ _)
      | (with_reducible exact ih2 _ _ _ _ _ _)
      | (with_reducible exact ih3 _ _ _ _ _)
      | (with_reducible exact ih4 _ _ _ _ _)
      | (with_reducible exact script_All.mono _ _)
      | (with_reducible exact script_Put.mono _ _ _ _ _)
      | (with_reducible exact script_Sane.mono _ _ _ _ _)
      | (with_reducible exact LeO.refl _)
      | (with_reducible exact LeO.none _)
      | (with_reducible refine LeO.ite ?_ ?_)
      | (with_reducible refine LeO.bind ?_ (fun _ => ?_))
      | exact ih0 _ _ _ _
      | exact ih1 _ _ _ _ _
      | exact ih2 _ _ _ _ _ _
      | exact ih3 _ _ _ _ _
      | exact ih4 _ _ _ _ _
      | exact script_All.mono _ _
      | exact script_Put.mono _ _ _ _ _
      | exact script_Sane.mono _ _ _ _ _
      | exact LeO.none _
      | refine LeO.ite ?_ ?_
      | refine LeO.bind ?_ (fun _ => ?_)
def pentroughlaw23_ScriptRows.T24 : Bool × List (List Nat × List Nat) := (true, [([], []), ([], []), ([0, 1], [0, 1]), ([2], [2]), ([3], [3]), ([], []), ([4, 5, 4], [4, 5]), ([6], [6])])
def pentroughlaw23_ScriptRows.B24 : List Nat := [0, 0, 3, 7, 15, 0, 63, 127]
theorem pentroughlaw23_ScriptRows.tab24 : rtab .any (opsOf Try.f7 24) = pentroughlaw23_ScriptRows.T24 := by kernel_rfl
theorem pentroughlaw23_ScriptRows.bits24 : waitsOk pentroughlaw23_ScriptRows.T24.2 pentroughlaw23_ScriptRows.B24 = true := by kernel_rfl
set_option maxHeartbeats 8000000 in
set_option maxRecDepth 100000 in
theorem pentroughlaw23_ScriptRows.calls (k : Nat) (A0 : Option Addr) (c0 : Nat) (l0 : List (S24)) (A1 : Option Addr) (c1 : Nat) (l1 : List Int) (r : Bool) (w : World) (hr0 : Kd.C k24 w A0 l0.length l0) (hc0 : l0.length ≤ c0) (hr1 : Kd.C (Kd.int .u8) w A1 l1.length l1) (hc1 : l1.length ≤ c1) (h : pentroughlaw23_ScriptRows.f k l0 l1 = some r) (HRT : Aside0 (r = true)) :
    Calls Try.prog 7 #[.slice A0 l0.length c0, .slice A1 l1.length c1] w fun e w' => e = .returned (.bool r) ∧ Below w.heap.size w w' := by
  have hu24 := Try.underlying24
  have hu27 := Try.underlying27
  have HR0 := Aside0.mk hr0
  have HC0 := Aside0.mk hc0
  clear hr0 hc0
  have HR1 := Aside0.mk hr1
  have HC1 := Aside0.mk hc1
  clear hr1 hc1
  have HB := Aside0.mk (Below.refl w.heap.size w)
  have H : ((pentroughlaw23_awake.f).bind fun t258 => (if (l0.length : Int) > 20 then (pentroughlaw23_ScriptRows.j0 k l0 l1 t258 true) else (pentroughlaw23_ScriptRows.j0 k l0 l1 t258 (decide ((l1.length : Int) > 200))))) = some r := h
  clear h
  obtain ⟨t258, A3, H⟩ := ob H
  have HC4 := Aside0.mk H
  clear H
  go_enter Try.func7, Try.ntmps7
  go_upto_region 2 with (first | ((with_reducible refine gate_callee (f := 9) rfl ?_); refine gL (some 17) rfl rfl Try.func9 (by kernel_rfl) rfl #[] rfl ?_; (with_reducible refine (pentroughlaw23_awake.calls  t258 _ A3.out).mono ?_); rintro e w5 ⟨rfl, hb⟩; refine ⟨_, rfl, ?_⟩; replace HB := hB HB hb; (try clear hb); (try clear hb2); (try clear hk); (try clear hi)))
  (try simp only [Act.put, List.setIfInBounds_toArray, List.set_cons_zero, List.set_cons_succ])
  go_cut [25] (fun v25 wc => ∃ (kq : Nat) (x25_3 : Bool), v25 = .bool x25_3 ∧ Aside0 (pentroughlaw23_ScriptRows.j0 kq l0 l1 t258 x25_3 = some r) ∧ Aside0 (kq ≤ k) ∧ Aside0 (Below w.heap.size w wc))
  case first =>
    have H := HC4.out
    clear HC4
    by_cases c6 : (l0.length : Int) > 20
    · rw [if_pos c6] at H
      have c6b0 : decide (20 < (l0.length : Int)) = true := decide_eq_true c6
      have c6b1 : decide (20 < l0.length) = true := decide_eq_true (by omega)
      clear c6
      (first | rw [c6b0] | (simp only [i64_w, i32_w]; rw [c6b0]) | skip)
      have H' := Aside0.mk H
      clear H
      go_wp2
      go_meet
      case rel => exact ⟨_, (true), (by first | rfl | (simp; done) | (simp [*]; done)), H', ⟨by first | omega | exact Nat.le_refl _⟩, ⟨bb HB⟩⟩
    · rw [if_neg c6] at H
      have c6b0 : decide (20 < (l0.length : Int)) = false := decide_eq_false c6
      have c6b1 : decide (20 < l0.length) = false := decide_eq_false (by omega)
      clear c6
      (first | rw [c6b0] | (simp only [i64_w, i32_w]; rw [c6b0]) | skip)
      have H' := Aside0.mk H
      clear H
      go_wp2
      go_meet
      case rel => exact ⟨_, (decide ((l1.length : Int) > 200)), (by first | rfl | (simp; done) | (simp [*]; done)), H', ⟨by first | omega | exact Nat.le_refl _⟩, ⟨bb HB⟩⟩
  case rest =>
    clear HC4
    try clear c1
    try clear p2
    try clear c6
    try clear c6b0
    try clear c6b1
    obtain ⟨kq, x25_3, rfl, HA, HJ3, HB⟩ := hcut
    cases kq with
    | zero => exact absurd HA.out (by simp [pentroughlaw23_ScriptRows.j0])
    | succ kj3 =>
      have H := HA.out
      clear HA
      simp only [pentroughlaw23_ScriptRows.j0] at H
      by_cases c7 : x25_3 = true
      · subst c7
        rw [if_pos rfl] at H
        obtain rfl := Option.some.inj H
        go_wp2
        go_ret
        exact ⟨by first | rfl | (simp [errW_none, errW_some] <;> rfl) | (simp [*, errW_none, errW_some] <;> rfl), by repeat (first | (with_reducible first | exact HB.out | apply below_alloc | apply pw_below_drewN | apply below_drew1) | exact HB.out)⟩
      · replace c7 := Bool.eq_false_iff.mpr c7
        subst c7
        rw [if_neg nf] at H
        have H' := Aside0.mk H
        clear H
        go_wp2
        go_loopg [6, 7] kj3 (fun kq v6 v7 w' => ∃ (x6_2 : List Int) (x7_2 : Int), v7 = .int .i64 x7_2 ∧ Aside0 (pentroughlaw23_ScriptRows.l0 kq l0 l1 t258 x6_2 x7_2 = some r) ∧ Aside0 (kq ≤ kj3) ∧ Aside0 (Kd.R (Kd.int .u8) 5 w' w.heap.size (fun _ => True) v6 x6_2) ∧ Aside0 (Below w.heap.size w w'))
        case atStart => exact ⟨(([] : List Int)), (0), (by first | rfl | (simp; done) | (simp [*]; done)), H', ⟨Nat.le_refl _⟩, ⟨by first | exact Kd.R_nil _ _ _ _ _ | exact Kd.N_nil _ _ _ _ _ | exact Kd.V_nil _ _ _ _ _ | exact Kd.Q_nil _ _ _ _ _ | exact Kd.S_nil _ _ _ _ _⟩, ⟨bb HB⟩⟩
        case round =>
          clear H'
          try clear c1
          try clear p2
          try clear c6
          try clear c6b0
          try clear c6b1
          try clear c7
          try clear p2
          obtain ⟨x6_2, x7_2, rfl, HA, HK2, HO_6, HB⟩ := hrel
          cases gk with
          | zero => exact absurd HA.out (by simp [pentroughlaw23_ScriptRows.l0])
          | succ k2 =>
            have H := HA.out
            clear HA
            simp only [pentroughlaw23_ScriptRows.l0] at H
            by_cases c8 : x7_2 < (l0.length : Int)
            · rw [if_pos c8] at H
              have c8b0 : decide (x7_2 < (l0.length : Int)) = true := decide_eq_true c8
              clear c8
              have HC9 := Aside0.mk H
              clear H
              go_upto_region 8 with (fail)
              go_cut [48] (fun v48 wc => ∃ (kq : Nat) (x48_8 : Bool), v48 = .bool x48_8 ∧ Aside0 (pentroughlaw23_ScriptRows.j2 kq l0 l1 t258 x6_2 x7_2 x48_8 = some r) ∧ Aside0 (kq ≤ k2) ∧ Aside0 (Kd.R (Kd.int .u8) 5 wc w.heap.size (fun _ => True) u6 x6_2) ∧ Aside0 (Below w.heap.size w wc))
              case first =>
                have H := HC9.out
                clear HC9
                by_cases c10 : 0 ≤ x7_2
                · rw [if_pos c10] at H
                  have c10b0 : decide (0 ≤ x7_2) = true := decide_eq_true c10
                  clear c10
                  (first | rw [c10b0] | (simp only [i64_w, i32_w]; rw [c10b0]) | skip)
                  by_cases c11 : (((rd_T24 l0 x7_2).f3).length : Int) > 300
                  · rw [if_pos c11] at H
                    have c11b0 : decide (300 < (((rd_T24 l0 x7_2).f3).length : Int)) = true := decide_eq_true c11
                    have c11b1 : decide (300 < ((rd_T24 l0 x7_2).f3).length) = true := decide_eq_true (by omega)
                    clear c11
                    have H' := Aside0.mk H
                    clear H
                    have p259 : 0 ≤ (x7_2 : Int) := of_decide_eq_true (by first | (with_reducible assumption) | assumption)
                    have q259 : x7_2 < (l0.length : Int) := of_decide_eq_true (by first | (with_reducible assumption) | assumption)
                    obtain ⟨ad259, A259_3, c259_3, e259, hx259_0, hx259_1, hx259_2, hx259_3, hl259_3, hi259_3⟩ := at_T24 HR0.out x7_2 p259 q259
                    cases e259
                    replace hx259_0 := (HB.out.cell (World.block_lt_of_cell? w _ hx259_0)).trans hx259_0
                    replace hx259_1 := (HB.out.cell (World.block_lt_of_cell? w _ hx259_1)).trans hx259_1
                    replace hx259_2 := (HB.out.cell (World.block_lt_of_cell? w _ hx259_2)).trans hx259_2
                    replace hx259_3 := (HB.out.cell (World.block_lt_of_cell? w _ hx259_3)).trans hx259_3
                    have HR259_3 := Aside0.mk hi259_3
                    have HC259_3 := Aside0.mk hl259_3
                    clear hi259_3 hl259_3
                    replace p259 := eq_true p259
                    replace q259 := eq_true q259
                    go_wp2
                    go_meet
                    case rel => exact ⟨_, (true), (by first | rfl | (simp; done) | (simp [*]; done)), H', ⟨by have := HJ3.out; have := HK2.out; first | omega | exact Nat.le_refl _⟩, ⟨by (with_reducible repeat (first | apply Kd.R_alloc | apply Kd.R_drewN | apply Kd.R_drew)); exact HO_6.out⟩, ⟨bb HB⟩⟩
                  · rw [if_neg c11] at H
                    have c11b0 : decide (300 < (((rd_T24 l0 x7_2).f3).length : Int)) = false := decide_eq_false c11
                    have c11b1 : decide (300 < ((rd_T24 l0 x7_2).f3).length) = false := decide_eq_false (by omega)
                    clear c11
                    obtain ⟨⟨t261, t262, t263, t264⟩, A12, H⟩ := ob H
                    (try dsimp only at H)
                    obtain ⟨t267, A13, H⟩ := ob H
                    have H' := Aside0.mk H
                    clear H
                    have p259 : 0 ≤ (x7_2 : Int) := of_decide_eq_true (by first | (with_reducible assumption) | assumption)
                    have q259 : x7_2 < (l0.length : Int) := of_decide_eq_true (by first | (with_reducible assumption) | assumption)
                    obtain ⟨ad259, A259_3, c259_3, e259, hx259_0, hx259_1, hx259_2, hx259_3, hl259_3, hi259_3⟩ := at_T24 HR0.out x7_2 p259 q259
                    cases e259
                    replace hx259_0 := (HB.out.cell (World.block_lt_of_cell? w _ hx259_0)).trans hx259_0
                    replace hx259_1 := (HB.out.cell (World.block_lt_of_cell? w _ hx259_1)).trans hx259_1
                    replace hx259_2 := (HB.out.cell (World.block_lt_of_cell? w _ hx259_2)).trans hx259_2
                    replace hx259_3 := (HB.out.cell (World.block_lt_of_cell? w _ hx259_3)).trans hx259_3
                    have HR259_3 := Aside0.mk hi259_3
                    have HC259_3 := Aside0.mk hl259_3
                    clear hi259_3 hl259_3
                    replace p259 := eq_true p259
                    replace q259 := eq_true q259
                    have p260 : 0 ≤ (x7_2 : Int) := of_decide_eq_true (by first | (with_reducible assumption) | assumption)
                    have q260 : x7_2 < (l0.length : Int) := of_decide_eq_true (by first | (with_reducible assumption) | assumption)
                    obtain ⟨ad260, A260_3, c260_3, e260, hx260_0, hx260_1, hx260_2, hx260_3, hl260_3, hi260_3⟩ := at_T24 HR0.out x7_2 p260 q260
                    obtain rfl : ad259 = ad260 := (by injection e260)
                    replace hx260_0 := (HB.out.cell (World.block_lt_of_cell? w _ hx260_0)).trans hx260_0
                    replace hx260_1 := (HB.out.cell (World.block_lt_of_cell? w _ hx260_1)).trans hx260_1
                    replace hx260_2 := (HB.out.cell (World.block_lt_of_cell? w _ hx260_2)).trans hx260_2
                    replace hx260_3 := (HB.out.cell (World.block_lt_of_cell? w _ hx260_3)).trans hx260_3
                    have HR260_3 := Aside0.mk hi260_3
                    have HC260_3 := Aside0.mk hl260_3
                    clear hi260_3 hl260_3
                    replace p260 := eq_true p260
                    replace q260 := eq_true q260
                    have ea_ := Option.some.inj (hx259_3.symm.trans hx260_3)
                    injection ea_ with ea_ en_ ec_
                    subst ea_
                    subst ec_
                    clear en_
                    go_wp2_with (first | (go_at_call 11; (with_reducible refine (pentroughlaw23_ours.calls ((rd_T24 l0 x7_2).f0) ((rd_T24 l0 x7_2).f1) ((rd_T24 l0 x7_2).f2) (fun k_ => k_ < w.heap.size) _ _ ((rd_T24 l0 x7_2).f3) t261 t262 t263 t264 _ ?side1 A12.out).mono ?_); (case side1 => exact Kd.V_mk HC260_3.out (Kd.F_below (Kd.C_F (Kd.heap_int .u8) HR260_3.out) (bb HB))); rintro e w14 ⟨v265, rfl, ho0, hb⟩; have HO266 := Aside0.mk (Kd.V_lower (Kd.V_mono (ok' := fun k_ => some k_ ≠ (u6 : Value).ownBlock) ho0 (fun k_ hk_ => Or.elim hk_ (fun hs_ => fun e_ => Nat.not_le.2 hs_ (Kd.R_base HO_6.out k_ e_.symm)) (fun hn_ => (Kd.fresh' (Kd.R_lt (by (with_reducible repeat (first | apply Kd.R_alloc | apply Kd.R_drewN | apply Kd.R_drew)); exact HO_6.out)) k_ hn_)))) (below_size (bb HB))); replace HO_6 := Aside0.mk (Kd.R_below (by (with_reducible repeat (first | apply Kd.R_alloc | apply Kd.R_drewN | apply Kd.R_drew)); exact HO_6.out) hb); replace HB := hB HB hb; (try clear hb); (try clear hb2); (try clear hk); (try clear hi); (try clear ho0); obtain ⟨Ao15, co15, eo15⟩ := Kd.V_slice HO266.out; subst eo15) | (go_at_call 12; (with_reducible refine (script_Sane.calls k2 t261 t262 t263 _ _ t264 t267 _ ?side1 ?side2 A13.out).mono ?_); (case side1 => exact (Kd.V_reads' (vv HO266)).2.2); (case side2 => exact (Kd.V_reads' HO266.out).2.1); rintro e w16 ⟨rfl, hb⟩; replace HO_6 := Aside0.mk (Kd.R_below (by (with_reducible repeat (first | apply Kd.R_alloc | apply Kd.R_drewN | apply Kd.R_drew)); exact HO_6.out) hb); replace HO266 := vB HO266 hb; replace HB := hB HB hb; (try clear hb); (try clear hb2); (try clear hk); (try clear hi)))
                    go_meet
                    case rel => exact ⟨_, (!t267), (by first | rfl | (simp; done) | (simp [*]; done)), H', ⟨by have := HJ3.out; have := HK2.out; first | omega | exact Nat.le_refl _⟩, ⟨by (with_reducible repeat (first | apply Kd.R_alloc | apply Kd.R_drewN | apply Kd.R_drew)); exact HO_6.out⟩, ⟨bb HB⟩⟩
                · rw [if_neg c10] at H
                  exact absurd H (by simp)
              case rest =>
                clear HC9
                try clear c1
                try clear c2
                try clear p2
                try clear q2
                try clear hx2
                try clear c6
                try clear c6b0
                try clear c6b1
                try clear c7
                try clear c8
                try clear c8b0
                try clear c9
                try clear c10
                try clear c10b0
                try clear c11
                try clear c11b0
                try clear c11b1
                try clear hx259_0
                try clear hx259_1
                try clear hx259_2
                try clear hx259_3
                try clear hx260_0
                try clear hx260_1
                try clear hx260_2
                try clear hx260_3
                try clear p2
                try clear p259
                try clear p260
                try clear q259
                try clear q260
                obtain ⟨kq, x48_8, rfl, HA, HJ8, HO_6, HB⟩ := hcut
                cases kq with
                | zero => exact absurd HA.out (by simp [pentroughlaw23_ScriptRows.j2])
                | succ kj8 =>
                  have H := HA.out
                  clear HA
                  simp only [pentroughlaw23_ScriptRows.j2] at H
                  by_cases c17 : x48_8 = true
                  · subst c17
                    rw [if_pos rfl] at H
                    obtain rfl := Option.some.inj H
                    go_wp2
                    go_ret
                    exact ⟨by first | rfl | (simp [errW_none, errW_some] <;> rfl) | (simp [*, errW_none, errW_some] <;> rfl), by repeat (first | (with_reducible first | exact HB.out | apply below_alloc | apply pw_below_drewN | apply below_drew1) | exact HB.out)⟩
                  · replace c17 := Bool.eq_false_iff.mpr c17
                    subst c17
                    rw [if_neg nf] at H
                    by_cases c18 : 0 ≤ x7_2
                    · rw [if_pos c18] at H
                      have c18b0 : decide (0 ≤ x7_2) = true := decide_eq_true c18
                      clear c18
                      by_cases c19 : x7_2 < (l0.length : Int)
                      · rw [if_pos c19] at H
                        have c19b0 : decide (x7_2 < (l0.length : Int)) = true := decide_eq_true c19
                        clear c19
                        obtain ⟨⟨t269, t270, t271, t272⟩, A20, H⟩ := ob H
                        (try dsimp only at H)
                        obtain ⟨t275, A21, H⟩ := ob H
                        by_cases c22 : x6_2.length + t275.length < 140737488355328
                        · rw [if_pos c22] at H
                          have LMc22 := Aside0.mk c22
                          clear c22
                          obtain ⟨y278, hy278⟩ : ∃ y_ : List Int, y_ = (x6_2 ++ t275) := ⟨_, rfl⟩
                          replace H : (pentroughlaw23_ScriptRows.l0 kj8 l0 l1 t258 y278 (wrap64 (x7_2 + 1))) = some r := by first | (rw [hy278]; with_reducible exact H) | (have H2_ := (Option.bind_some _ _).symm.trans H; rw [hy278]; with_reducible exact H2_) | (have H2_ := (Option.bind_some _ _).symm.trans H; with_reducible exact H2_) | with_reducible exact H | (rw [hy278]; exact H) | exact H
                          have Ny278 := Aside0.mk hy278
                          clear hy278
                          have H' := Aside0.mk H
                          clear H
                          have p268 : 0 ≤ (x7_2 : Int) := of_decide_eq_true (by first | (with_reducible assumption) | assumption)
                          have q268 : x7_2 < (l0.length : Int) := of_decide_eq_true (by first | (with_reducible assumption) | assumption)
                          obtain ⟨ad268, A268_3, c268_3, e268, hx268_0, hx268_1, hx268_2, hx268_3, hl268_3, hi268_3⟩ := at_T24 HR0.out x7_2 p268 q268
                          cases e268
                          replace hx268_0 := (HB.out.cell (World.block_lt_of_cell? w _ hx268_0)).trans hx268_0
                          replace hx268_1 := (HB.out.cell (World.block_lt_of_cell? w _ hx268_1)).trans hx268_1
                          replace hx268_2 := (HB.out.cell (World.block_lt_of_cell? w _ hx268_2)).trans hx268_2
                          replace hx268_3 := (HB.out.cell (World.block_lt_of_cell? w _ hx268_3)).trans hx268_3
                          have HR268_3 := Aside0.mk hi268_3
                          have HC268_3 := Aside0.mk hl268_3
                          clear hi268_3 hl268_3
                          replace p268 := eq_true p268
                          replace q268 := eq_true q268
                          go_wp2_with (first | ((with_reducible refine gate_callee (f := 11) rfl ?_); refine gL (some 55) rfl rfl Try.func11 (by kernel_rfl) rfl #[.agg #[.int .i64 ((rd_T24 l0 x7_2).f0), .int .i64 ((rd_T24 l0 x7_2).f1), .int .i64 ((rd_T24 l0 x7_2).f2), .slice A268_3 ((rd_T24 l0 x7_2).f3).length c268_3]] rfl ?_; (with_reducible refine (pentroughlaw23_ours.calls ((rd_T24 l0 x7_2).f0) ((rd_T24 l0 x7_2).f1) ((rd_T24 l0 x7_2).f2) (fun k_ => k_ < w.heap.size) _ _ ((rd_T24 l0 x7_2).f3) t269 t270 t271 t272 _ ?side1 A20.out).mono ?_); (case side1 => exact Kd.V_mk HC268_3.out (Kd.F_below (Kd.C_F (Kd.heap_int .u8) HR268_3.out) (bb HB))); rintro e w23 ⟨v273, rfl, ho0, hb⟩; refine ⟨_, rfl, ?_⟩; have HO274 := Aside0.mk (Kd.V_lower (Kd.V_mono (ok' := fun k_ => some k_ ≠ (u6 : Value).ownBlock) ho0 (fun k_ hk_ => Or.elim hk_ (fun hs_ => fun e_ => Nat.not_le.2 hs_ (Kd.R_base HO_6.out k_ e_.symm)) (fun hn_ => (Kd.fresh' (Kd.R_lt (by (with_reducible repeat (first | apply Kd.R_alloc | apply Kd.R_drewN | apply Kd.R_drew)); exact HO_6.out)) k_ hn_)))) (below_size (bb HB))); replace HO_6 := Aside0.mk (Kd.R_below (by (with_reducible repeat (first | apply Kd.R_alloc | apply Kd.R_drewN | apply Kd.R_drew)); exact HO_6.out) hb); replace HB := hB HB hb; (try clear hb); (try clear hb2); (try clear hk); (try clear hi); (try clear ho0); obtain ⟨Ao24, co24, eo24⟩ := Kd.V_slice HO274.out; subst eo24) | ((with_reducible refine gate_callee (f := 10) rfl ?_); refine gL (some 56) rfl rfl Try.func10 (by kernel_rfl) rfl #[.agg #[.int .i64 t269, .int .i64 t270, .int .i64 t271, .slice Ao24 t272.length co24]] rfl ?_; (with_reducible refine (script_Put.calls kj8 t269 t270 t271 _ _ t272 t275 _ ?side1 ?side2 A21.out).mono ?_); (case side1 => exact (Kd.V_reads' (vv HO274)).2.2); (case side2 => exact (Kd.V_reads' HO274.out).2.1); rintro e w25 ⟨v276, rfl, ho0, hb⟩; refine ⟨_, rfl, ?_⟩; replace HO274 := Aside0.mk (Kd.V_elder' (vv HO274) (Kd.R_base ho0) hb); have HO277 := Aside0.mk (Kd.R_lower (Kd.R_new' ho0 (Kd.R_lt (by (with_reducible repeat (first | apply Kd.R_alloc | apply Kd.R_drewN | apply Kd.R_drew)); exact HO_6.out))) (below_size (bb HB))); replace HO_6 := Aside0.mk (Kd.R_elder' (by (with_reducible repeat (first | apply Kd.R_alloc | apply Kd.R_drewN | apply Kd.R_drew)); exact HO_6.out) (Kd.R_base ho0) hb); replace HB := hB HB hb; (try clear hb); (try clear hb2); (try clear hk); (try clear hi); (try clear ho0); obtain ⟨Ao27, co27, eo27⟩ := Kd.R_slice HO277.out; subst eo27) | ((with_reducible refine gate_builtin (b := .append) (xs := #[.tmp 50, .tmp 56]) rfl ?_); (try (refine gate_guard (by rfl) ?_; dsimp only)); at_builtin; refine Kd.R_append_rows (Kd.int .u8) (w0 := w) w.heap.size rfl (.tmp 50) (.tmp 56) 22 5 (.int .u8 0) 1 rfl Try.underlying22 info5 rfl (by decide) (by omega) u6 x6_2 t275 _ _ _ (fun k_ => some k_ ≠ (.slice Ao27 t275.length co27 : Value).ownBlock) (fun _ => False) rfl rfl ?aO ?aR (fun _ _ h => h) (fun _ h => h.elim) ?aF ?aB ?aS ?aL ?_; (case aR => repeat (first | exact (Kd.R_reads' HO277.out).2.2 | (with_reducible refine Kd.C_alloc ?_ _) | (with_reducible refine Kd.C_drewN ?_ _) | (with_reducible refine Kd.C_drew ?_))); (case aB => exact (bb HB)); (case aF => exact (fun k_ hk => Kd.fresh' (Kd.R_lt (by (with_reducible repeat (first | apply Kd.R_alloc | apply Kd.R_drewN | apply Kd.R_drew)); exact HO277.out)) k_ hk)); (case aO => exact (by (with_reducible repeat (first | apply Kd.R_alloc | apply Kd.R_drewN | apply Kd.R_drew)); exact Kd.R_mono HO_6.out (fun _ hk => hk.2))); (case aS => exact (below_size (bb HB))); (case aL => have := LMc22.out; omega); intro v279 w26 ho hb hg hat; rw [← Ny278.out] at ho; replace HO274 := Aside0.mk (Kd.V_afterv (ok := (fun k_ => some k_ ≠ (.slice Ao27 t275.length co27 : Value).ownBlock)) (vM HO274) hg hat); replace HO277 := Aside0.mk (Kd.R_after (ok := (fun _ => True)) (by (with_reducible repeat (first | apply Kd.R_alloc | apply Kd.R_drewN | apply Kd.R_drew)); exact HO277.out) hg hat); replace HB := Aside0.mk (hb); have HO280 := Aside0.mk (ho); clear HO_6; clear ho hb hg hat))
                          go_roundg kj8
                          case measure => have := HJ3.out; have := HK2.out; have := HJ8.out; omega
                          case rel => exact ⟨(y278), (wrap64 (x7_2 + 1)), (by first | rfl | (simp; done) | (simp [*]; done)), H', ⟨by have := HJ3.out; have := HK2.out; have := HJ8.out; omega⟩, ⟨by (with_reducible repeat (first | apply Kd.R_alloc | apply Kd.R_drewN | apply Kd.R_drew)); exact Kd.R_mono HO280.out (fun _ hk => trivial)⟩, ⟨bb HB⟩⟩
                        · rw [if_neg c22] at H
                          exact absurd H (by simp)
                      · rw [if_neg c19] at H
                        exact absurd H (by simp)
                    · rw [if_neg c18] at H
                      exact absurd H (by simp)
            · rw [if_neg c8] at H
              have c8b0 : decide (x7_2 < (l0.length : Int)) = false := decide_eq_false c8
              clear c8
              by_cases c28 : x6_2.length + l1.length < 140737488355328
              · rw [if_pos c28] at H
                have LMc28 := Aside0.mk c28
                clear c28
                obtain ⟨y281, hy281⟩ : ∃ y_ : List Int, y_ = (x6_2 ++ l1) := ⟨_, rfl⟩
                replace H : ((script_All.f k2 y281).bind fun bt284 => ((script_All.f k2 l1).bind fun bt289 => (if (bt284.1.length : Int) = (wrap64 ((l0.length : Int) + (bt289.1.length : Int))) then (if bt284.2.1 = (wrap64 ((x6_2.length : Int) + bt289.2.1)) then (pentroughlaw23_ScriptRows.j3 k2 l0 t258 bt284.1 bt289.1 (bt284.2.2 != bt289.2.2)) else (pentroughlaw23_ScriptRows.j3 k2 l0 t258 bt284.1 bt289.1 true)) else (pentroughlaw23_ScriptRows.j3 k2 l0 t258 bt284.1 bt289.1 true)))) = some r := by first | (rw [hy281]; with_reducible exact H) | (have H2_ := (Option.bind_some _ _).symm.trans H; rw [hy281]; with_reducible exact H2_) | (have H2_ := (Option.bind_some _ _).symm.trans H; with_reducible exact H2_) | with_reducible exact H | (rw [hy281]; exact H) | exact H
                have Ny281 := Aside0.mk hy281
                clear hy281
                obtain ⟨⟨t284, t287, t288⟩, A29, H⟩ := ob H
                (try dsimp only at H)
                obtain ⟨⟨t289, t292, t293⟩, A30, H⟩ := ob H
                (try dsimp only at H)
                have HC31 := Aside0.mk H
                clear H
                obtain ⟨Ao32, co32, eo32⟩ := Kd.R_slice HO_6.out
                subst eo32
                go_upto_region 15 with (first | ((with_reducible refine gate_builtin (b := .append) (xs := #[.tmp 60, .tmp 61]) rfl ?_); (try (refine gate_guard (by rfl) ?_; dsimp only)); at_builtin; refine Kd.R_append_rows (Kd.int .u8) (w0 := w) w.heap.size rfl (.tmp 60) (.tmp 61) 22 5 (.int .u8 0) 1 rfl Try.underlying22 info5 rfl (by decide) (by omega) (.slice Ao32 x6_2.length co32) x6_2 l1 _ _ _ (fun _ => True) (fun _ => False) rfl rfl ?aO ?aR (fun _ _ h => h) (fun _ h => h.elim) ?aF ?aB ?aS ?aL ?_; (case aR => exact Kd.C_below HR1.out (bb HB)); (case aB => exact (bb HB)); (case aF => exact (fun _ _ => trivial)); (case aO => exact (by (with_reducible repeat (first | apply Kd.R_alloc | apply Kd.R_drewN | apply Kd.R_drew)); exact HO_6.out)); (case aS => exact (below_size (bb HB))); (case aL => have := LMc28.out; omega); intro v282 w33 ho hb hg hat; rw [← Ny281.out] at ho; replace HB := Aside0.mk (hb); have HO283 := Aside0.mk (ho); clear HO_6; clear ho hb hg hat; obtain ⟨Ao34, co34, eo34⟩ := Kd.R_slice HO283.out; subst eo34) | ((with_reducible refine gate_callee (f := 18) rfl ?_); refine gL (some 65) rfl rfl Try.func18 (by kernel_rfl) rfl #[.slice Ao34 y281.length co34] rfl ?_; (with_reducible refine (script_All.calls k2 (fun k_ => some k_ = (.slice Ao34 y281.length co34 : Value).ownBlock) _ _ y281 t284 t287 t288 _ ?side1 A29.out).mono ?_); (case side1 => exact Kd.R_V (Kd.R_tight rfl (HO283.out))); rintro e w35 ⟨v285, rfl, ho0, hb⟩; refine ⟨_, rfl, ?_⟩; replace HO283 := Aside0.mk (Kd.R_below (by (with_reducible repeat (first | apply Kd.R_alloc | apply Kd.R_drewN | apply Kd.R_drew)); exact HO283.out) hb); have HO286 := Aside0.mk (Kd.N_lower (Kd.N_mono (ok' := fun k_ => True) ho0 (fun k_ hk_ => trivial)) (below_size (bb HB))); replace HB := hB HB hb; (try clear hb); (try clear hb2); (try clear hk); (try clear hi); (try clear ho0)) | ((with_reducible refine gate_callee (f := 18) rfl ?_); refine gL (some 71) rfl rfl Try.func18 (by kernel_rfl) rfl #[.slice A1 l1.length c1] rfl ?_; (with_reducible refine (script_All.calls k2 (fun k_ => k_ < w.heap.size) _ _ l1 t289 t292 t293 _ ?side1 A30.out).mono ?_); (case side1 => exact Kd.V_mk HC1.out (Kd.F_below (Kd.C_F (Kd.heap_int .u8) HR1.out) (bb HB))); rintro e w36 ⟨v290, rfl, ho0, hb⟩; refine ⟨_, rfl, ?_⟩; have HO291 := Aside0.mk (Kd.N_lower (Kd.N_mono (ok' := fun k_ => some k_ ≠ (.slice Ao34 y281.length co34 : Value).ownBlock ∧ some k_ ≠ (v285 : Value).ownBlock) ho0 (fun k_ hk_ => ⟨Or.elim hk_ (fun hs_ => fun e_ => Nat.not_le.2 hs_ (Kd.R_base HO283.out k_ e_.symm)) (fun hn_ => (Kd.fresh' (Kd.R_lt (by (with_reducible repeat (first | apply Kd.R_alloc | apply Kd.R_drewN | apply Kd.R_drew)); exact HO283.out)) k_ hn_)), Or.elim hk_ (fun hs_ => fun e_ => Nat.not_le.2 hs_ (Kd.N_base HO286.out k_ e_.symm)) (fun hn_ => (Kd.fresh' (Kd.N_lt (by (with_reducible repeat (first | apply Kd.N_alloc | apply Kd.N_drewN | apply Kd.N_drew)); exact HO286.out)) k_ hn_))⟩)) (below_size (bb HB))); replace HO283 := Aside0.mk (Kd.R_below (by (with_reducible repeat (first | apply Kd.R_alloc | apply Kd.R_drewN | apply Kd.R_drew)); exact HO283.out) hb); replace HO286 := Aside0.mk (Kd.N_elder' (by (with_reducible repeat (first | apply Kd.N_alloc | apply Kd.N_drewN | apply Kd.N_drew)); exact HO286.out) (Kd.N_base ho0) hb); replace HB := hB HB hb; (try clear hb); (try clear hb2); (try clear hk); (try clear hi); (try clear ho0)))
                (try simp only [Act.put, List.setIfInBounds_toArray, List.set_cons_zero, List.set_cons_succ])
                go_cut [94] (fun v94 wc => ∃ (kq : Nat) (x94_30 : Bool), v94 = .bool x94_30 ∧ Aside0 (pentroughlaw23_ScriptRows.j3 kq l0 t258 t284 t289 x94_30 = some r) ∧ Aside0 (kq ≤ k2) ∧ Aside0 (Kd.N k27 27 wc w.heap.size (fun k_ => some k_ ≠ (v290 : Value).ownBlock) v285 t284) ∧ Aside0 (Kd.N k27 27 wc w.heap.size (fun k_ => some k_ ≠ (v285 : Value).ownBlock) v290 t289) ∧ Aside0 (Below w.heap.size w wc))
                case first =>
                  have H := HC31.out
                  clear HC31
                  by_cases c37 : (t284.length : Int) = (wrap64 ((l0.length : Int) + (t289.length : Int)))
                  · rw [if_pos c37] at H
                    have c37b0 : ((t284.length : Int) == (wrap64 ((l0.length : Int) + (t289.length : Int)))) = true := beq_iff_eq.mpr c37
                    have c37b1 : ((t284.length : Int) != (wrap64 ((l0.length : Int) + (t289.length : Int)))) = false := bne_eq_false_iff_eq.mpr c37
                    clear c37
                    (first | rw [c37b0] | (simp only [i64_w, i32_w]; rw [c37b0]) | skip)
                    by_cases c38 : t287 = (wrap64 ((x6_2.length : Int) + t292))
                    · rw [if_pos c38] at H
                      have c38b0 : (t287 == (wrap64 ((x6_2.length : Int) + t292))) = true := beq_iff_eq.mpr c38
                      have c38b1 : (t287 != (wrap64 ((x6_2.length : Int) + t292))) = false := bne_eq_false_iff_eq.mpr c38
                      clear c38
                      have H' := Aside0.mk H
                      clear H
                      obtain ⟨Ao39, co39, eo39⟩ := Kd.N_slice HO286.out
                      subst eo39
                      obtain ⟨Ao40, co40, eo40⟩ := Kd.N_slice HO291.out
                      subst eo40
                      go_wp2
                      go_meet
                      case rel => exact ⟨_, ((t288 != t293)), (by first | rfl | (simp; done) | (simp [*]; done)), H', ⟨by have := HJ3.out; have := HK2.out; first | omega | exact Nat.le_refl _⟩, ⟨by (with_reducible repeat (first | apply Kd.N_alloc | apply Kd.N_drewN | apply Kd.N_drew)); exact Kd.N_mono HO286.out (fun _ hk => hk.2)⟩, ⟨by (with_reducible repeat (first | apply Kd.N_alloc | apply Kd.N_drewN | apply Kd.N_drew)); exact Kd.N_mono HO291.out (fun _ hk => hk.2)⟩, ⟨bb HB⟩⟩
                    · rw [if_neg c38] at H
                      have c38b0 : (t287 == (wrap64 ((x6_2.length : Int) + t292))) = false := beq_eq_false_iff_ne.mpr c38
                      have c38b1 : (t287 != (wrap64 ((x6_2.length : Int) + t292))) = true := bne_iff_ne.mpr c38
                      have H' := Aside0.mk H
                      clear H
                      obtain ⟨Ao41, co41, eo41⟩ := Kd.N_slice HO286.out
                      subst eo41
                      obtain ⟨Ao42, co42, eo42⟩ := Kd.N_slice HO291.out
                      subst eo42
                      go_wp2
                      go_meet
                      case rel => exact ⟨_, (true), (by first | rfl | (simp; done) | (simp [*]; done)), H', ⟨by have := HJ3.out; have := HK2.out; first | omega | exact Nat.le_refl _⟩, ⟨by (with_reducible repeat (first | apply Kd.N_alloc | apply Kd.N_drewN | apply Kd.N_drew)); exact Kd.N_mono HO286.out (fun _ hk => hk.2)⟩, ⟨by (with_reducible repeat (first | apply Kd.N_alloc | apply Kd.N_drewN | apply Kd.N_drew)); exact Kd.N_mono HO291.out (fun _ hk => hk.2)⟩, ⟨bb HB⟩⟩
                  · rw [if_neg c37] at H
                    have c37b0 : ((t284.length : Int) == (wrap64 ((l0.length : Int) + (t289.length : Int)))) = false := beq_eq_false_iff_ne.mpr c37
                    have c37b1 : ((t284.length : Int) != (wrap64 ((l0.length : Int) + (t289.length : Int)))) = true := bne_iff_ne.mpr c37
                    (first | rw [c37b0] | (simp only [i64_w, i32_w]; rw [c37b0]) | skip)
                    have H' := Aside0.mk H
                    clear H
                    obtain ⟨Ao43, co43, eo43⟩ := Kd.N_slice HO286.out
                    subst eo43
                    obtain ⟨Ao44, co44, eo44⟩ := Kd.N_slice HO291.out
                    subst eo44
                    go_wp2
                    go_meet
                    case rel => exact ⟨_, (true), (by first | rfl | (simp; done) | (simp [*]; done)), H', ⟨by have := HJ3.out; have := HK2.out; first | omega | exact Nat.le_refl _⟩, ⟨by (with_reducible repeat (first | apply Kd.N_alloc | apply Kd.N_drewN | apply Kd.N_drew)); exact Kd.N_mono HO286.out (fun _ hk => hk.2)⟩, ⟨by (with_reducible repeat (first | apply Kd.N_alloc | apply Kd.N_drewN | apply Kd.N_drew)); exact Kd.N_mono HO291.out (fun _ hk => hk.2)⟩, ⟨bb HB⟩⟩
                case rest =>
                  clear HC31
                  try clear c1
                  try clear c2
                  try clear p2
                  try clear q2
                  try clear hx2
                  try clear c3
                  try clear c6
                  try clear c6b0
                  try clear c6b1
                  try clear p6
                  try clear c7
                  try clear c8
                  try clear c8b0
                  try clear c9
                  try clear c10
                  try clear c10b0
                  try clear c11
                  try clear c11b0
                  try clear c11b1
                  try clear c17
                  try clear c18
                  try clear c18b0
                  try clear c19
                  try clear c19b0
                  try clear c22
                  try clear c25
                  try clear p25
                  try clear q25
                  try clear hx25
                  try clear c26
                  try clear p26
                  try clear q26
                  try clear hx26
                  try clear c28
                  try clear c37
                  try clear c37b0
                  try clear c37b1
                  try clear c38
                  try clear c38b0
                  try clear c38b1
                  try clear hx259_0
                  try clear hx259_1
                  try clear hx259_2
                  try clear hx259_3
                  try clear hx260_0
                  try clear hx260_1
                  try clear hx260_2
                  try clear hx260_3
                  try clear hx268_0
                  try clear hx268_1
                  try clear hx268_2
                  try clear hx268_3
                  try clear p2
                  try clear p259
                  try clear p260
                  try clear p268
                  try clear q2
                  try clear q259
                  try clear q260
                  try clear q268
                  obtain ⟨kq, x94_30, rfl, HA, HJ30, HO_9, HO_12, HB⟩ := hcut
                  cases kq with
                  | zero => exact absurd HA.out (by simp [pentroughlaw23_ScriptRows.j3])
                  | succ kj30 =>
                    have H := HA.out
                    clear HA
                    simp only [pentroughlaw23_ScriptRows.j3] at H
                    by_cases c45 : x94_30 = true
                    · subst c45
                      rw [if_pos rfl] at H
                      cases H; exact absurd HRT.out (by decide)
                    · replace c45 := Bool.eq_false_iff.mpr c45
                      subst c45
                      rw [if_neg nf] at H
                      have H' := Aside0.mk H
                      clear H
                      go_wp2
                      go_loopg [15] kj30 (fun kq v15 w' => ∃ (x15_4 : Int), v15 = .int .i64 x15_4 ∧ Aside0 (pentroughlaw23_ScriptRows.l1 kq l0 t258 t284 t289 x15_4 = some r) ∧ Aside0 (kq ≤ kj30) ∧ Aside0 (Kd.N k27 27 w' w.heap.size (fun k_ => some k_ ≠ (v290 : Value).ownBlock) v285 t284) ∧ Aside0 (Kd.N k27 27 w' w.heap.size (fun k_ => some k_ ≠ (v285 : Value).ownBlock) v290 t289) ∧ Aside0 (Below w.heap.size w w'))
                      case atStart => exact ⟨(0), (by first | rfl | (simp; done) | (simp [*]; done)), H', ⟨Nat.le_refl _⟩, ⟨by (with_reducible repeat (first | apply Kd.N_alloc | apply Kd.N_drewN | apply Kd.N_drew)); exact HO_9.out⟩, ⟨by (with_reducible repeat (first | apply Kd.N_alloc | apply Kd.N_drewN | apply Kd.N_drew)); exact HO_12.out⟩, ⟨bb HB⟩⟩
                      case round =>
                        clear H'
                        try clear c1
                        try clear c2
                        try clear p2
                        try clear q2
                        try clear hx2
                        try clear c3
                        try clear c4
                        try clear c6
                        try clear c6b0
                        try clear c6b1
                        try clear p6
                        try clear c7
                        try clear c8
                        try clear c8b0
                        try clear c9
                        try clear c10
                        try clear c10b0
                        try clear c11
                        try clear c11b0
                        try clear c11b1
                        try clear c17
                        try clear c18
                        try clear c18b0
                        try clear c19
                        try clear c19b0
                        try clear c22
                        try clear c25
                        try clear p25
                        try clear q25
                        try clear hx25
                        try clear c26
                        try clear p26
                        try clear q26
                        try clear hx26
                        try clear c28
                        try clear c37
                        try clear c37b0
                        try clear c37b1
                        try clear c38
                        try clear c38b0
                        try clear c38b1
                        try clear c45
                        try clear hx259_0
                        try clear hx259_1
                        try clear hx259_2
                        try clear hx259_3
                        try clear hx260_0
                        try clear hx260_1
                        try clear hx260_2
                        try clear hx260_3
                        try clear hx268_0
                        try clear hx268_1
                        try clear hx268_2
                        try clear hx268_3
                        try clear p2
                        try clear p25
                        try clear p259
                        try clear p26
                        try clear p260
                        try clear p268
                        try clear p6
                        try clear q2
                        try clear q25
                        try clear q259
                        try clear q26
                        try clear q260
                        try clear q268
                        obtain ⟨x15_4, rfl, HA, HK4, HO_9, HO_12, HB⟩ := hrel
                        cases gk with
                        | zero => exact absurd HA.out (by simp [pentroughlaw23_ScriptRows.l1])
                        | succ k4 =>
                          have H := HA.out
                          clear HA
                          simp only [pentroughlaw23_ScriptRows.l1] at H
                          by_cases c46 : x15_4 < (t284.length : Int)
                          · rw [if_pos c46] at H
                            have c46b0 : decide (x15_4 < (t284.length : Int)) = true := decide_eq_true c46
                            clear c46
                            by_cases c47 : x15_4 < (l0.length : Int)
                            · rw [if_pos c47] at H
                              have c47b0 : decide (x15_4 < (l0.length : Int)) = true := decide_eq_true c47
                              clear c47
                              by_cases c48 : 0 ≤ x15_4
                              · rw [if_pos c48] at H
                                have c48b0 : decide (0 ≤ x15_4) = true := decide_eq_true c48
                                clear c48
                                obtain ⟨⟨t297, t298, t299, t300⟩, A49, H⟩ := ob H
                                (try dsimp only at H)
                                obtain ⟨t303, A50, H⟩ := ob H
                                by_cases c51 : t303 = true
                                · subst c51
                                  rw [if_pos rfl] at H
                                  have H' := Aside0.mk H
                                  clear H
                                  obtain ⟨Ao52, co52, eo52⟩ := Kd.N_slice HO_9.out
                                  subst eo52
                                  try go_wp2_with (first | ((with_reducible refine gate_dst (N := 16) rfl ?_); (try (refine gate_guard (by rfl) ?_; dsimp only)); refine box_event ?hg (N := 16) ?hd (cs := #[.int .i64 0, .int .i64 0, .int .i64 0, .slice none 0 0]) (t := 24) ?hr ?_; (case hd => rfl); (case hg => rfl); (case hr => first | (go_simp; done) | (go_simp; rfl)); intro gb294 hg w53 hbox hb; replace HO_9 := Aside0.mk (Kd.N_below (Kd.N_elderB (by (with_reducible repeat (first | apply Kd.N_alloc | apply Kd.N_drewN | apply Kd.N_drew)); exact HO_9.out) gb294 (Nat.le_of_eq hg.symm)) hb); replace HO_12 := Aside0.mk (Kd.N_below (Kd.N_elderB (by (with_reducible repeat (first | apply Kd.N_alloc | apply Kd.N_drewN | apply Kd.N_drew)); exact HO_12.out) gb294 (Nat.le_of_eq hg.symm)) hb); have BK294 := Aside0.mk hbox; have GW294 := gE HB hg; have GE294 := gE HB hg; replace HB := hB HB hb; clear hb hbox hg; obtain ⟨hcz54_0, hcz54_1, hcz54_2, hcz54_3, hfz54_0, hfz54_1, hfz54_2, hfz54_3⟩ := bc4 BK294; have p295 : 0 ≤ (x15_4 : Int) := of_decide_eq_true (by first | (with_reducible assumption) | assumption); have q295 : x15_4 < (l0.length : Int) := of_decide_eq_true (by first | (with_reducible assumption) | assumption); obtain ⟨ad295, A295_3, c295_3, e295, hx295_0, hx295_1, hx295_2, hx295_3, hl295_3, hi295_3⟩ := at_T24 HR0.out x15_4 p295 q295; cases e295; have hn295_0 : ad295.block ≠ gb294 := Nat.ne_of_lt (Nat.lt_of_lt_of_le (by have := World.block_lt_of_cell? _ _ hx295_0; first | rwa [add_block] at this | exact this) GW294.out); have hn295_1 : ad295.block ≠ gb294 := Nat.ne_of_lt (Nat.lt_of_lt_of_le (by have := World.block_lt_of_cell? _ _ hx295_0; first | rwa [add_block] at this | exact this) GW294.out); have hn295_2 : ad295.block ≠ gb294 := Nat.ne_of_lt (Nat.lt_of_lt_of_le (by have := World.block_lt_of_cell? _ _ hx295_0; first | rwa [add_block] at this | exact this) GW294.out); have hn295_3 : ad295.block ≠ gb294 := Nat.ne_of_lt (Nat.lt_of_lt_of_le (by have := World.block_lt_of_cell? _ _ hx295_0; first | rwa [add_block] at this | exact this) GW294.out); replace hx295_0 := (HB.out.cell (World.block_lt_of_cell? w _ hx295_0)).trans hx295_0; replace hx295_1 := (HB.out.cell (World.block_lt_of_cell? w _ hx295_1)).trans hx295_1; replace hx295_2 := (HB.out.cell (World.block_lt_of_cell? w _ hx295_2)).trans hx295_2; replace hx295_3 := (HB.out.cell (World.block_lt_of_cell? w _ hx295_3)).trans hx295_3; have HR295_3 := Aside0.mk hi295_3; have HC295_3 := Aside0.mk hl295_3; clear hi295_3 hl295_3; replace hx295_0 := (cell_far (p := ⟨gb294, 0, none⟩) (by first | (rw [add_block]; exact hn295_0) | (show (Addr.add _ _).block ≠ _; rw [add_block]; exact hn295_0) | exact hn295_0) (.int .i64 0)).trans hx295_0; replace hx295_1 := (cell_far (p := ⟨gb294, 0, none⟩) (by first | (rw [add_block]; exact hn295_0) | (show (Addr.add _ _).block ≠ _; rw [add_block]; exact hn295_0) | exact hn295_0) (.int .i64 0)).trans hx295_1; replace hx295_2 := (cell_far (p := ⟨gb294, 0, none⟩) (by first | (rw [add_block]; exact hn295_0) | (show (Addr.add _ _).block ≠ _; rw [add_block]; exact hn295_0) | exact hn295_0) (.int .i64 0)).trans hx295_2; replace hx295_3 := (cell_far (p := ⟨gb294, 0, none⟩) (by first | (rw [add_block]; exact hn295_0) | (show (Addr.add _ _).block ≠ _; rw [add_block]; exact hn295_0) | exact hn295_0) (.int .i64 0)).trans hx295_3; replace hx295_0 := (cell_far (p := ⟨gb294, 1, none⟩) (by first | (rw [add_block]; exact hn295_1) | (show (Addr.add _ _).block ≠ _; rw [add_block]; exact hn295_1) | exact hn295_1) (.int .i64 0)).trans hx295_0; replace hx295_1 := (cell_far (p := ⟨gb294, 1, none⟩) (by first | (rw [add_block]; exact hn295_1) | (show (Addr.add _ _).block ≠ _; rw [add_block]; exact hn295_1) | exact hn295_1) (.int .i64 0)).trans hx295_1; replace hx295_2 := (cell_far (p := ⟨gb294, 1, none⟩) (by first | (rw [add_block]; exact hn295_1) | (show (Addr.add _ _).block ≠ _; rw [add_block]; exact hn295_1) | exact hn295_1) (.int .i64 0)).trans hx295_2; replace hx295_3 := (cell_far (p := ⟨gb294, 1, none⟩) (by first | (rw [add_block]; exact hn295_1) | (show (Addr.add _ _).block ≠ _; rw [add_block]; exact hn295_1) | exact hn295_1) (.int .i64 0)).trans hx295_3; replace hx295_0 := (cell_far (p := ⟨gb294, 2, none⟩) (by first | (rw [add_block]; exact hn295_2) | (show (Addr.add _ _).block ≠ _; rw [add_block]; exact hn295_2) | exact hn295_2) (.int .i64 0)).trans hx295_0; replace hx295_1 := (cell_far (p := ⟨gb294, 2, none⟩) (by first | (rw [add_block]; exact hn295_2) | (show (Addr.add _ _).block ≠ _; rw [add_block]; exact hn295_2) | exact hn295_2) (.int .i64 0)).trans hx295_1; replace hx295_2 := (cell_far (p := ⟨gb294, 2, none⟩) (by first | (rw [add_block]; exact hn295_2) | (show (Addr.add _ _).block ≠ _; rw [add_block]; exact hn295_2) | exact hn295_2) (.int .i64 0)).trans hx295_2; replace hx295_3 := (cell_far (p := ⟨gb294, 2, none⟩) (by first | (rw [add_block]; exact hn295_2) | (show (Addr.add _ _).block ≠ _; rw [add_block]; exact hn295_2) | exact hn295_2) (.int .i64 0)).trans hx295_3; replace hx295_0 := (cell_far (p := ⟨gb294, 3, none⟩) (by first | (rw [add_block]; exact hn295_3) | (show (Addr.add _ _).block ≠ _; rw [add_block]; exact hn295_3) | exact hn295_3) (.slice none 0 0)).trans hx295_0; replace hx295_1 := (cell_far (p := ⟨gb294, 3, none⟩) (by first | (rw [add_block]; exact hn295_3) | (show (Addr.add _ _).block ≠ _; rw [add_block]; exact hn295_3) | exact hn295_3) (.slice none 0 0)).trans hx295_1; replace hx295_2 := (cell_far (p := ⟨gb294, 3, none⟩) (by first | (rw [add_block]; exact hn295_3) | (show (Addr.add _ _).block ≠ _; rw [add_block]; exact hn295_3) | exact hn295_3) (.slice none 0 0)).trans hx295_2; replace hx295_3 := (cell_far (p := ⟨gb294, 3, none⟩) (by first | (rw [add_block]; exact hn295_3) | (show (Addr.add _ _).block ≠ _; rw [add_block]; exact hn295_3) | exact hn295_3) (.slice none 0 0)).trans hx295_3; clear hn295_0; clear hn295_1; clear hn295_2; clear hn295_3; replace p295 := eq_true p295; replace q295 := eq_true q295))
                                  have n0_ : Aside0 (Kd.N k27 27 ((((((((w53.setCell ⟨gb294, 0, none⟩ (.int .i64 0)).setCell ⟨gb294, 1, none⟩ (.int .i64 0)).setCell ⟨gb294, 2, none⟩ (.int .i64 0)).setCell ⟨gb294, 3, none⟩ (.slice none 0 0)).setCell ⟨gb294, 0, none⟩ (.int .i64 ((rd_T24 l0 x15_4).f0))).setCell ⟨gb294, 1, none⟩ (.int .i64 ((rd_T24 l0 x15_4).f1))).setCell ⟨gb294, 2, none⟩ (.int .i64 ((rd_T24 l0 x15_4).f2))).setCell ⟨gb294, 3, none⟩ (.slice A295_3 ((rd_T24 l0 x15_4).f3).length c295_3)) w.heap.size (fun k_ => some k_ ≠ (v290 : Value).ownBlock ∧ k_ ≠ gb294) (.slice Ao52 t284.length co52) t284) := ⟨by (with_reducible repeat (first | apply Kd.N_alloc | apply Kd.N_drewN | apply Kd.N_drew)); exact Kd.N_mono (Kd.N_far (p := ⟨gb294, 3, none⟩) (Kd.N_far (p := ⟨gb294, 2, none⟩) (Kd.N_far (p := ⟨gb294, 1, none⟩) (Kd.N_far (p := ⟨gb294, 0, none⟩) (Kd.N_far (p := ⟨gb294, 3, none⟩) (Kd.N_far (p := ⟨gb294, 2, none⟩) (Kd.N_far (p := ⟨gb294, 1, none⟩) (Kd.N_far (p := ⟨gb294, 0, none⟩) (Kd.N_mono HO_9.out (fun k_ hk => (⟨hk, hk.2⟩ : _ ∧ k_ ≠ gb294))) (fun _ hk => hk.2) (.int .i64 0)) (fun _ hk => hk.2) (.int .i64 0)) (fun _ hk => hk.2) (.int .i64 0)) (fun _ hk => hk.2) (.slice none 0 0)) (fun _ hk => hk.2) (.int .i64 ((rd_T24 l0 x15_4).f0))) (fun _ hk => hk.2) (.int .i64 ((rd_T24 l0 x15_4).f1))) (fun _ hk => hk.2) (.int .i64 ((rd_T24 l0 x15_4).f2))) (fun _ hk => hk.2) (.slice A295_3 ((rd_T24 l0 x15_4).f3).length c295_3)) (fun _ hk => ⟨hk.1.1, hk.1.2⟩)⟩
                                  have n1_ : Aside0 (Kd.N k27 27 ((((((((w53.setCell ⟨gb294, 0, none⟩ (.int .i64 0)).setCell ⟨gb294, 1, none⟩ (.int .i64 0)).setCell ⟨gb294, 2, none⟩ (.int .i64 0)).setCell ⟨gb294, 3, none⟩ (.slice none 0 0)).setCell ⟨gb294, 0, none⟩ (.int .i64 ((rd_T24 l0 x15_4).f0))).setCell ⟨gb294, 1, none⟩ (.int .i64 ((rd_T24 l0 x15_4).f1))).setCell ⟨gb294, 2, none⟩ (.int .i64 ((rd_T24 l0 x15_4).f2))).setCell ⟨gb294, 3, none⟩ (.slice A295_3 ((rd_T24 l0 x15_4).f3).length c295_3)) w.heap.size (fun k_ => some k_ ≠ (.slice Ao52 t284.length co52 : Value).ownBlock ∧ k_ ≠ gb294) v290 t289) := ⟨by (with_reducible repeat (first | apply Kd.N_alloc | apply Kd.N_drewN | apply Kd.N_drew)); exact Kd.N_mono (Kd.N_far (p := ⟨gb294, 3, none⟩) (Kd.N_far (p := ⟨gb294, 2, none⟩) (Kd.N_far (p := ⟨gb294, 1, none⟩) (Kd.N_far (p := ⟨gb294, 0, none⟩) (Kd.N_far (p := ⟨gb294, 3, none⟩) (Kd.N_far (p := ⟨gb294, 2, none⟩) (Kd.N_far (p := ⟨gb294, 1, none⟩) (Kd.N_far (p := ⟨gb294, 0, none⟩) (Kd.N_mono HO_12.out (fun k_ hk => (⟨hk, hk.2⟩ : _ ∧ k_ ≠ gb294))) (fun _ hk => hk.2) (.int .i64 0)) (fun _ hk => hk.2) (.int .i64 0)) (fun _ hk => hk.2) (.int .i64 0)) (fun _ hk => hk.2) (.slice none 0 0)) (fun _ hk => hk.2) (.int .i64 ((rd_T24 l0 x15_4).f0))) (fun _ hk => hk.2) (.int .i64 ((rd_T24 l0 x15_4).f1))) (fun _ hk => hk.2) (.int .i64 ((rd_T24 l0 x15_4).f2))) (fun _ hk => hk.2) (.slice A295_3 ((rd_T24 l0 x15_4).f3).length c295_3)) (fun _ hk => ⟨hk.1.1, hk.1.2⟩)⟩
                                  have n2_ : Aside0 (((((((((w53.setCell ⟨gb294, 0, none⟩ (.int .i64 0)).setCell ⟨gb294, 1, none⟩ (.int .i64 0)).setCell ⟨gb294, 2, none⟩ (.int .i64 0)).setCell ⟨gb294, 3, none⟩ (.slice none 0 0)).setCell ⟨gb294, 0, none⟩ (.int .i64 ((rd_T24 l0 x15_4).f0))).setCell ⟨gb294, 1, none⟩ (.int .i64 ((rd_T24 l0 x15_4).f1))).setCell ⟨gb294, 2, none⟩ (.int .i64 ((rd_T24 l0 x15_4).f2))).setCell ⟨gb294, 3, none⟩ (.slice A295_3 ((rd_T24 l0 x15_4).f3).length c295_3)).heap[gb294]? = some (.cells #[.int .i64 ((rd_T24 l0 x15_4).f0), .int .i64 ((rd_T24 l0 x15_4).f1), .int .i64 ((rd_T24 l0 x15_4).f2), .slice A295_3 ((rd_T24 l0 x15_4).f3).length c295_3] 24 (0, 0))) := ⟨by (with_reducible repeat (first | refine blk_drewN ?_ _ | refine blk_drew ?_ | refine blk_alloc ?_ _)); refine blk_put (cs := #[.int .i64 ((rd_T24 l0 x15_4).f0), .int .i64 ((rd_T24 l0 x15_4).f1), .int .i64 ((rd_T24 l0 x15_4).f2), .slice none 0 0]) ?_ 3 _ rfl; (with_reducible repeat (first | refine blk_drewN ?_ _ | refine blk_drew ?_ | refine blk_alloc ?_ _)); refine blk_put (cs := #[.int .i64 ((rd_T24 l0 x15_4).f0), .int .i64 ((rd_T24 l0 x15_4).f1), .int .i64 0, .slice none 0 0]) ?_ 2 _ rfl; (with_reducible repeat (first | refine blk_drewN ?_ _ | refine blk_drew ?_ | refine blk_alloc ?_ _)); refine blk_put (cs := #[.int .i64 ((rd_T24 l0 x15_4).f0), .int .i64 0, .int .i64 0, .slice none 0 0]) ?_ 1 _ rfl; (with_reducible repeat (first | refine blk_drewN ?_ _ | refine blk_drew ?_ | refine blk_alloc ?_ _)); refine blk_put (cs := #[.int .i64 0, .int .i64 0, .int .i64 0, .slice none 0 0]) ?_ 0 _ rfl; (with_reducible repeat (first | refine blk_drewN ?_ _ | refine blk_drew ?_ | refine blk_alloc ?_ _)); refine blk_put (cs := #[.int .i64 0, .int .i64 0, .int .i64 0, .slice none 0 0]) ?_ 3 _ rfl; (with_reducible repeat (first | refine blk_drewN ?_ _ | refine blk_drew ?_ | refine blk_alloc ?_ _)); refine blk_put (cs := #[.int .i64 0, .int .i64 0, .int .i64 0, .slice none 0 0]) ?_ 2 _ rfl; (with_reducible repeat (first | refine blk_drewN ?_ _ | refine blk_drew ?_ | refine blk_alloc ?_ _)); refine blk_put (cs := #[.int .i64 0, .int .i64 0, .int .i64 0, .slice none 0 0]) ?_ 1 _ rfl; (with_reducible repeat (first | refine blk_drewN ?_ _ | refine blk_drew ?_ | refine blk_alloc ?_ _)); refine blk_put (cs := #[.int .i64 0, .int .i64 0, .int .i64 0, .slice none 0 0]) ?_ 0 _ rfl; (with_reducible repeat (first | refine blk_drewN ?_ _ | refine blk_drew ?_ | refine blk_alloc ?_ _)); exact BK294.out⟩
                                  have n3_ : Aside0 (Below w.heap.size w ((((((((w53.setCell ⟨gb294, 0, none⟩ (.int .i64 0)).setCell ⟨gb294, 1, none⟩ (.int .i64 0)).setCell ⟨gb294, 2, none⟩ (.int .i64 0)).setCell ⟨gb294, 3, none⟩ (.slice none 0 0)).setCell ⟨gb294, 0, none⟩ (.int .i64 ((rd_T24 l0 x15_4).f0))).setCell ⟨gb294, 1, none⟩ (.int .i64 ((rd_T24 l0 x15_4).f1))).setCell ⟨gb294, 2, none⟩ (.int .i64 ((rd_T24 l0 x15_4).f2))).setCell ⟨gb294, 3, none⟩ (.slice A295_3 ((rd_T24 l0 x15_4).f3).length c295_3))) := ⟨bb HB⟩
                                  (try clear HO_9)
                                  (try clear HO_12)
                                  (try clear BK294)
                                  (try clear HB)
                                  generalize ((((((((w53.setCell ⟨gb294, 0, none⟩ (.int .i64 0)).setCell ⟨gb294, 1, none⟩ (.int .i64 0)).setCell ⟨gb294, 2, none⟩ (.int .i64 0)).setCell ⟨gb294, 3, none⟩ (.slice none 0 0)).setCell ⟨gb294, 0, none⟩ (.int .i64 ((rd_T24 l0 x15_4).f0))).setCell ⟨gb294, 1, none⟩ (.int .i64 ((rd_T24 l0 x15_4).f1))).setCell ⟨gb294, 2, none⟩ (.int .i64 ((rd_T24 l0 x15_4).f2))).setCell ⟨gb294, 3, none⟩ (.slice A295_3 ((rd_T24 l0 x15_4).f3).length c295_3)) = w55 at n0_ n1_ n2_ n3_ ⊢
                                  have HO_9 := n0_
                                  have HO_12 := n1_
                                  have BK294 := n2_
                                  have HB := n3_
                                  clear n0_ n1_ n2_ n3_
                                  replace HO_9 := Aside0.mk (Kd.N_drew HO_9.out)
                                  replace HO_12 := Aside0.mk (Kd.N_drew HO_12.out)
                                  replace BK294 := Aside0.mk (blk_drew BK294.out)
                                  replace HB := Aside0.mk (below_drew1 HB.out)
                                  have p296 : 0 ≤ (x15_4 : Int) := of_decide_eq_true (by first | (with_reducible assumption) | assumption)
                                  have q296 : x15_4 < (t284.length : Int) := of_decide_eq_true (by first | (with_reducible assumption) | assumption)
                                  obtain ⟨ad296, A296_3, c296_3, e296, hx296_0, hx296_1, hx296_2, hx296_3, hl296_3, hi296_3⟩ := at_T27 (Kd.N_reads' HO_9.out).2.2 x15_4 p296 q296
                                  cases e296
                                  obtain ⟨ce296, hce296, hMe296, hcc296⟩ := Kd.N_get HO_9.out z27 x15_4 p296 (by first | exact q296 | exact of_decide_eq_true (by first | (with_reducible assumption) | assumption) | (have e_ := (Kd.N_reads' HO_9.out).1; omega))
                                  obtain ⟨ua296_3, uc296_3, rfl, ul296_3, ge296_3⟩ := k27_openF hMe296
                                  have hv296_3 := hcc296 3 _ rfl
                                  rw [add_field _ _ 3 (by omega)] at hv296_3
                                  replace hv296_3 := Option.some.inj (hv296_3.symm.trans hx296_3)
                                  injection hv296_3 with hva_ hvn_ hvc_
                                  rw [hva_] at ge296_3
                                  rw [hvc_] at ul296_3
                                  have HL296_3 := Aside0.mk (show Kd.V (Kd.int .u8) 5 _ w.heap.size _ _ ((rd_T27 t284 x15_4).f3) from Kd.V_mk ul296_3 ge296_3)
                                  clear hva_ hvn_ hvc_ ge296_3 ul296_3
                                  clear hcc296 hce296
                                  have HR296_3 := Aside0.mk hi296_3
                                  have HC296_3 := Aside0.mk hl296_3
                                  clear hi296_3 hl296_3
                                  replace p296 := eq_true p296
                                  replace q296 := eq_true q296
                                  refine start_ (n := 8) (S := fun w' => w'.cell? ⟨gb294, 0, none⟩ = some (.int .i64 ((rd_T24 l0 x15_4).f0)) ∧ w'.cell? ⟨gb294, 1, none⟩ = some (.int .i64 ((rd_T24 l0 x15_4).f1)) ∧ w'.cell? ⟨gb294, 2, none⟩ = some (.int .i64 ((rd_T24 l0 x15_4).f2)) ∧ w'.cell? ⟨gb294, 3, none⟩ = some (.slice A295_3 ((rd_T24 l0 x15_4).f3).length c295_3) ∧ w'.cell? (ad296.add ((x15_4).toNat * 4)) = some (.int .i64 ((rd_T27 t284 x15_4).f0)) ∧ w'.cell? ⟨(ad296.add ((x15_4).toNat * 4)).block, (ad296.add ((x15_4).toNat * 4)).off + 1, none⟩ = some (.int .i64 ((rd_T27 t284 x15_4).f1)) ∧ w'.cell? ⟨(ad296.add ((x15_4).toNat * 4)).block, (ad296.add ((x15_4).toNat * 4)).off + 2, none⟩ = some (.int .i64 ((rd_T27 t284 x15_4).f2)) ∧ w'.cell? ⟨(ad296.add ((x15_4).toNat * 4)).block, (ad296.add ((x15_4).toNat * 4)).off + 3, none⟩ = some (.slice A296_3 ((rd_T27 t284 x15_4).f3).length c296_3)) (ds := []) #[false, false, false, false, false, false, false, false] (by kernel_rfl) rfl rfl ⟨cx BK294 0, cx BK294 1, cx BK294 2, cx BK294 3, hx296_0, hx296_1, hx296_2, hx296_3⟩ (fun hHeld => ?_); refine with_tabW pentroughlaw23_ScriptRows.tab24 pentroughlaw23_ScriptRows.bits24 (fun HT_ HW_ => ?_)
                                  generalize w55.drew = w56 at HO_9 HO_12 BK294 HB HL296_3 HR296_3 hx296_0 hx296_1 hx296_2 hx296_3 hHeld ⊢
                                  refine pure_ (i := 0) (N := some 118) (v := ?_) (a' := ?_) #[true, false, false, false, false, false, false, false] rfl rfl (any_of HT_.out (by kernel_rfl)) (fun _ _ _ h => h) (Or.inl ⟨by rfl, ?_⟩) ?_ ?_
                                  rotate_left
                                  · intro w'
                                    go_simp
                                    with_reducible rfl
                                  rotate_left
                                  · simp only [Act.put, List.setIfInBounds_toArray, List.set_cons_zero, List.set_cons_succ, i64_w, i32_w]
                                    rfl
                                  refine pure_ (i := 1) (N := some 119) (v := ?_) (a' := ?_) #[true, true, false, false, false, false, false, false] rfl rfl (any_of HT_.out (by kernel_rfl)) (fun _ _ _ h => h) (Or.inl ⟨by rfl, ?_⟩) ?_ ?_
                                  rotate_left
                                  · intro w'
                                    go_simp
                                    with_reducible rfl
                                  rotate_left
                                  · simp only [Act.put, List.setIfInBounds_toArray, List.set_cons_zero, List.set_cons_succ, i64_w, i32_w]
                                    rfl
                                  refine pure_ (i := 2) (N := some 120) (v := ?_) (a' := ?_) #[true, true, true, false, false, false, false, false] rfl rfl (any_of HT_.out (by kernel_rfl)) (fun _ _ _ h => h) (Or.inl ⟨by rfl, ?_⟩) ?_ ?_
                                  rotate_left
                                  · intro w'
                                    go_simp
                                    with_reducible rfl
                                  rotate_left
                                  · simp only [Act.put, List.setIfInBounds_toArray, List.set_cons_zero, List.set_cons_succ, i64_w, i32_w]
                                    rfl
                                  refine take_ (i := 3) (N := some 121) (v := ?_) (a' := ?_) #[true, true, true, true, false, false, false, false] rfl rfl (take_ofW HT_.out HW_.out (by kernel_rfl)) (fun _ _ _ h => h) (Or.inl ⟨by rfl, ?_⟩) hHeld ?_ ?_
                                  rotate_left
                                  · rintro w' ⟨s0, s1, s2, s3, s4, s5, s6, s7⟩
                                    go_simp
                                    with_reducible rfl
                                  rotate_left
                                  · simp only [Act.put, List.setIfInBounds_toArray, List.set_cons_zero, List.set_cons_succ, i64_w, i32_w]
                                    rfl
                                  refine take_ (i := 5) (N := some 123) (v := ?_) (a' := ?_) #[true, true, true, true, false, true, false, false] rfl rfl (take_ofW HT_.out HW_.out (by kernel_rfl)) (fun _ _ _ h => h) (Or.inl ⟨by rfl, ?_⟩) hHeld ?_ ?_
                                  rotate_left
                                  · rintro w' ⟨s0, s1, s2, s3, s4, s5, s6, s7⟩
                                    go_simp
                                    with_reducible rfl
                                  rotate_left
                                  · simp only [Act.put, List.setIfInBounds_toArray, List.set_cons_zero, List.set_cons_succ, i64_w, i32_w]
                                    rfl
                                  refine one_ (i := 4) (N := some 122) #[true, true, true, true, true, true, false, false] rfl rfl (one_of HT_.out (by kernel_rfl)) (by decide) (fun K hK => ?_)
                                  refine gs Try.func15 (by kernel_rfl) rfl #[.agg #[.int .i64 ((rd_T27 t284 x15_4).f0), .int .i64 ((rd_T27 t284 x15_4).f1), .int .i64 ((rd_T27 t284 x15_4).f2), .slice A296_3 ((rd_T27 t284 x15_4).f3).length c296_3]] (by rfl) rfl rfl ?_
                                  with_reducible refine (pentroughlaw23_theirs.calls ((rd_T27 t284 x15_4).f0) ((rd_T27 t284 x15_4).f1) ((rd_T27 t284 x15_4).f2) (fun k_ => ((some k_ ≠ (v290 : Value).ownBlock ∧ k_ ≠ gb294) ∧ some k_ ≠ (.slice (some ad296) t284.length co52 : Value).ownBlock)) _ _ ((rd_T27 t284 x15_4).f3) t297 t298 t299 t300 _ ?side1 A49.out).mono ?_
                                  (case side1 => exact HL296_3.out)
                                  rintro e w57 ⟨v301, rfl, ho0, hb⟩
                                  have HS4_ := (hb.cell (World.block_lt_of_cell? _ _ (hHeld.2.2.2.2.1))).trans (hHeld.2.2.2.2.1)
                                  have HS5_ := (hb.cell (World.block_lt_of_cell? _ _ (hHeld.2.2.2.2.2.1))).trans (hHeld.2.2.2.2.2.1)
                                  have HS6_ := (hb.cell (World.block_lt_of_cell? _ _ (hHeld.2.2.2.2.2.2.1))).trans (hHeld.2.2.2.2.2.2.1)
                                  have HS7_ := (hb.cell (World.block_lt_of_cell? _ _ (hHeld.2.2.2.2.2.2.2))).trans (hHeld.2.2.2.2.2.2.2)
                                  refine ⟨_, rfl, ?_⟩
                                  replace HL296_3 := vB HL296_3 hb
                                  have HO302 := Aside0.mk (Kd.V_lower (Kd.V_mono (ok' := fun k_ => some k_ ≠ (.slice (some ad296) t284.length co52 : Value).ownBlock ∧ some k_ ≠ (v290 : Value).ownBlock ∧ k_ ≠ gb294) ho0 (fun k_ hk_ => ⟨Or.elim hk_ (fun hs_ => hs_.2) (fun hn_ => (Kd.fresh' (Kd.N_lt (by (with_reducible repeat (first | apply Kd.N_alloc | apply Kd.N_drewN | apply Kd.N_drew)); exact HO_9.out)) k_ hn_)), Or.elim hk_ (fun hs_ => hs_.1.1) (fun hn_ => (Kd.fresh' (Kd.N_lt (by (with_reducible repeat (first | apply Kd.N_alloc | apply Kd.N_drewN | apply Kd.N_drew)); exact HO_12.out)) k_ hn_)), o2 hk_ (fun h => h.1.2) (Kd.freshB (kk BK294) k_)⟩)) (below_size (bb HB)))
                                  replace HO_9 := Aside0.mk (Kd.N_below (by (with_reducible repeat (first | apply Kd.N_alloc | apply Kd.N_drewN | apply Kd.N_drew)); exact HO_9.out) hb)
                                  replace HO_12 := Aside0.mk (Kd.N_below (by (with_reducible repeat (first | apply Kd.N_alloc | apply Kd.N_drewN | apply Kd.N_drew)); exact HO_12.out) hb)
                                  replace BK294 := kB BK294 hb
                                  replace HR296_3 := Aside0.mk (Kd.C_below (by repeat (first | (with_reducible exact HR296_3.out) | (with_reducible refine Kd.C_alloc ?_ _) | (with_reducible refine Kd.C_drewN ?_ _) | (with_reducible refine Kd.C_drew ?_) | exact HR296_3.out)) hb)
                                  replace HB := hB HB hb
                                  (try clear hb)
                                  (try clear hb2)
                                  (try clear hk)
                                  (try clear hi)
                                  (try clear ho0)
                                  obtain ⟨Ao58, co58, eo58⟩ := Kd.V_slice HO302.out
                                  (first | subst eo58 | (injection eo58 with f1_ f2_ f3_; have f4_ := f1_.symm; have f5_ := f3_.symm; clear f1_ f2_ f3_; subst f4_; subst f5_))
                                  refine hK.out _ _ ⟨cx BK294 0, cx BK294 1, cx BK294 2, cx BK294 3, HS4_, HS5_, HS6_, HS7_⟩ (fun hHeld => ?_)
                                  clear hK K
                                  refine norm_ (a' := ?_) ?_ ?_
                                  rotate_left
                                  · show Act.put _ (some 122) _ = _
                                    simp only [Act.put, List.setIfInBounds_toArray, List.set_cons_zero, List.set_cons_succ, i64_w, i32_w]
                                    rfl
                                  refine one_ (i := 6) (N := some 124) #[true, true, true, true, true, true, true, false] rfl rfl (one_of HT_.out (by kernel_rfl)) (by decide) (fun K hK => ?_)
                                  refine gs Try.func14 (by kernel_rfl) rfl #[.agg #[.int .i64 t297, .int .i64 t298, .int .i64 t299, .slice Ao58 t300.length co58], .agg #[.int .i64 ((rd_T24 l0 x15_4).f0), .int .i64 ((rd_T24 l0 x15_4).f1), .int .i64 ((rd_T24 l0 x15_4).f2), .slice A295_3 ((rd_T24 l0 x15_4).f3).length c295_3]] (by rfl) rfl rfl ?_
                                  with_reducible refine (pentroughref23_Same.calls t297 t298 t299 _ _ t300 ((rd_T24 l0 x15_4).f0) ((rd_T24 l0 x15_4).f1) ((rd_T24 l0 x15_4).f2) _ _ ((rd_T24 l0 x15_4).f3) true _ ?side1 ?side2 ?side3 ?side4 A50.out).mono ?_
                                  (case side1 => exact (Kd.V_reads' (vv HO302)).2.2)
                                  (case side2 => exact (Kd.V_reads' HO302.out).2.1)
                                  (case side3 => exact Kd.C_below HR295_3.out (bb HB))
                                  (case side4 => exact HC295_3.out)
                                  rintro e w59 ⟨rfl, hb⟩
                                  have HS4_ := (hb.cell (World.block_lt_of_cell? _ _ (hHeld.2.2.2.2.1))).trans (hHeld.2.2.2.2.1)
                                  have HS5_ := (hb.cell (World.block_lt_of_cell? _ _ (hHeld.2.2.2.2.2.1))).trans (hHeld.2.2.2.2.2.1)
                                  have HS6_ := (hb.cell (World.block_lt_of_cell? _ _ (hHeld.2.2.2.2.2.2.1))).trans (hHeld.2.2.2.2.2.2.1)
                                  have HS7_ := (hb.cell (World.block_lt_of_cell? _ _ (hHeld.2.2.2.2.2.2.2))).trans (hHeld.2.2.2.2.2.2.2)
                                  refine ⟨_, rfl, ?_⟩
                                  replace HO_9 := Aside0.mk (Kd.N_below (by (with_reducible repeat (first | apply Kd.N_alloc | apply Kd.N_drewN | apply Kd.N_drew)); exact HO_9.out) hb)
                                  replace HO_12 := Aside0.mk (Kd.N_below (by (with_reducible repeat (first | apply Kd.N_alloc | apply Kd.N_drewN | apply Kd.N_drew)); exact HO_12.out) hb)
                                  replace HL296_3 := vB HL296_3 hb
                                  replace HO302 := vB HO302 hb
                                  replace BK294 := kB BK294 hb
                                  replace HR296_3 := Aside0.mk (Kd.C_below (by repeat (first | (with_reducible exact HR296_3.out) | (with_reducible refine Kd.C_alloc ?_ _) | (with_reducible refine Kd.C_drewN ?_ _) | (with_reducible refine Kd.C_drew ?_) | exact HR296_3.out)) hb)
                                  replace HB := hB HB hb
                                  (try clear hb)
                                  (try clear hb2)
                                  (try clear hk)
                                  (try clear hi)
                                  refine hK.out _ _ ⟨cx BK294 0, cx BK294 1, cx BK294 2, cx BK294 3, HS4_, HS5_, HS6_, HS7_⟩ (fun hHeld => ?_)
                                  clear hK K
                                  refine norm_ (a' := ?_) ?_ ?_
                                  rotate_left
                                  · show Act.put _ (some 124) _ = _
                                    simp only [Act.put, List.setIfInBounds_toArray, List.set_cons_zero, List.set_cons_succ, i64_w, i32_w]
                                    rfl
                                  refine pure_ (i := 7) (N := some 125) (v := ?_) (a' := ?_) #[true, true, true, true, true, true, true, true] rfl rfl (any_of HT_.out (by kernel_rfl)) (fun _ _ _ h => h) (Or.inl ⟨by rfl, ?_⟩) ?_ ?_
                                  rotate_left
                                  · intro w'
                                    go_simp
                                    with_reducible rfl
                                  rotate_left
                                  · simp only [Act.put, List.setIfInBounds_toArray, List.set_cons_zero, List.set_cons_succ, i64_w, i32_w]
                                    rfl
                                  refine done_ (done_of HT_.out (by kernel_rfl)) ?_
                                  try go_wp2
                                  go_roundg k4
                                  case measure => have := HJ3.out; have := HK2.out; have := HJ30.out; have := HK4.out; omega
                                  case rel => exact ⟨(wrap64 (x15_4 + 1)), (by first | rfl | (simp; done) | (simp [*]; done)), H', ⟨by have := HJ3.out; have := HK2.out; have := HJ30.out; have := HK4.out; omega⟩, ⟨by (with_reducible repeat (first | apply Kd.N_alloc | apply Kd.N_drewN | apply Kd.N_drew)); exact Kd.N_mono HO_9.out (fun _ hk => hk.1)⟩, ⟨by (with_reducible repeat (first | apply Kd.N_alloc | apply Kd.N_drewN | apply Kd.N_drew)); exact Kd.N_mono HO_12.out (fun _ hk => hk.1)⟩, ⟨bb HB⟩⟩
                                · replace c51 := Bool.eq_false_iff.mpr c51
                                  subst c51
                                  rw [if_neg nf] at H
                                  cases H; exact absurd HRT.out (by decide)
                              · rw [if_neg c48] at H
                                exact absurd H (by simp)
                            · rw [if_neg c47] at H
                              have c47b0 : decide (x15_4 < (l0.length : Int)) = false := decide_eq_false c47
                              clear c47
                              obtain ⟨ji60, hji60⟩ : ∃ j_ : Int, (wrap64 (x15_4 - (l0.length : Int))) = j_ := ⟨_, rfl⟩
                              replace H : (if 0 ≤ (ji60) then (if (ji60) < (t289.length : Int) then ((pentroughlaw23_theirs.f ((rd_T27 t289 (ji60)).f0) ((rd_T27 t289 (ji60)).f1) ((rd_T27 t289 (ji60)).f2) ((rd_T27 t289 (ji60)).f3)).bind fun bt305 => (if 0 ≤ x15_4 then ((pentroughlaw23_theirs.f ((rd_T27 t284 x15_4).f0) ((rd_T27 t284 x15_4).f1) ((rd_T27 t284 x15_4).f2) ((rd_T27 t284 x15_4).f3)).bind fun bt312 => ((pentroughref23_Same.f bt312.1 bt312.2.1 bt312.2.2.1 bt312.2.2.2 bt305.1 bt305.2.1 bt305.2.2.1 bt305.2.2.2).bind fun t318 => (if t318 = true then (pentroughlaw23_ScriptRows.l1 k4 l0 t258 t284 t289 (wrap64 (x15_4 + 1))) else (some false)))) else (none))) else (none)) else (none)) = some r := by first | (rw [hji60] at H; exact H) | (simp only [hji60] at H ⊢; exact H)
                              have hji60w : (IntKind.i64.wrap (x15_4 - (l0.length : Int))) = ji60 := (i64_w _).trans hji60
                              by_cases c61 : 0 ≤ (ji60)
                              · rw [if_pos c61] at H
                                have c61b0 : decide (0 ≤ (ji60)) = true := decide_eq_true c61
                                clear c61
                                by_cases c62 : (ji60) < (t289.length : Int)
                                · rw [if_pos c62] at H
                                  have c62b0 : decide ((ji60) < (t289.length : Int)) = true := decide_eq_true c62
                                  clear c62
                                  obtain ⟨⟨t305, t306, t307, t308⟩, A63, H⟩ := ob H
                                  (try dsimp only at H)
                                  by_cases c64 : 0 ≤ x15_4
                                  · rw [if_pos c64] at H
                                    have c64b0 : decide (0 ≤ x15_4) = true := decide_eq_true c64
                                    clear c64
                                    obtain ⟨⟨t312, t313, t314, t315⟩, A65, H⟩ := ob H
                                    (try dsimp only at H)
                                    obtain ⟨t318, A66, H⟩ := ob H
                                    by_cases c67 : t318 = true
                                    · subst c67
                                      rw [if_pos rfl] at H
                                      have H' := Aside0.mk H
                                      clear H
                                      obtain ⟨Ao68, co68, eo68⟩ := Kd.N_slice HO_9.out
                                      subst eo68
                                      try go_wp2_with (first | ((with_reducible refine gate_dst (N := 16) rfl ?_); (try (refine gate_guard (by rfl) ?_; dsimp only)); refine box_event ?hg (N := 16) ?hd (cs := #[.int .i64 0, .int .i64 0, .int .i64 0, .slice none 0 0]) (t := 24) ?hr ?_; (case hd => rfl); (case hg => rfl); (case hr => first | (go_simp; done) | (go_simp; rfl)); intro gb294 hg w69 hbox hb; replace HO_9 := Aside0.mk (Kd.N_below (Kd.N_elderB (by (with_reducible repeat (first | apply Kd.N_alloc | apply Kd.N_drewN | apply Kd.N_drew)); exact HO_9.out) gb294 (Nat.le_of_eq hg.symm)) hb); replace HO_12 := Aside0.mk (Kd.N_below (Kd.N_elderB (by (with_reducible repeat (first | apply Kd.N_alloc | apply Kd.N_drewN | apply Kd.N_drew)); exact HO_12.out) gb294 (Nat.le_of_eq hg.symm)) hb); have BK294 := Aside0.mk hbox; have GW294 := gE HB hg; have GE294 := gE HB hg; replace HB := hB HB hb; clear hb hbox hg; obtain ⟨hcz70_0, hcz70_1, hcz70_2, hcz70_3, hfz70_0, hfz70_1, hfz70_2, hfz70_3⟩ := bc4 BK294) | ((with_reducible refine gate_store (t := 24) (p := 16) rfl ?_); refine store_event (t := 24) (p := 16) (v := ?vo_w71) (w1 := ((((w69.setCell ⟨gb294, 0, none⟩ (.int .i64 0)).setCell ⟨gb294, 1, none⟩ (.int .i64 0)).setCell ⟨gb294, 2, none⟩ (.int .i64 0)).setCell ⟨gb294, 3, none⟩ (.slice none 0 0))) ?hg ?ho ?hn ?hr ?_; (case ho => rfl); (case hg => rfl); (case hn => rfl); (case hr => first | (go_simp; done) | (go_simp; rfl)); intro w71 hw; replace HO_9 : Aside0 (Kd.N k27 27 w71 w.heap.size (fun k_ => some k_ ≠ (v290 : Value).ownBlock ∧ k_ ≠ gb294) (.slice Ao68 t284.length co68) t284) := ⟨(by rw [hw]; exact (by (with_reducible repeat (first | apply Kd.N_alloc | apply Kd.N_drewN | apply Kd.N_drew)); exact Kd.N_mono (Kd.N_far (p := ⟨gb294, 3, none⟩) (Kd.N_far (p := ⟨gb294, 2, none⟩) (Kd.N_far (p := ⟨gb294, 1, none⟩) (Kd.N_far (p := ⟨gb294, 0, none⟩) (Kd.N_mono HO_9.out (fun k_ hk => (⟨hk, hk.2⟩ : _ ∧ k_ ≠ gb294))) (fun _ hk => hk.2) (.int .i64 0)) (fun _ hk => hk.2) (.int .i64 0)) (fun _ hk => hk.2) (.int .i64 0)) (fun _ hk => hk.2) (.slice none 0 0)) (fun _ hk => ⟨hk.1.1, hk.1.2⟩)))⟩; replace HO_12 : Aside0 (Kd.N k27 27 w71 w.heap.size (fun k_ => some k_ ≠ (.slice Ao68 t284.length co68 : Value).ownBlock ∧ k_ ≠ gb294) v290 t289) := ⟨(by rw [hw]; exact (by (with_reducible repeat (first | apply Kd.N_alloc | apply Kd.N_drewN | apply Kd.N_drew)); exact Kd.N_mono (Kd.N_far (p := ⟨gb294, 3, none⟩) (Kd.N_far (p := ⟨gb294, 2, none⟩) (Kd.N_far (p := ⟨gb294, 1, none⟩) (Kd.N_far (p := ⟨gb294, 0, none⟩) (Kd.N_mono HO_12.out (fun k_ hk => (⟨hk, hk.2⟩ : _ ∧ k_ ≠ gb294))) (fun _ hk => hk.2) (.int .i64 0)) (fun _ hk => hk.2) (.int .i64 0)) (fun _ hk => hk.2) (.int .i64 0)) (fun _ hk => hk.2) (.slice none 0 0)) (fun _ hk => ⟨hk.1.1, hk.1.2⟩)))⟩; replace BK294 := kP4 BK294 hw; replace HB : Aside0 (Below w.heap.size w w71) := ⟨(by rw [hw]; exact (bb HB))⟩; clear hw; obtain ⟨Ao72, co72, eo72⟩ := Kd.N_slice HO_12.out; subst eo72; have p304 : 0 ≤ ((ji60) : Int) := of_decide_eq_true (by first | (with_reducible assumption) | assumption); have q304 : (ji60) < (t289.length : Int) := of_decide_eq_true (by first | (with_reducible assumption) | assumption); obtain ⟨ad304, A304_3, c304_3, e304, hx304_0, hx304_1, hx304_2, hx304_3, hl304_3, hi304_3⟩ := at_T27 (Kd.N_reads' HO_12.out).2.2 (ji60) p304 q304; cases e304; obtain ⟨ce304, hce304, hMe304, hcc304⟩ := Kd.N_get HO_12.out z27 (ji60) p304 (by first | exact q304 | exact of_decide_eq_true (by first | (with_reducible assumption) | assumption) | (have e_ := (Kd.N_reads' HO_12.out).1; omega)); obtain ⟨ua304_3, uc304_3, rfl, ul304_3, ge304_3⟩ := k27_openF hMe304; have hv304_3 := hcc304 3 _ rfl; rw [add_field _ _ 3 (by omega)] at hv304_3; replace hv304_3 := Option.some.inj (hv304_3.symm.trans hx304_3); injection hv304_3 with hva_ hvn_ hvc_; rw [hva_] at ge304_3; rw [hvc_] at ul304_3; have HL304_3 := Aside0.mk (show Kd.V (Kd.int .u8) 5 _ w.heap.size _ _ ((rd_T27 t289 (ji60)).f3) from Kd.V_mk ul304_3 ge304_3); clear hva_ hvn_ hvc_ ge304_3 ul304_3; clear hcc304 hce304; have HR304_3 := Aside0.mk hi304_3; have HC304_3 := Aside0.mk hl304_3; clear hi304_3 hl304_3; replace p304 := eq_true p304; replace q304 := eq_true q304) | ((with_reducible refine gate_callee (f := 15) rfl ?_); refine goesL_ (some 117) rfl rfl Try.func15 (by kernel_rfl) rfl #[.agg #[.int .i64 ((rd_T27 t289 (ji60)).f0), .int .i64 ((rd_T27 t289 (ji60)).f1), .int .i64 ((rd_T27 t289 (ji60)).f2), .slice A304_3 ((rd_T27 t289 (ji60)).f3).length c304_3]] rfl (by (try simp only [List.map_toArray, List.map_cons, List.map_nil]); first | done | (simp only [hji60]; rfl) | rfl | (simp only [List.length_drop, List.length_take]; rfl)) ?_; (with_reducible refine (pentroughlaw23_theirs.calls ((rd_T27 t289 (ji60)).f0) ((rd_T27 t289 (ji60)).f1) ((rd_T27 t289 (ji60)).f2) (fun k_ => ((some k_ ≠ (.slice Ao68 t284.length co68 : Value).ownBlock ∧ k_ ≠ gb294) ∧ some k_ ≠ (.slice (some ad304) t289.length co72 : Value).ownBlock)) _ _ ((rd_T27 t289 (ji60)).f3) t305 t306 t307 t308 _ ?side1 A63.out).mono ?_); (case side1 => exact HL304_3.out); rintro e w73 ⟨v309, rfl, ho0, hb⟩; refine ⟨_, rfl, ?_⟩; replace HL304_3 := vB HL304_3 hb; have HO310 := Aside0.mk (Kd.V_lower (Kd.V_mono (ok' := fun k_ => some k_ ≠ (.slice Ao68 t284.length co68 : Value).ownBlock ∧ some k_ ≠ (.slice (some ad304) t289.length co72 : Value).ownBlock ∧ k_ ≠ gb294) ho0 (fun k_ hk_ => ⟨Or.elim hk_ (fun hs_ => hs_.1.1) (fun hn_ => (Kd.fresh' (Kd.N_lt (by (with_reducible repeat (first | apply Kd.N_alloc | apply Kd.N_drewN | apply Kd.N_drew)); exact HO_9.out)) k_ hn_)), Or.elim hk_ (fun hs_ => hs_.2) (fun hn_ => (Kd.fresh' (Kd.N_lt (by (with_reducible repeat (first | apply Kd.N_alloc | apply Kd.N_drewN | apply Kd.N_drew)); exact HO_12.out)) k_ hn_)), o2 hk_ (fun h => h.1.2) (Kd.freshB (kk BK294) k_)⟩)) (below_size (bb HB))); replace HO_9 := Aside0.mk (Kd.N_below (by (with_reducible repeat (first | apply Kd.N_alloc | apply Kd.N_drewN | apply Kd.N_drew)); exact HO_9.out) hb); replace HO_12 := Aside0.mk (Kd.N_below (by (with_reducible repeat (first | apply Kd.N_alloc | apply Kd.N_drewN | apply Kd.N_drew)); exact HO_12.out) hb); replace BK294 := kB BK294 hb; replace HR304_3 := Aside0.mk (Kd.C_below (by repeat (first | (with_reducible exact HR304_3.out) | (with_reducible refine Kd.C_alloc ?_ _) | (with_reducible refine Kd.C_drewN ?_ _) | (with_reducible refine Kd.C_drew ?_) | exact HR304_3.out)) hb); replace HB := hB HB hb; (try clear hb); (try clear hb2); (try clear hk); (try clear hi); (try clear ho0); obtain ⟨hcz74_0, hcz74_1, hcz74_2, hcz74_3, hfz74_0, hfz74_1, hfz74_2, hfz74_3⟩ := bc4 BK294; obtain ⟨Ao75, co75, eo75⟩ := Kd.V_slice HO310.out; subst eo75))
                                      have n0_ : Aside0 (Kd.N k27 27 ((((w73.setCell ⟨gb294, 0, none⟩ (.int .i64 t305)).setCell ⟨gb294, 1, none⟩ (.int .i64 t306)).setCell ⟨gb294, 2, none⟩ (.int .i64 t307)).setCell ⟨gb294, 3, none⟩ (.slice Ao75 t308.length co75)) w.heap.size (fun k_ => some k_ ≠ (.slice (some ad304) t289.length co72 : Value).ownBlock ∧ k_ ≠ gb294) (.slice Ao68 t284.length co68) t284) := ⟨by (with_reducible repeat (first | apply Kd.N_alloc | apply Kd.N_drewN | apply Kd.N_drew)); exact Kd.N_mono (Kd.N_far (p := ⟨gb294, 3, none⟩) (Kd.N_far (p := ⟨gb294, 2, none⟩) (Kd.N_far (p := ⟨gb294, 1, none⟩) (Kd.N_far (p := ⟨gb294, 0, none⟩) (Kd.N_mono HO_9.out (fun k_ hk => (⟨hk, hk.2⟩ : _ ∧ k_ ≠ gb294))) (fun _ hk => hk.2) (.int .i64 t305)) (fun _ hk => hk.2) (.int .i64 t306)) (fun _ hk => hk.2) (.int .i64 t307)) (fun _ hk => hk.2) (.slice Ao75 t308.length co75)) (fun _ hk => ⟨hk.1.1, hk.1.2⟩)⟩
                                      have n1_ : Aside0 (Kd.N k27 27 ((((w73.setCell ⟨gb294, 0, none⟩ (.int .i64 t305)).setCell ⟨gb294, 1, none⟩ (.int .i64 t306)).setCell ⟨gb294, 2, none⟩ (.int .i64 t307)).setCell ⟨gb294, 3, none⟩ (.slice Ao75 t308.length co75)) w.heap.size (fun k_ => some k_ ≠ (.slice Ao68 t284.length co68 : Value).ownBlock ∧ k_ ≠ gb294) (.slice (some ad304) t289.length co72) t289) := ⟨by (with_reducible repeat (first | apply Kd.N_alloc | apply Kd.N_drewN | apply Kd.N_drew)); exact Kd.N_mono (Kd.N_far (p := ⟨gb294, 3, none⟩) (Kd.N_far (p := ⟨gb294, 2, none⟩) (Kd.N_far (p := ⟨gb294, 1, none⟩) (Kd.N_far (p := ⟨gb294, 0, none⟩) (Kd.N_mono HO_12.out (fun k_ hk => (⟨hk, hk.2⟩ : _ ∧ k_ ≠ gb294))) (fun _ hk => hk.2) (.int .i64 t305)) (fun _ hk => hk.2) (.int .i64 t306)) (fun _ hk => hk.2) (.int .i64 t307)) (fun _ hk => hk.2) (.slice Ao75 t308.length co75)) (fun _ hk => ⟨hk.1.1, hk.1.2⟩)⟩
                                      have n2_ : Aside0 (Kd.V (Kd.int .u8) 5 ((((w73.setCell ⟨gb294, 0, none⟩ (.int .i64 t305)).setCell ⟨gb294, 1, none⟩ (.int .i64 t306)).setCell ⟨gb294, 2, none⟩ (.int .i64 t307)).setCell ⟨gb294, 3, none⟩ (.slice Ao75 t308.length co75)) w.heap.size (fun k_ => some k_ ≠ (.slice Ao68 t284.length co68 : Value).ownBlock ∧ some k_ ≠ (.slice (some ad304) t289.length co72 : Value).ownBlock ∧ k_ ≠ gb294) (.slice A304_3 ((rd_T27 t289 (ji60)).f3).length c304_3) ((rd_T27 t289 (ji60)).f3)) := ⟨vX HL304_3⟩
                                      have n3_ : Aside0 (Kd.V (Kd.int .u8) 5 ((((w73.setCell ⟨gb294, 0, none⟩ (.int .i64 t305)).setCell ⟨gb294, 1, none⟩ (.int .i64 t306)).setCell ⟨gb294, 2, none⟩ (.int .i64 t307)).setCell ⟨gb294, 3, none⟩ (.slice Ao75 t308.length co75)) w.heap.size (fun k_ => some k_ ≠ (.slice Ao68 t284.length co68 : Value).ownBlock ∧ some k_ ≠ (.slice (some ad304) t289.length co72 : Value).ownBlock ∧ k_ ≠ gb294) (.slice Ao75 t308.length co75) t308) := ⟨vX HO310⟩
                                      have n4_ : Aside0 (((((w73.setCell ⟨gb294, 0, none⟩ (.int .i64 t305)).setCell ⟨gb294, 1, none⟩ (.int .i64 t306)).setCell ⟨gb294, 2, none⟩ (.int .i64 t307)).setCell ⟨gb294, 3, none⟩ (.slice Ao75 t308.length co75)).heap[gb294]? = some (.cells #[.int .i64 t305, .int .i64 t306, .int .i64 t307, .slice Ao75 t308.length co75] 24 (0, 0))) := ⟨by (with_reducible repeat (first | refine blk_drewN ?_ _ | refine blk_drew ?_ | refine blk_alloc ?_ _)); refine blk_put (cs := #[.int .i64 t305, .int .i64 t306, .int .i64 t307, .slice none 0 0]) ?_ 3 _ rfl; (with_reducible repeat (first | refine blk_drewN ?_ _ | refine blk_drew ?_ | refine blk_alloc ?_ _)); refine blk_put (cs := #[.int .i64 t305, .int .i64 t306, .int .i64 0, .slice none 0 0]) ?_ 2 _ rfl; (with_reducible repeat (first | refine blk_drewN ?_ _ | refine blk_drew ?_ | refine blk_alloc ?_ _)); refine blk_put (cs := #[.int .i64 t305, .int .i64 0, .int .i64 0, .slice none 0 0]) ?_ 1 _ rfl; (with_reducible repeat (first | refine blk_drewN ?_ _ | refine blk_drew ?_ | refine blk_alloc ?_ _)); refine blk_put (cs := #[.int .i64 0, .int .i64 0, .int .i64 0, .slice none 0 0]) ?_ 0 _ rfl; (with_reducible repeat (first | refine blk_drewN ?_ _ | refine blk_drew ?_ | refine blk_alloc ?_ _)); exact BK294.out⟩
                                      have n5_ : Aside0 (Below w.heap.size w ((((w73.setCell ⟨gb294, 0, none⟩ (.int .i64 t305)).setCell ⟨gb294, 1, none⟩ (.int .i64 t306)).setCell ⟨gb294, 2, none⟩ (.int .i64 t307)).setCell ⟨gb294, 3, none⟩ (.slice Ao75 t308.length co75))) := ⟨bb HB⟩
                                      (try clear HO_9)
                                      (try clear HO_12)
                                      (try clear HL304_3)
                                      (try clear HO310)
                                      (try clear BK294)
                                      (try clear HB)
                                      generalize ((((w73.setCell ⟨gb294, 0, none⟩ (.int .i64 t305)).setCell ⟨gb294, 1, none⟩ (.int .i64 t306)).setCell ⟨gb294, 2, none⟩ (.int .i64 t307)).setCell ⟨gb294, 3, none⟩ (.slice Ao75 t308.length co75)) = w76 at n0_ n1_ n2_ n3_ n4_ n5_ ⊢
                                      have HO_9 := n0_
                                      have HO_12 := n1_
                                      have HL304_3 := n2_
                                      have HO310 := n3_
                                      have BK294 := n4_
                                      have HB := n5_
                                      clear n0_ n1_ n2_ n3_ n4_ n5_
                                      replace HO_9 := Aside0.mk (Kd.N_drew HO_9.out)
                                      replace HO_12 := Aside0.mk (Kd.N_drew HO_12.out)
                                      replace HL304_3 := Aside0.mk (Kd.V_drew HL304_3.out)
                                      replace HO310 := Aside0.mk (Kd.V_drew HO310.out)
                                      replace BK294 := Aside0.mk (blk_drew BK294.out)
                                      replace HB := Aside0.mk (below_drew1 HB.out)
                                      have p311 : 0 ≤ (x15_4 : Int) := of_decide_eq_true (by first | (with_reducible assumption) | assumption)
                                      have q311 : x15_4 < (t284.length : Int) := of_decide_eq_true (by first | (with_reducible assumption) | assumption)
                                      obtain ⟨ad311, A311_3, c311_3, e311, hx311_0, hx311_1, hx311_2, hx311_3, hl311_3, hi311_3⟩ := at_T27 (Kd.N_reads' HO_9.out).2.2 x15_4 p311 q311
                                      cases e311
                                      obtain ⟨ce311, hce311, hMe311, hcc311⟩ := Kd.N_get HO_9.out z27 x15_4 p311 (by first | exact q311 | exact of_decide_eq_true (by first | (with_reducible assumption) | assumption) | (have e_ := (Kd.N_reads' HO_9.out).1; omega))
                                      obtain ⟨ua311_3, uc311_3, rfl, ul311_3, ge311_3⟩ := k27_openF hMe311
                                      have hv311_3 := hcc311 3 _ rfl
                                      rw [add_field _ _ 3 (by omega)] at hv311_3
                                      replace hv311_3 := Option.some.inj (hv311_3.symm.trans hx311_3)
                                      injection hv311_3 with hva_ hvn_ hvc_
                                      rw [hva_] at ge311_3
                                      rw [hvc_] at ul311_3
                                      have HL311_3 := Aside0.mk (show Kd.V (Kd.int .u8) 5 _ w.heap.size _ _ ((rd_T27 t284 x15_4).f3) from Kd.V_mk ul311_3 ge311_3)
                                      clear hva_ hvn_ hvc_ ge311_3 ul311_3
                                      clear hcc311 hce311
                                      have HR311_3 := Aside0.mk hi311_3
                                      have HC311_3 := Aside0.mk hl311_3
                                      clear hi311_3 hl311_3
                                      replace p311 := eq_true p311
                                      replace q311 := eq_true q311
                                      refine start_ (n := 8) (S := fun w' => w'.cell? ⟨gb294, 0, none⟩ = some (.int .i64 t305) ∧ w'.cell? ⟨gb294, 1, none⟩ = some (.int .i64 t306) ∧ w'.cell? ⟨gb294, 2, none⟩ = some (.int .i64 t307) ∧ w'.cell? ⟨gb294, 3, none⟩ = some (.slice Ao75 t308.length co75) ∧ w'.cell? (ad311.add ((x15_4).toNat * 4)) = some (.int .i64 ((rd_T27 t284 x15_4).f0)) ∧ w'.cell? ⟨(ad311.add ((x15_4).toNat * 4)).block, (ad311.add ((x15_4).toNat * 4)).off + 1, none⟩ = some (.int .i64 ((rd_T27 t284 x15_4).f1)) ∧ w'.cell? ⟨(ad311.add ((x15_4).toNat * 4)).block, (ad311.add ((x15_4).toNat * 4)).off + 2, none⟩ = some (.int .i64 ((rd_T27 t284 x15_4).f2)) ∧ w'.cell? ⟨(ad311.add ((x15_4).toNat * 4)).block, (ad311.add ((x15_4).toNat * 4)).off + 3, none⟩ = some (.slice A311_3 ((rd_T27 t284 x15_4).f3).length c311_3)) (ds := []) #[false, false, false, false, false, false, false, false] (by kernel_rfl) rfl rfl ⟨cx BK294 0, cx BK294 1, cx BK294 2, cx BK294 3, hx311_0, hx311_1, hx311_2, hx311_3⟩ (fun hHeld => ?_); refine with_tabW pentroughlaw23_ScriptRows.tab24 pentroughlaw23_ScriptRows.bits24 (fun HT_ HW_ => ?_)
                                      generalize w76.drew = w77 at HO_9 HO_12 HL304_3 HO310 BK294 HB HL311_3 HR311_3 hx311_0 hx311_1 hx311_2 hx311_3 hHeld ⊢
                                      refine pure_ (i := 0) (N := some 118) (v := ?_) (a' := ?_) #[true, false, false, false, false, false, false, false] rfl rfl (any_of HT_.out (by kernel_rfl)) (fun _ _ _ h => h) (Or.inl ⟨by rfl, ?_⟩) ?_ ?_
                                      rotate_left
                                      · intro w'
                                        go_simp
                                        with_reducible rfl
                                      rotate_left
                                      · simp only [Act.put, List.setIfInBounds_toArray, List.set_cons_zero, List.set_cons_succ, i64_w, i32_w]
                                        rfl
                                      refine pure_ (i := 1) (N := some 119) (v := ?_) (a' := ?_) #[true, true, false, false, false, false, false, false] rfl rfl (any_of HT_.out (by kernel_rfl)) (fun _ _ _ h => h) (Or.inl ⟨by rfl, ?_⟩) ?_ ?_
                                      rotate_left
                                      · intro w'
                                        go_simp
                                        with_reducible rfl
                                      rotate_left
                                      · simp only [Act.put, List.setIfInBounds_toArray, List.set_cons_zero, List.set_cons_succ, i64_w, i32_w]
                                        rfl
                                      refine pure_ (i := 2) (N := some 120) (v := ?_) (a' := ?_) #[true, true, true, false, false, false, false, false] rfl rfl (any_of HT_.out (by kernel_rfl)) (fun _ _ _ h => h) (Or.inl ⟨by rfl, ?_⟩) ?_ ?_
                                      rotate_left
                                      · intro w'
                                        go_simp
                                        with_reducible rfl
                                      rotate_left
                                      · simp only [Act.put, List.setIfInBounds_toArray, List.set_cons_zero, List.set_cons_succ, i64_w, i32_w]
                                        rfl
                                      refine take_ (i := 3) (N := some 121) (v := ?_) (a' := ?_) #[true, true, true, true, false, false, false, false] rfl rfl (take_ofW HT_.out HW_.out (by kernel_rfl)) (fun _ _ _ h => h) (Or.inl ⟨by rfl, ?_⟩) hHeld ?_ ?_
                                      rotate_left
                                      · rintro w' ⟨s0, s1, s2, s3, s4, s5, s6, s7⟩
                                        go_simp
                                        with_reducible rfl
                                      rotate_left
                                      · simp only [Act.put, List.setIfInBounds_toArray, List.set_cons_zero, List.set_cons_succ, i64_w, i32_w]
                                        rfl
                                      refine take_ (i := 5) (N := some 123) (v := ?_) (a' := ?_) #[true, true, true, true, false, true, false, false] rfl rfl (take_ofW HT_.out HW_.out (by kernel_rfl)) (fun _ _ _ h => h) (Or.inl ⟨by rfl, ?_⟩) hHeld ?_ ?_
                                      rotate_left
                                      · rintro w' ⟨s0, s1, s2, s3, s4, s5, s6, s7⟩
                                        go_simp
                                        with_reducible rfl
                                      rotate_left
                                      · simp only [Act.put, List.setIfInBounds_toArray, List.set_cons_zero, List.set_cons_succ, i64_w, i32_w]
                                        rfl
                                      refine one_ (i := 4) (N := some 122) #[true, true, true, true, true, true, false, false] rfl rfl (one_of HT_.out (by kernel_rfl)) (by decide) (fun K hK => ?_)
                                      refine gs Try.func15 (by kernel_rfl) rfl #[.agg #[.int .i64 ((rd_T27 t284 x15_4).f0), .int .i64 ((rd_T27 t284 x15_4).f1), .int .i64 ((rd_T27 t284 x15_4).f2), .slice A311_3 ((rd_T27 t284 x15_4).f3).length c311_3]] (by rfl) rfl rfl ?_
                                      with_reducible refine (pentroughlaw23_theirs.calls ((rd_T27 t284 x15_4).f0) ((rd_T27 t284 x15_4).f1) ((rd_T27 t284 x15_4).f2) (fun k_ => ((some k_ ≠ (.slice (some ad304) t289.length co72 : Value).ownBlock ∧ k_ ≠ gb294) ∧ some k_ ≠ (.slice (some ad311) t284.length co68 : Value).ownBlock)) _ _ ((rd_T27 t284 x15_4).f3) t312 t313 t314 t315 _ ?side1 A65.out).mono ?_
                                      (case side1 => exact HL311_3.out)
                                      rintro e w78 ⟨v316, rfl, ho0, hb⟩
                                      have HS4_ := (hb.cell (World.block_lt_of_cell? _ _ (hHeld.2.2.2.2.1))).trans (hHeld.2.2.2.2.1)
                                      have HS5_ := (hb.cell (World.block_lt_of_cell? _ _ (hHeld.2.2.2.2.2.1))).trans (hHeld.2.2.2.2.2.1)
                                      have HS6_ := (hb.cell (World.block_lt_of_cell? _ _ (hHeld.2.2.2.2.2.2.1))).trans (hHeld.2.2.2.2.2.2.1)
                                      have HS7_ := (hb.cell (World.block_lt_of_cell? _ _ (hHeld.2.2.2.2.2.2.2))).trans (hHeld.2.2.2.2.2.2.2)
                                      refine ⟨_, rfl, ?_⟩
                                      replace HL304_3 := vB HL304_3 hb
                                      replace HO310 := vB HO310 hb
                                      replace HL311_3 := vB HL311_3 hb
                                      have HO317 := Aside0.mk (Kd.V_lower (Kd.V_mono (ok' := fun k_ => some k_ ≠ (.slice (some ad311) t284.length co68 : Value).ownBlock ∧ some k_ ≠ (.slice (some ad304) t289.length co72 : Value).ownBlock ∧ k_ ≠ gb294) ho0 (fun k_ hk_ => ⟨Or.elim hk_ (fun hs_ => hs_.2) (fun hn_ => (Kd.fresh' (Kd.N_lt (by (with_reducible repeat (first | apply Kd.N_alloc | apply Kd.N_drewN | apply Kd.N_drew)); exact HO_9.out)) k_ hn_)), Or.elim hk_ (fun hs_ => hs_.1.1) (fun hn_ => (Kd.fresh' (Kd.N_lt (by (with_reducible repeat (first | apply Kd.N_alloc | apply Kd.N_drewN | apply Kd.N_drew)); exact HO_12.out)) k_ hn_)), o2 hk_ (fun h => h.1.2) (Kd.freshB (kk BK294) k_)⟩)) (below_size (bb HB)))
                                      replace HO_9 := Aside0.mk (Kd.N_below (by (with_reducible repeat (first | apply Kd.N_alloc | apply Kd.N_drewN | apply Kd.N_drew)); exact HO_9.out) hb)
                                      replace HO_12 := Aside0.mk (Kd.N_below (by (with_reducible repeat (first | apply Kd.N_alloc | apply Kd.N_drewN | apply Kd.N_drew)); exact HO_12.out) hb)
                                      replace BK294 := kB BK294 hb
                                      replace HR311_3 := Aside0.mk (Kd.C_below (by repeat (first | (with_reducible exact HR311_3.out) | (with_reducible refine Kd.C_alloc ?_ _) | (with_reducible refine Kd.C_drewN ?_ _) | (with_reducible refine Kd.C_drew ?_) | exact HR311_3.out)) hb)
                                      replace HB := hB HB hb
                                      (try clear hb)
                                      (try clear hb2)
                                      (try clear hk)
                                      (try clear hi)
                                      (try clear ho0)
                                      obtain ⟨Ao79, co79, eo79⟩ := Kd.V_slice HO317.out
                                      (first | subst eo79 | (injection eo79 with f1_ f2_ f3_; have f4_ := f1_.symm; have f5_ := f3_.symm; clear f1_ f2_ f3_; subst f4_; subst f5_))
                                      refine hK.out _ _ ⟨cx BK294 0, cx BK294 1, cx BK294 2, cx BK294 3, HS4_, HS5_, HS6_, HS7_⟩ (fun hHeld => ?_)
                                      clear hK K
                                      refine norm_ (a' := ?_) ?_ ?_
                                      rotate_left
                                      · show Act.put _ (some 122) _ = _
                                        simp only [Act.put, List.setIfInBounds_toArray, List.set_cons_zero, List.set_cons_succ, i64_w, i32_w]
                                        rfl
                                      refine one_ (i := 6) (N := some 124) #[true, true, true, true, true, true, true, false] rfl rfl (one_of HT_.out (by kernel_rfl)) (by decide) (fun K hK => ?_)
                                      refine gs Try.func14 (by kernel_rfl) rfl #[.agg #[.int .i64 t312, .int .i64 t313, .int .i64 t314, .slice Ao79 t315.length co79], .agg #[.int .i64 t305, .int .i64 t306, .int .i64 t307, .slice Ao75 t308.length co75]] (by rfl) rfl rfl ?_
                                      with_reducible refine (pentroughref23_Same.calls t312 t313 t314 _ _ t315 t305 t306 t307 _ _ t308 true _ ?side1 ?side2 ?side3 ?side4 A66.out).mono ?_
                                      (case side1 => exact (Kd.V_reads' (vv HO317)).2.2)
                                      (case side2 => exact (Kd.V_reads' HO317.out).2.1)
                                      (case side3 => exact (Kd.V_reads' (vv HO310)).2.2)
                                      (case side4 => exact (Kd.V_reads' HO310.out).2.1)
                                      rintro e w80 ⟨rfl, hb⟩
                                      have HS4_ := (hb.cell (World.block_lt_of_cell? _ _ (hHeld.2.2.2.2.1))).trans (hHeld.2.2.2.2.1)
                                      have HS5_ := (hb.cell (World.block_lt_of_cell? _ _ (hHeld.2.2.2.2.2.1))).trans (hHeld.2.2.2.2.2.1)
                                      have HS6_ := (hb.cell (World.block_lt_of_cell? _ _ (hHeld.2.2.2.2.2.2.1))).trans (hHeld.2.2.2.2.2.2.1)
                                      have HS7_ := (hb.cell (World.block_lt_of_cell? _ _ (hHeld.2.2.2.2.2.2.2))).trans (hHeld.2.2.2.2.2.2.2)
                                      refine ⟨_, rfl, ?_⟩
                                      replace HO_9 := Aside0.mk (Kd.N_below (by (with_reducible repeat (first | apply Kd.N_alloc | apply Kd.N_drewN | apply Kd.N_drew)); exact HO_9.out) hb)
                                      replace HO_12 := Aside0.mk (Kd.N_below (by (with_reducible repeat (first | apply Kd.N_alloc | apply Kd.N_drewN | apply Kd.N_drew)); exact HO_12.out) hb)
                                      replace HL304_3 := vB HL304_3 hb
                                      replace HO310 := vB HO310 hb
                                      replace HL311_3 := vB HL311_3 hb
                                      replace HO317 := vB HO317 hb
                                      replace BK294 := kB BK294 hb
                                      replace HR311_3 := Aside0.mk (Kd.C_below (by repeat (first | (with_reducible exact HR311_3.out) | (with_reducible refine Kd.C_alloc ?_ _) | (with_reducible refine Kd.C_drewN ?_ _) | (with_reducible refine Kd.C_drew ?_) | exact HR311_3.out)) hb)
                                      replace HB := hB HB hb
                                      (try clear hb)
                                      (try clear hb2)
                                      (try clear hk)
                                      (try clear hi)
                                      refine hK.out _ _ ⟨cx BK294 0, cx BK294 1, cx BK294 2, cx BK294 3, HS4_, HS5_, HS6_, HS7_⟩ (fun hHeld => ?_)
                                      clear hK K
                                      refine norm_ (a' := ?_) ?_ ?_
                                      rotate_left
                                      · show Act.put _ (some 124) _ = _
                                        simp only [Act.put, List.setIfInBounds_toArray, List.set_cons_zero, List.set_cons_succ, i64_w, i32_w]
                                        rfl
                                      refine pure_ (i := 7) (N := some 125) (v := ?_) (a' := ?_) #[true, true, true, true, true, true, true, true] rfl rfl (any_of HT_.out (by kernel_rfl)) (fun _ _ _ h => h) (Or.inl ⟨by rfl, ?_⟩) ?_ ?_
                                      rotate_left
                                      · intro w'
                                        go_simp
                                        with_reducible rfl
                                      rotate_left
                                      · simp only [Act.put, List.setIfInBounds_toArray, List.set_cons_zero, List.set_cons_succ, i64_w, i32_w]
                                        rfl
                                      refine done_ (done_of HT_.out (by kernel_rfl)) ?_
                                      try go_wp2
                                      go_roundg k4
                                      case measure => have := HJ3.out; have := HK2.out; have := HJ30.out; have := HK4.out; omega
                                      case rel => exact ⟨(wrap64 (x15_4 + 1)), (by first | rfl | (simp; done) | (simp [*]; done)), H', ⟨by have := HJ3.out; have := HK2.out; have := HJ30.out; have := HK4.out; omega⟩, ⟨by (with_reducible repeat (first | apply Kd.N_alloc | apply Kd.N_drewN | apply Kd.N_drew)); exact Kd.N_mono HO_9.out (fun _ hk => hk.1)⟩, ⟨by (with_reducible repeat (first | apply Kd.N_alloc | apply Kd.N_drewN | apply Kd.N_drew)); exact Kd.N_mono HO_12.out (fun _ hk => hk.1)⟩, ⟨bb HB⟩⟩
                                    · replace c67 := Bool.eq_false_iff.mpr c67
                                      subst c67
                                      rw [if_neg nf] at H
                                      cases H; exact absurd HRT.out (by decide)
                                  · rw [if_neg c64] at H
                                    exact absurd H (by simp)
                                · rw [if_neg c62] at H
                                  exact absurd H (by simp)
                              · rw [if_neg c61] at H
                                exact absurd H (by simp)
                          · rw [if_neg c46] at H
                            have c46b0 : decide (x15_4 < (t284.length : Int)) = false := decide_eq_false c46
                            clear c46
                            obtain rfl := Option.some.inj H
                            obtain ⟨Ao81, co81, eo81⟩ := Kd.N_slice HO_9.out
                            subst eo81
                            go_wp2
                            go_ret
                            exact ⟨by first | rfl | (simp [errW_none, errW_some] <;> rfl) | (simp [*, errW_none, errW_some] <;> rfl), by repeat (first | (with_reducible first | exact HB.out | apply below_alloc | apply pw_below_drewN | apply below_drew1) | exact HB.out)⟩
              · rw [if_neg c28] at H
                exact absurd H (by simp)

end Go.Proofs.Ytdnglfodlhhikaa.Q
