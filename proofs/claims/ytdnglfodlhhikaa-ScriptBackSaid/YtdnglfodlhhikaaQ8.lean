-- Laid by mix.py, a program of this session, with the kit's print.py; walks by hand come out of wip/over.
import Derived.Test.YtdnglfodlhhikaaShort
import Derived.Test.YtdnglfodlhhikaaQ0
import Derived.Test.YtdnglfodlhhikaaQ2
import Derived.Test.YtdnglfodlhhikaaQ4
import Derived.Test.YtdnglfodlhhikaaQ6
import Derived.Test.YtdnglfodlhhikaaQ7
namespace Go.Proofs.Ytdnglfodlhhikaa.Q
open Go.RowKit Go.Proofs.YtdnglfodlhhikaaW.PrintWords Go.Proofs.YtdnglfodlhhikaaW.PrintLast Go.Proofs.YtdnglfodlhhikaaW.PrintMore Go.Proofs.YtdnglfodlhhikaaW.Sh
attribute [local go_sem] max2_int min2_int max_two min_two max_three min_three max_four min_four   -- for this text's walks alone
set_option linter.unusedVariables false
set_option linter.unusedSimpArgs false

/-! ### pentroughlaw23_ScriptBack: function 3 -/
mutual
def pentroughlaw23_ScriptBack.j0 : Nat → List Int → Bool → Bool → Int → Int → Int → List Int → Option (Bool)
  | 0, _, _, _, _, _, _, _ => none
  | k + 1, x1, x5, x24, x178000, x178001, x178002, x178003 => if x24 = true then (some x5) else ((pentroughlaw23_ours.f x178000 x178001 x178002 x178003).bind fun bt179 => ((script_Put.f k bt179.1 bt179.2.1 bt179.2.2.1 bt179.2.2.2).bind fun t185 => ((pentroughlaw23_ours.f x178000 x178001 x178002 x178003).bind fun bt188 => ((script_Sane.f k bt188.1 bt188.2.1 bt188.2.2.1 bt188.2.2.2).bind fun t194 => (if t194 = true then ((some (([] : List Int) : List Int)).bind fun y195 => (if y195.length + t185.length < 140737488355328 then ((some (y195 ++ t185 : List Int)).bind fun y198 => (if y198.length + x1.length < 140737488355328 then ((script_Get.f k (y198 ++ x1)).bind fun bt204 => (if bt204.2.2.2.2.2 = 0 then (if bt204.2.2.2.2.1 = (t185.length : Int) then ((pentroughlaw23_theirs.f bt204.1 bt204.2.1 bt204.2.2.1 bt204.2.2.2.1).bind fun bt213 => ((pentroughref23_Same.f bt213.1 bt213.2.1 bt213.2.2.1 bt213.2.2.2 x178000 x178001 x178002 x178003).bind fun t219 => (pentroughlaw23_ScriptBack.j1 k x5 t185 (!t219)))) else (pentroughlaw23_ScriptBack.j1 k x5 t185 true)) else (pentroughlaw23_ScriptBack.j1 k x5 t185 true))) else (none))) else (none))) else (if x5 = true then (some ((t185.length : Int) == 0)) else (some false)))))))
def pentroughlaw23_ScriptBack.j1 : Nat → Bool → List Int → Bool → Option (Bool)
  | 0, _, _, _ => none
  | k + 1, x5, x6, x65 => if x65 = true then (some false) else (pentroughlaw23_ScriptBack.l0 k x5 x6 0)
def pentroughlaw23_ScriptBack.l0 : Nat → Bool → List Int → Int → Option (Bool)
  | 0, _, _, _ => none
  | k + 1, x5, x6, x11 => if x11 < (x6.length : Int) then (pentroughlaw23_ScriptBack.j3 k x5 x6 x11 (decide (x11 < 40))) else (pentroughlaw23_ScriptBack.j3 k x5 x6 x11 false)
def pentroughlaw23_ScriptBack.j3 : Nat → Bool → List Int → Int → Bool → Option (Bool)
  | 0, _, _, _, _ => none
  | k + 1, x5, x6, x11, x73 => if x73 = true then (if 0 ≤ x11 then (if x11 ≤ (x6.length : Int) then ((script_Get.f k (x6.take (x11 : Int).toNat)).bind fun bt225 => (if bt225.2.2.2.2.2 = 1 then (if bt225.2.2.2.2.1 = 0 then ((pentroughlaw23_theirs.f bt225.1 bt225.2.1 bt225.2.2.1 bt225.2.2.2.1).bind fun bt234 => ((pentroughref23_Same.f bt234.1 bt234.2.1 bt234.2.2.1 bt234.2.2.2 0 0 0 ([] : List Int)).bind fun t240 => (if t240 = true then (pentroughlaw23_ScriptBack.l0 k x5 x6 (wrap64 (x11 + 1))) else (some false)))) else (some false)) else (some false))) else (none)) else (none)) else (if x5 = true then (some (decide ((x6.length : Int) ≥ 1))) else (some false))
end
def pentroughlaw23_ScriptBack.f (k : Nat) (a0_0 : Int) (a0_1 : Int) (a0_2 : Int) (l0_3 : List Int) (l1 : List Int) : Option (Bool) := (pentroughlaw23_awake.f).bind fun t178 => (if (l0_3.length : Int) > 5000 then (pentroughlaw23_ScriptBack.j0 k l1 t178 true a0_0 a0_1 a0_2 l0_3) else (pentroughlaw23_ScriptBack.j0 k l1 t178 (decide ((l1.length : Int) > 200)) a0_0 a0_1 a0_2 l0_3))
theorem pentroughlaw23_ScriptBack.mono_l : ∀ k, (∀ y0 y1 y2 y3 y4 y5 y6, LeO (pentroughlaw23_ScriptBack.j0 k y0 y1 y2 y3 y4 y5 y6) (pentroughlaw23_ScriptBack.j0 (k + 1) y0 y1 y2 y3 y4 y5 y6)) ∧ (∀ y0 y1 y2, LeO (pentroughlaw23_ScriptBack.j1 k y0 y1 y2) (pentroughlaw23_ScriptBack.j1 (k + 1) y0 y1 y2)) ∧ (∀ y0 y1 y2, LeO (pentroughlaw23_ScriptBack.l0 k y0 y1 y2) (pentroughlaw23_ScriptBack.l0 (k + 1) y0 y1 y2)) ∧ (∀ y0 y1 y2 y3, LeO (pentroughlaw23_ScriptBack.j3 k y0 y1 y2 y3) (pentroughlaw23_ScriptBack.j3 (k + 1) y0 y1 y2 y3))
  | 0 => ⟨fun _ _ _ _ _ _ _ r h => by simp [pentroughlaw23_ScriptBack.j0] at h, fun _ _ _ r h => by simp [pentroughlaw23_ScriptBack.j1] at h, fun _ _ _ r h => by simp [pentroughlaw23_ScriptBack.l0] at h, fun _ _ _ _ r h => by simp [pentroughlaw23_ScriptBack.j3] at h⟩
  | k + 1 => by
    obtain ⟨ih0, ih1, ih2, ih3⟩ := pentroughlaw23_ScriptBack.mono_l k
    refine ⟨?_, ?_, ?_, ?_⟩
    · intro y0 y1 y2 y3 y4 y5 y6
      unfold pentroughlaw23_ScriptBack.j0
      repeat' first
      | (with_reducible exact ih0 _ _ _ _ _ _ _)
      | (with_reducible exact ih1 _ _ _)
      | (with_reducible exact ih2 _ _ _)
      | (with_reducible exact ih3 _ _ _ _)
      | (with_reducible exact script_Get.mono _ _)
      | (with_reducible exact script_Put.mono _ _ _ _ _)
      | (with_reducible exact script_Sane.mono _ _ _ _ _)
      | (with_reducible exact LeO.refl _)
      | (with_reducible exact LeO.none _)
      | (with_reducible refine LeO.ite ?_ ?_)
      | (with_reducible refine LeO.bind ?_ (fun _ => ?_))
      | exact ih0 _ _ _ _ _ _ _
      | exact ih1 _ _ _
      | exact ih2 _ _ _
      | exact ih3 _ _ _ _
      | exact script_Get.mono _ _
      | exact script_Put.mono _ _ _ _ _
      | exact script_Sane.mono _ _ _ _ _
      | exact LeO.none _
      | refine LeO.ite ?_ ?_
      | refine LeO.bind ?_ (fun _ => ?_)
    · intro y0 y1 y2
      unfold pentroughlaw23_ScriptBack.j1
      repeat' first
      | (with_reducible exact ih0 _ _ _ _ _ _ _)
      | (with_reducible exact ih1 _ _ _)
      | (with_reducible exact ih2 _ _ _)
      | (with_reducible exact ih3 _ _ _ _)
      | (with_reducible exact script_Get.mono _ _)
      | (with_reducible exact script_Put.mono _ _ _ _ _)
      | (with_reducible exact script_Sane.mono _ _ _ _ _)
      | (with_reducible exact LeO.refl _)
      | (with_reducible exact LeO.none _)
      | (with_reducible refine LeO.ite ?_ ?_)
      | (with_reducible refine LeO.bind ?_ (fun _ => ?_))
      | exact ih0 _ _ _ _ _ _ _
      | exact ih1 _ _ _
      | exact ih2 _ _ _
      | exact ih3 _ _ _ _
      | exact script_Get.mono _ _
      | exact script_Put.mono _ _ _ _ _
      | exact script_Sane.mono _ _ _ _ _
      | exact LeO.none _
      | refine LeO.ite ?_ ?_
      | refine LeO.bind ?_ (fun _ => ?_)
    · intro y0 y1 y2
      unfold pentroughlaw23_ScriptBack.l0
      repeat' first
      | (with_reducible exact ih0 _ _ _ _ _ _ _)
      | (with_reducible exact ih1 _ _ _)
      | (with_reducible exact ih2 _ _ _)
      | (with_reducible exact ih3 _ _ _ _)
      | (with_reducible exact script_Get.mono _ _)
      | (with_reducible exact script_Put.mono _ _ _ _ _)
      | (with_reducible exact script_Sane.mono _ _ _ _ _)
      | (with_reducible exact LeO.refl _)
      | (with_reducible exact LeO.none _)
      | (with_reducible refine LeO.ite ?_ ?_)
      | (with_reducible refine LeO.bind ?_ (fun _ => ?_))
      | exact ih0 _ _ _ _ _ _ _
      | exact ih1 _ _ _
      | exact ih2 _ _ _
      | exact ih3 _ _ _ _
      | exact script_Get.mono _ _
      | exact script_Put.mono _ _ _ _ _
      | exact script_Sane.mono _ _ _ _ _
      | exact LeO.none _
      | refine LeO.ite ?_ ?_
      | refine LeO.bind ?_ (fun _ => ?_)
    · intro y0 y1 y2 y3
      unfold pentroughlaw23_ScriptBack.j3
      repeat' first
      | (with_reducible exact ih0 _ _ _ _ _ _ _)
      | (with_reducible exact ih1 _ _ _)
      | (with_reducible exact ih2 _ _ _)
      | (with_reducible exact ih3 _ _ _ _)
      | (with_reducible exact script_Get.mono _ _)
      | (with_reducible exact script_Put.mono _ _ _ _ _)
      | (with_reducible exact script_Sane.mono _ _ _ _ _)
      | (with_reducible exact LeO.refl _)
      | (with_reducible exact LeO.none _)
      | (with_reducible refine LeO.ite ?_ ?_)
      | (with_reducible refine LeO.bind ?_ (fun _ => ?_))
      | exact ih0 _ _ _ _ _ _ _
      | exact ih1 _ _ _
      | exact ih2 _ _ _
      | exact ih3 _ _ _ _
      | exact script_Get.mono _ _
      | exact script_Put.mono _ _ _ _ _
      | exact script_Sane.mono _ _ _ _ _
      | exact LeO.none _
      | refine LeO.ite ?_ ?_
      | refine LeO.bind ?_ (fun _ => ?_)
theorem pentroughlaw23_ScriptBack.mono : ∀ a0 a1 a2 a3 a4 k, LeO (pentroughlaw23_ScriptBack.f k a0 a1 a2 a3 a4) (pentroughlaw23_ScriptBack.f (k + 1) a0 a1 a2 a3 a4) := by
  intro a0 a1 a2 a3 a4 k
  obtain ⟨ih0, ih1, ih2, ih3⟩ := pentroughlaw23_ScriptBack.mono_l k
  unfold pentroughlaw23_ScriptBack.f
  repeat' first
      | (with_reducible exact ih0 _ _ _ _ _ _ _)
      | (with_reducible exact ih1 _ _ _)
      | (with_reducible exact ih2 _ _ _)
      | (with_reducible exact ih3 _ _ _ _)
      | (with_reducible exact script_Get.mono _ _)
      | (with_reducible exact script_Put.mono _ _ _ _ _)
      | (with_reducible exact script_Sane.mono _ _ _ _ _)
      | (with_reducible exact LeO.refl _)
      | (with_reducible exact LeO.none _)
      | (with_reducible refine LeO.ite ?_ ?_)
      | (with_reducible refine LeO.bind ?_ (fun _ => ?_))
      | exact ih0 _ _ _ _ _ _ _
      | exact ih1 _ _ _
      | exact ih2 _ _ _
      | exact ih3 _ _ _ _
      | exact script_Get.mono _ _
      | exact script_Put.mono _ _ _ _ _
      | exact script_Sane.mono _ _ _ _ _
      | exact LeO.none _
      | refine LeO.ite ?_ ?_
      | refine LeO.bind ?_ (fun _ => ?_)
def pentroughlaw23_ScriptBack.T10 : Bool × List (List Nat × List Nat) := (true, [([], []), ([0], [0]), ([1], [1]), ([2], [2]), ([2], [2]), ([4, 2], [2, 4]), ([3, 5, 2], [2, 3, 5]), ([2, 6], [2, 6]), ([7, 2], [7]), ([8], [8]), ([9, 8, 8], [8, 9]), ([8], [8]), ([10, 11, 10, 8], [8, 10, 11]), ([12, 8], [8, 12]), ([8, 13], [8, 13])])
def pentroughlaw23_ScriptBack.B10 : List Nat := [0, 1, 3, 7, 7, 23, 63, 127, 255, 511, 1023, 511, 4095, 8191, 16383]
theorem pentroughlaw23_ScriptBack.tab10 : rtab .any (opsOf Try.f3 10) = pentroughlaw23_ScriptBack.T10 := by kernel_rfl
theorem pentroughlaw23_ScriptBack.bits10 : waitsOk pentroughlaw23_ScriptBack.T10.2 pentroughlaw23_ScriptBack.B10 = true := by kernel_rfl
set_option maxHeartbeats 8000000 in
set_option maxRecDepth 100000 in
theorem pentroughlaw23_ScriptBack.calls (k : Nat) (a0_0 : Int) (a0_1 : Int) (a0_2 : Int) (A0_3 : Option Addr) (c0_3 : Nat) (l0_3 : List Int) (A1 : Option Addr) (c1 : Nat) (l1 : List Int) (r : Bool) (w : World) (hr0_3 : Kd.C (Kd.int .u8) w A0_3 l0_3.length l0_3) (hc0_3 : l0_3.length ≤ c0_3) (hr1 : Kd.C (Kd.int .u8) w A1 l1.length l1) (hc1 : l1.length ≤ c1) (h : pentroughlaw23_ScriptBack.f k a0_0 a0_1 a0_2 l0_3 l1 = some r) (HRT : Aside0 (r = true)) :
    Calls Try.prog 3 #[.agg #[.int .i64 a0_0, .int .i64 a0_1, .int .i64 a0_2, .slice A0_3 l0_3.length c0_3], .slice A1 l1.length c1] w fun e w' => e = .returned (.bool r) ∧ Below w.heap.size w w' := by
  have hu24 := Try.underlying24
  have hu27 := Try.underlying27
  have HR0_3 := Aside0.mk hr0_3
  have HC0_3 := Aside0.mk hc0_3
  clear hr0_3 hc0_3
  have HR1 := Aside0.mk hr1
  have HC1 := Aside0.mk hc1
  clear hr1 hc1
  have HB := Aside0.mk (Below.refl w.heap.size w)
  have H : ((pentroughlaw23_awake.f).bind fun t178 => (if (l0_3.length : Int) > 5000 then (pentroughlaw23_ScriptBack.j0 k l1 t178 true a0_0 a0_1 a0_2 l0_3) else (pentroughlaw23_ScriptBack.j0 k l1 t178 (decide ((l1.length : Int) > 200)) a0_0 a0_1 a0_2 l0_3))) = some r := h
  clear h
  obtain ⟨t178, A3, H⟩ := ob H
  have HC4 := Aside0.mk H
  clear H
  go_enter Try.func3, Try.ntmps3
  go_upto_region 2 with (first | ((with_reducible refine gate_dst (N := 2) rfl ?_); (try (refine gate_guard (by rfl) ?_; dsimp only)); refine box_event ?hg (N := 2) ?hd (cs := #[.int .i64 a0_0, .int .i64 a0_1, .int .i64 a0_2, .slice A0_3 l0_3.length c0_3]) (t := 24) ?hr ?_; (case hd => rfl); (case hg => rfl); (case hr => first | (go_simp; done) | (go_simp; rfl)); intro gb177 hg w5 hbox hb; have BK177 := Aside0.mk hbox; have GW177 := gE HB hg; have GE177 := gE HB hg; replace HB := hB HB hb; clear hb hbox hg) | ((with_reducible refine gate_callee (f := 9) rfl ?_); refine gL (some 15) rfl rfl Try.func9 (by kernel_rfl) rfl #[] rfl ?_; (with_reducible refine (pentroughlaw23_awake.calls  t178 _ A3.out).mono ?_); rintro e w6 ⟨rfl, hb⟩; refine ⟨_, rfl, ?_⟩; replace BK177 := kB BK177 hb; replace HB := hB HB hb; (try clear hb); (try clear hb2); (try clear hk); (try clear hi)))
  (try simp only [Act.put, List.setIfInBounds_toArray, List.set_cons_zero, List.set_cons_succ])
  go_cut [24] (fun v24 wc => ∃ (kq : Nat) (x24_3 : Bool), v24 = .bool x24_3 ∧ Aside0 (pentroughlaw23_ScriptBack.j0 kq l1 t178 x24_3 a0_0 a0_1 a0_2 l0_3 = some r) ∧ Aside0 (kq ≤ k) ∧ Aside0 (wc.heap[gb177]? = some (.cells #[.int .i64 a0_0, .int .i64 a0_1, .int .i64 a0_2, (.slice A0_3 l0_3.length c0_3)] 24 (0, 0))) ∧ Aside0 (Below w.heap.size w wc))
  case first =>
    have H := HC4.out
    clear HC4
    by_cases c7 : (l0_3.length : Int) > 5000
    · rw [if_pos c7] at H
      have c7b0 : decide (5000 < (l0_3.length : Int)) = true := decide_eq_true c7
      have c7b1 : decide (5000 < l0_3.length) = true := decide_eq_true (by omega)
      clear c7
      (first | rw [c7b0] | (simp only [i64_w, i32_w]; rw [c7b0]) | skip)
      have H' := Aside0.mk H
      clear H
      obtain ⟨hcz8_0, hcz8_1, hcz8_2, hcz8_3, hfz8_0, hfz8_1, hfz8_2, hfz8_3⟩ := bc4 BK177
      go_wp2
      go_meet
      case rel => exact ⟨_, (true), (by first | rfl | (simp; done) | (simp [*]; done)), H', ⟨by first | omega | exact Nat.le_refl _⟩, ⟨kk BK177⟩, ⟨bb HB⟩⟩
    · rw [if_neg c7] at H
      have c7b0 : decide (5000 < (l0_3.length : Int)) = false := decide_eq_false c7
      have c7b1 : decide (5000 < l0_3.length) = false := decide_eq_false (by omega)
      clear c7
      (first | rw [c7b0] | (simp only [i64_w, i32_w]; rw [c7b0]) | skip)
      have H' := Aside0.mk H
      clear H
      obtain ⟨hcz9_0, hcz9_1, hcz9_2, hcz9_3, hfz9_0, hfz9_1, hfz9_2, hfz9_3⟩ := bc4 BK177
      go_wp2
      go_meet
      case rel => exact ⟨_, (decide ((l1.length : Int) > 200)), (by first | rfl | (simp; done) | (simp [*]; done)), H', ⟨by first | omega | exact Nat.le_refl _⟩, ⟨kk BK177⟩, ⟨bb HB⟩⟩
  case rest =>
    clear HC4
    try clear c1
    try clear p2
    try clear c3
    try clear c7
    try clear c7b0
    try clear c7b1
    try clear c9
    try clear hcz8_0
    try clear hcz8_1
    try clear hcz8_2
    try clear hcz8_3
    try clear hcz9_0
    try clear hcz9_1
    try clear hcz9_2
    try clear hcz9_3
    try clear hfz8_0
    try clear hfz8_1
    try clear hfz8_2
    try clear hfz8_3
    try clear hfz9_0
    try clear hfz9_1
    try clear hfz9_2
    try clear hfz9_3
    obtain ⟨kq, x24_3, rfl, HA, HJ3, BK177, HB⟩ := hcut
    cases kq with
    | zero => exact absurd HA.out (by simp [pentroughlaw23_ScriptBack.j0])
    | succ kj3 =>
      have H := HA.out
      clear HA
      simp only [pentroughlaw23_ScriptBack.j0] at H
      by_cases c10 : x24_3 = true
      · subst c10
        rw [if_pos rfl] at H
        obtain rfl := Option.some.inj H
        go_wp2
        go_ret
        exact ⟨by first | rfl | (simp [errW_none, errW_some] <;> rfl) | (simp [*, errW_none, errW_some] <;> rfl), by repeat (first | (with_reducible first | exact HB.out | apply below_alloc | apply pw_below_drewN | apply below_drew1 | refine below_set ?_ GE177.out) | exact HB.out)⟩
      · replace c10 := Bool.eq_false_iff.mpr c10
        subst c10
        rw [if_neg nf] at H
        obtain ⟨⟨t179, t180, t181, t182⟩, A11, H⟩ := ob H
        (try dsimp only at H)
        obtain ⟨t185, A12, H⟩ := ob H
        obtain ⟨⟨t188, t189, t190, t191⟩, A13, H⟩ := ob H
        (try dsimp only at H)
        obtain ⟨t194, A14, H⟩ := ob H
        by_cases c15 : t194 = true
        · subst c15
          rw [if_pos rfl] at H
          obtain ⟨y195, hy195⟩ : ∃ y_ : List Int, y_ = (([] : List Int)) := ⟨_, rfl⟩
          replace H : (if y195.length + t185.length < 140737488355328 then ((some (y195 ++ t185 : List Int)).bind fun y198 => (if y198.length + l1.length < 140737488355328 then ((script_Get.f kj3 (y198 ++ l1)).bind fun bt204 => (if bt204.2.2.2.2.2 = 0 then (if bt204.2.2.2.2.1 = (t185.length : Int) then ((pentroughlaw23_theirs.f bt204.1 bt204.2.1 bt204.2.2.1 bt204.2.2.2.1).bind fun bt213 => ((pentroughref23_Same.f bt213.1 bt213.2.1 bt213.2.2.1 bt213.2.2.2 a0_0 a0_1 a0_2 l0_3).bind fun t219 => (pentroughlaw23_ScriptBack.j1 kj3 t178 t185 (!t219)))) else (pentroughlaw23_ScriptBack.j1 kj3 t178 t185 true)) else (pentroughlaw23_ScriptBack.j1 kj3 t178 t185 true))) else (none))) else (none)) = some r := by first | (rw [hy195]; with_reducible exact H) | (have H2_ := (Option.bind_some _ _).symm.trans H; rw [hy195]; with_reducible exact H2_) | (have H2_ := (Option.bind_some _ _).symm.trans H; with_reducible exact H2_) | with_reducible exact H | (rw [hy195]; exact H) | exact H
          have Ny195 := Aside0.mk hy195
          clear hy195
          by_cases c16 : y195.length + t185.length < 140737488355328
          · rw [if_pos c16] at H
            have LMc16 := Aside0.mk c16
            clear c16
            obtain ⟨y198, hy198⟩ : ∃ y_ : List Int, y_ = (y195 ++ t185) := ⟨_, rfl⟩
            replace H : (if y198.length + l1.length < 140737488355328 then ((script_Get.f kj3 (y198 ++ l1)).bind fun bt204 => (if bt204.2.2.2.2.2 = 0 then (if bt204.2.2.2.2.1 = (t185.length : Int) then ((pentroughlaw23_theirs.f bt204.1 bt204.2.1 bt204.2.2.1 bt204.2.2.2.1).bind fun bt213 => ((pentroughref23_Same.f bt213.1 bt213.2.1 bt213.2.2.1 bt213.2.2.2 a0_0 a0_1 a0_2 l0_3).bind fun t219 => (pentroughlaw23_ScriptBack.j1 kj3 t178 t185 (!t219)))) else (pentroughlaw23_ScriptBack.j1 kj3 t178 t185 true)) else (pentroughlaw23_ScriptBack.j1 kj3 t178 t185 true))) else (none)) = some r := by first | (rw [hy198]; with_reducible exact H) | (have H2_ := (Option.bind_some _ _).symm.trans H; rw [hy198]; with_reducible exact H2_) | (have H2_ := (Option.bind_some _ _).symm.trans H; with_reducible exact H2_) | with_reducible exact H | (rw [hy198]; exact H) | exact H
            have Ny198 := Aside0.mk hy198
            clear hy198
            by_cases c17 : y198.length + l1.length < 140737488355328
            · rw [if_pos c17] at H
              have LMc17 := Aside0.mk c17
              clear c17
              obtain ⟨y201, hy201⟩ : ∃ y_ : List Int, y_ = (y198 ++ l1) := ⟨_, rfl⟩
              replace H : ((script_Get.f kj3 y201).bind fun bt204 => (if bt204.2.2.2.2.2 = 0 then (if bt204.2.2.2.2.1 = (t185.length : Int) then ((pentroughlaw23_theirs.f bt204.1 bt204.2.1 bt204.2.2.1 bt204.2.2.2.1).bind fun bt213 => ((pentroughref23_Same.f bt213.1 bt213.2.1 bt213.2.2.1 bt213.2.2.2 a0_0 a0_1 a0_2 l0_3).bind fun t219 => (pentroughlaw23_ScriptBack.j1 kj3 t178 t185 (!t219)))) else (pentroughlaw23_ScriptBack.j1 kj3 t178 t185 true)) else (pentroughlaw23_ScriptBack.j1 kj3 t178 t185 true))) = some r := by first | (rw [hy201]; with_reducible exact H) | (have H2_ := (Option.bind_some _ _).symm.trans H; rw [hy201]; with_reducible exact H2_) | (have H2_ := (Option.bind_some _ _).symm.trans H; with_reducible exact H2_) | with_reducible exact H | (rw [hy201]; exact H) | exact H
              have Ny201 := Aside0.mk hy201
              clear hy201
              obtain ⟨⟨t204, t205, t206, t207, t210, t211⟩, A18, H⟩ := ob H
              (try dsimp only at H)
              have HC19 := Aside0.mk H
              clear H
              obtain ⟨hcz20_0, hcz20_1, hcz20_2, hcz20_3, hfz20_0, hfz20_1, hfz20_2, hfz20_3⟩ := bc4 BK177
              go_upto_region 10 with (first | ((with_reducible refine gate_callee (f := 11) rfl ?_); refine gL (some 27) rfl rfl Try.func11 (by kernel_rfl) rfl #[.agg #[.int .i64 a0_0, .int .i64 a0_1, .int .i64 a0_2, .slice A0_3 l0_3.length c0_3]] rfl ?_; (with_reducible refine (pentroughlaw23_ours.calls a0_0 a0_1 a0_2 (fun k_ => k_ < w.heap.size) _ _ l0_3 t179 t180 t181 t182 _ ?side1 A11.out).mono ?_); (case side1 => exact Kd.V_mk HC0_3.out (Kd.F_below (Kd.C_F (Kd.heap_int .u8) HR0_3.out) (bb HB))); rintro e w21 ⟨v183, rfl, ho0, hb⟩; refine ⟨_, rfl, ?_⟩; have HO184 := Aside0.mk (Kd.V_lower (Kd.V_mono (ok' := fun k_ => k_ ≠ gb177) ho0 (fun k_ hk_ => o2 hk_ (gw GW177) (Kd.freshB (kk BK177) k_))) (below_size (bb HB))); replace BK177 := kB BK177 hb; replace HB := hB HB hb; (try clear hb); (try clear hb2); (try clear hk); (try clear hi); (try clear ho0); obtain ⟨Ao22, co22, eo22⟩ := Kd.V_slice HO184.out; subst eo22) | ((with_reducible refine gate_callee (f := 10) rfl ?_); refine gL (some 28) rfl rfl Try.func10 (by kernel_rfl) rfl #[.agg #[.int .i64 t179, .int .i64 t180, .int .i64 t181, .slice Ao22 t182.length co22]] rfl ?_; (with_reducible refine (script_Put.calls kj3 t179 t180 t181 _ _ t182 t185 _ ?side1 ?side2 A12.out).mono ?_); (case side1 => exact (Kd.V_reads' (vv HO184)).2.2); (case side2 => exact (Kd.V_reads' HO184.out).2.1); rintro e w23 ⟨v186, rfl, ho0, hb⟩; refine ⟨_, rfl, ?_⟩; replace HO184 := Aside0.mk (Kd.V_elder' (vv HO184) (Kd.R_base ho0) hb); have HO187 := Aside0.mk (Kd.R_lower ho0 (below_size (bb HB))); replace BK177 := kB BK177 hb; replace HB := hB HB hb; (try clear hb); (try clear hb2); (try clear hk); (try clear hi); (try clear ho0); obtain ⟨hcz24_0, hcz24_1, hcz24_2, hcz24_3, hfz24_0, hfz24_1, hfz24_2, hfz24_3⟩ := bc4 BK177) | ((with_reducible refine gate_callee (f := 11) rfl ?_); refine gL (some 30) rfl rfl Try.func11 (by kernel_rfl) rfl #[.agg #[.int .i64 a0_0, .int .i64 a0_1, .int .i64 a0_2, .slice A0_3 l0_3.length c0_3]] rfl ?_; (with_reducible refine (pentroughlaw23_ours.calls a0_0 a0_1 a0_2 (fun k_ => k_ < w.heap.size) _ _ l0_3 t188 t189 t190 t191 _ ?side1 A13.out).mono ?_); (case side1 => exact Kd.V_mk HC0_3.out (Kd.F_below (Kd.C_F (Kd.heap_int .u8) HR0_3.out) (bb HB))); rintro e w25 ⟨v192, rfl, ho0, hb⟩; refine ⟨_, rfl, ?_⟩; replace HO184 := vB HO184 hb; have HO193 := Aside0.mk (Kd.V_lower (Kd.V_mono (ok' := fun k_ => some k_ ≠ (v186 : Value).ownBlock ∧ k_ ≠ gb177) ho0 (fun k_ hk_ => ⟨Or.elim hk_ (fun hs_ => fun e_ => Nat.not_le.2 hs_ (Kd.R_base HO187.out k_ e_.symm)) (fun hn_ => (Kd.fresh' (Kd.R_lt (by (with_reducible repeat (first | apply Kd.R_alloc | apply Kd.R_drewN | apply Kd.R_drew)); exact HO187.out)) k_ hn_)), o2 hk_ (gw GW177) (Kd.freshB (kk BK177) k_)⟩)) (below_size (bb HB))); replace HO187 := Aside0.mk (Kd.R_below (by (with_reducible repeat (first | apply Kd.R_alloc | apply Kd.R_drewN | apply Kd.R_drew)); exact HO187.out) hb); replace BK177 := kB BK177 hb; replace HB := hB HB hb; (try clear hb); (try clear hb2); (try clear hk); (try clear hi); (try clear ho0); obtain ⟨Ao26, co26, eo26⟩ := Kd.V_slice HO193.out; subst eo26) | ((with_reducible refine gate_callee (f := 12) rfl ?_); refine gL (some 31) rfl rfl Try.func12 (by kernel_rfl) rfl #[.agg #[.int .i64 t188, .int .i64 t189, .int .i64 t190, .slice Ao26 t191.length co26]] rfl ?_; (with_reducible refine (script_Sane.calls kj3 t188 t189 t190 _ _ t191 true _ ?side1 ?side2 A14.out).mono ?_); (case side1 => exact (Kd.V_reads' (vv HO193)).2.2); (case side2 => exact (Kd.V_reads' HO193.out).2.1); rintro e w27 ⟨rfl, hb⟩; refine ⟨_, rfl, ?_⟩; replace HO184 := vB HO184 hb; replace HO187 := Aside0.mk (Kd.R_below (by (with_reducible repeat (first | apply Kd.R_alloc | apply Kd.R_drewN | apply Kd.R_drew)); exact HO187.out) hb); replace HO193 := vB HO193 hb; replace BK177 := kB BK177 hb; replace HB := hB HB hb; (try clear hb); (try clear hb2); (try clear hk); (try clear hi)) | ((with_reducible refine gate_dst (N := 39) rfl ?_); (try (refine gate_guard (by rfl) ?_; dsimp only)); refine Kd.R_lit (Kd.int .u8) _ 5 ?hg (N := 39) ?hd (xs := ([] : List Int)) (inner := []) (ok := fun _ => True) (okp := fun _ => True) ?hr ?hp (fun _ hk => hk) trivial (Below.refl _ _) (Nat.le_refl _) (by simp) ?_; (case hd => rfl); (case hg => rfl); (case hr => first | (go_simp; done) | (go_simp; rfl)); (case hp => exact (Reps.none _ _)); intro v196 w28 ho29 hb hg_ hnew_; clear hg_ hnew_; (first | rw [← Ny195.out] at ho29 | (simp only [Int.reduceToNat] at ho29; rw [← Ny195.out] at ho29)); replace HO184 := Aside0.mk (Kd.V_elder' (vv HO184) (Kd.R_base ho29) hb); replace HO193 := Aside0.mk (Kd.V_elder' (vv HO193) (Kd.R_base ho29) hb); have HO197 := Aside0.mk (Kd.R_lower (Kd.R_new' ho29 (Kd.R_lt (by (with_reducible repeat (first | apply Kd.R_alloc | apply Kd.R_drewN | apply Kd.R_drew)); exact HO187.out))) (below_size (bb HB))); replace HO187 := Aside0.mk (Kd.R_elder' (by (with_reducible repeat (first | apply Kd.R_alloc | apply Kd.R_drewN | apply Kd.R_drew)); exact HO187.out) (Kd.R_base ho29) hb); replace BK177 := kB BK177 hb; replace HB := hB HB hb; clear hb ho29; obtain ⟨Ao31, co31, eo31⟩ := Kd.R_slice HO187.out; subst eo31) | ((with_reducible refine gate_builtin (b := .append) (xs := #[.tmp 39, .tmp 40]) rfl ?_); (try (refine gate_guard (by rfl) ?_; dsimp only)); at_builtin; refine Kd.R_append_rows (Kd.int .u8) (w0 := w) w.heap.size rfl (.tmp 39) (.tmp 40) 22 5 (.int .u8 0) 1 rfl Try.underlying22 info5 rfl (by decide) (by omega) v196 y195 t185 _ _ _ (fun k_ => some k_ ≠ (.slice Ao31 t185.length co31 : Value).ownBlock) (fun _ => False) rfl rfl ?aO ?aR (fun _ _ h => h) (fun _ h => h.elim) ?aF ?aB ?aS ?aL ?_; (case aR => repeat (first | exact (Kd.R_reads' HO187.out).2.2 | (with_reducible refine Kd.C_alloc ?_ _) | (with_reducible refine Kd.C_drewN ?_ _) | (with_reducible refine Kd.C_drew ?_))); (case aB => exact (bb HB)); (case aF => exact (fun k_ hk => Kd.fresh' (Kd.R_lt (by (with_reducible repeat (first | apply Kd.R_alloc | apply Kd.R_drewN | apply Kd.R_drew)); exact HO187.out)) k_ hk)); (case aO => exact (by (with_reducible repeat (first | apply Kd.R_alloc | apply Kd.R_drewN | apply Kd.R_drew)); exact Kd.R_mono HO197.out (fun _ hk => hk.2))); (case aS => exact (below_size (bb HB))); (case aL => have := LMc16.out; omega); intro v199 w30 ho hb hg hat; rw [← Ny198.out] at ho; replace BK177 := Aside0.mk (blk_grown (kk BK177) hg (Kd.R_ne HO197.out BK177.out (by decide))); replace HO184 := Aside0.mk (Kd.V_afterv (ok := (fun k_ => some k_ ≠ (.slice Ao31 t185.length co31 : Value).ownBlock ∧ k_ ≠ gb177)) (vM HO184) hg hat); replace HO187 := Aside0.mk (Kd.R_after (ok := (fun _ => True)) (by (with_reducible repeat (first | apply Kd.R_alloc | apply Kd.R_drewN | apply Kd.R_drew)); exact HO187.out) hg hat); replace HO193 := Aside0.mk (Kd.V_afterv (ok := (fun k_ => some k_ ≠ (.slice Ao31 t185.length co31 : Value).ownBlock ∧ k_ ≠ gb177)) (vv HO193) hg hat); replace HB := Aside0.mk (hb); have HO200 := Aside0.mk (ho); clear HO197; clear ho hb hg hat) | ((with_reducible refine gate_builtin (b := .append) (xs := #[.tmp 42, .tmp 43]) rfl ?_); (try (refine gate_guard (by rfl) ?_; dsimp only)); at_builtin; refine Kd.R_append_rows (Kd.int .u8) (w0 := w) w.heap.size rfl (.tmp 42) (.tmp 43) 22 5 (.int .u8 0) 1 rfl Try.underlying22 info5 rfl (by decide) (by omega) v199 y198 l1 _ _ _ (fun k_ => some k_ ≠ (.slice Ao31 t185.length co31 : Value).ownBlock) (fun _ => False) rfl rfl ?aO ?aR (fun _ _ h => h) (fun _ h => h.elim) ?aF ?aB ?aS ?aL ?_; (case aR => exact Kd.C_below HR1.out (bb HB)); (case aB => exact (bb HB)); (case aF => exact (fun k_ hk => Kd.fresh' (Kd.R_lt (by (with_reducible repeat (first | apply Kd.R_alloc | apply Kd.R_drewN | apply Kd.R_drew)); exact HO187.out)) k_ hk)); (case aO => exact (by (with_reducible repeat (first | apply Kd.R_alloc | apply Kd.R_drewN | apply Kd.R_drew)); exact HO200.out)); (case aS => exact (below_size (bb HB))); (case aL => have := LMc17.out; omega); intro v202 w32 ho hb hg hat; rw [← Ny201.out] at ho; replace BK177 := Aside0.mk (blk_grown (kk BK177) hg (Kd.R_ne HO200.out BK177.out (by decide))); replace HO184 := Aside0.mk (Kd.V_afterv (ok := (fun k_ => some k_ ≠ (.slice Ao31 t185.length co31 : Value).ownBlock ∧ k_ ≠ gb177)) (vv HO184) hg hat); replace HO187 := Aside0.mk (Kd.R_after (ok := (fun _ => True)) (by (with_reducible repeat (first | apply Kd.R_alloc | apply Kd.R_drewN | apply Kd.R_drew)); exact HO187.out) hg hat); replace HO193 := Aside0.mk (Kd.V_afterv (ok := (fun k_ => some k_ ≠ (.slice Ao31 t185.length co31 : Value).ownBlock ∧ k_ ≠ gb177)) (vv HO193) hg hat); replace HB := Aside0.mk (hb); have HO203 := Aside0.mk (ho); clear HO200; clear ho hb hg hat; obtain ⟨Ao33, co33, eo33⟩ := Kd.R_slice HO203.out; subst eo33) | ((with_reducible refine gate_callee (f := 13) rfl ?_); refine gL (some 47) rfl rfl Try.func13 (by kernel_rfl) rfl #[.slice Ao33 y201.length co33] rfl ?_; (with_reducible refine (script_Get.calls kj3 (fun k_ => some k_ = (.slice Ao33 y201.length co33 : Value).ownBlock) _ _ y201 t204 t205 t206 t207 t210 t211 _ ?side1 A18.out).mono ?_); (case side1 => exact Kd.R_V (Kd.R_tight rfl (Kd.R_types (HO203.out) BK177.out (by decide)))); rintro e w34 ⟨v208, rfl, ho0, hb⟩; refine ⟨_, rfl, ?_⟩; replace HO184 := vB HO184 hb; replace HO193 := vB HO193 hb; have HO209 := Aside0.mk (Kd.V_lower (Kd.V_mono (ok' := fun k_ => some k_ ≠ (.slice Ao31 t185.length co31 : Value).ownBlock ∧ k_ ≠ gb177) ho0 (fun k_ hk_ => ⟨Or.elim hk_ (fun hs_ => ((Kd.R_types (HO203.out) BK177.out (by decide)).1 k_ hs_.symm).1) (fun hn_ => (Kd.fresh' (Kd.R_lt (by (with_reducible repeat (first | apply Kd.R_alloc | apply Kd.R_drewN | apply Kd.R_drew)); exact HO187.out)) k_ hn_)), Or.elim hk_ (fun hs_ => ((Kd.R_types (HO203.out) BK177.out (by decide)).1 k_ hs_.symm).2) (fun hn_ => (Kd.freshB (kk BK177) k_ hn_))⟩)) (below_size (bb HB))); replace HO187 := Aside0.mk (Kd.R_below (by (with_reducible repeat (first | apply Kd.R_alloc | apply Kd.R_drewN | apply Kd.R_drew)); exact HO187.out) hb); replace HO203 := Aside0.mk (Kd.R_below (by (with_reducible repeat (first | apply Kd.R_alloc | apply Kd.R_drewN | apply Kd.R_drew)); exact HO203.out) hb); replace BK177 := kB BK177 hb; replace HB := hB HB hb; (try clear hb); (try clear hb2); (try clear hk); (try clear hi); (try clear ho0)) | ((with_reducible refine gate_dst (N := 8) rfl ?_); (try (refine gate_guard (by rfl) ?_; dsimp only)); refine box_event ?hg (N := 8) ?hd (cs := #[.int .i64 0, .int .i64 0, .int .i64 0, .slice none 0 0]) (t := 27) ?hr ?_; (case hd => rfl); (case hg => rfl); (case hr => first | (go_simp; done) | (go_simp; rfl)); intro gb212 hg w35 hbox hb; replace HO184 := vE HO184 hg hb; replace HO187 := Aside0.mk (Kd.R_below (by (with_reducible repeat (first | apply Kd.R_alloc | apply Kd.R_drewN | apply Kd.R_drew)); exact HO187.out) hb); replace HO193 := vE HO193 hg hb; replace HO203 := Aside0.mk (Kd.R_below (by (with_reducible repeat (first | apply Kd.R_alloc | apply Kd.R_drewN | apply Kd.R_drew)); exact HO203.out) hb); replace HO209 := vE HO209 hg hb; have BK212 := Aside0.mk hbox; have GW212 := gE HB hg; have GE212 := gE HB hg; replace HB := hB HB hb; have NB177_212 := nL BK177 hg; have NB212_177 := nG BK177 hg; replace BK177 := kB BK177 hb; clear hb hbox hg; have hnb36 := NB212_177.out; have hnc36 := NB177_212.out; obtain ⟨hcz37_0, hcz37_1, hcz37_2, hcz37_3, hfz37_0, hfz37_1, hfz37_2, hfz37_3⟩ := bc4 BK212; obtain ⟨Ao38, co38, eo38⟩ := Kd.V_slice HO209.out; subst eo38))
              (try simp only [Act.put, List.setIfInBounds_toArray, List.set_cons_zero, List.set_cons_succ])
              go_cut [65] (fun v65 wc => ∃ (kq : Nat) (x65_18 : Bool), v65 = .bool x65_18 ∧ Aside0 (pentroughlaw23_ScriptBack.j1 kq t178 t185 x65_18 = some r) ∧ Aside0 (kq ≤ kj3) ∧ Aside0 (Kd.R (Kd.int .u8) 5 wc w.heap.size (fun _ => True) (.slice Ao31 t185.length co31) t185) ∧ Aside0 (Kd.V (Kd.int .u8) 5 wc w.heap.size (fun k_ => some k_ ≠ ((.slice Ao31 t185.length co31) : Value).ownBlock ∧ k_ ≠ gb177 ∧ k_ ≠ gb212) (.slice Ao38 t207.length co38) t207) ∧ Aside0 (wc.heap[gb177]? = some (.cells #[.int .i64 a0_0, .int .i64 a0_1, .int .i64 a0_2, (.slice A0_3 l0_3.length c0_3)] 24 (0, 0))) ∧ Aside0 (wc.heap[gb212]? = some (.cells #[.int .i64 t204, .int .i64 t205, .int .i64 t206, (.slice Ao38 t207.length co38)] 27 (0, 0))) ∧ Aside0 (Below w.heap.size w wc))
              case first =>
                have H := HC19.out
                clear HC19
                by_cases c39 : t211 = 0
                · rw [if_pos c39] at H
                  have c39b0 : (t211 == 0) = true := beq_iff_eq.mpr c39
                  have c39b1 : (t211 != 0) = false := bne_eq_false_iff_eq.mpr c39
                  clear c39
                  (first | rw [c39b0] | (simp only [i64_w, i32_w]; rw [c39b0]) | skip)
                  by_cases c40 : t210 = (t185.length : Int)
                  · rw [if_pos c40] at H
                    have c40b0 : (t210 == (t185.length : Int)) = true := beq_iff_eq.mpr c40
                    have c40b1 : (t210 != (t185.length : Int)) = false := bne_eq_false_iff_eq.mpr c40
                    clear c40
                    obtain ⟨⟨t213, t214, t215, t216⟩, A41, H⟩ := ob H
                    (try dsimp only at H)
                    obtain ⟨t219, A42, H⟩ := ob H
                    have H' := Aside0.mk H
                    clear H
                    try go_wp2
                    have n0_ : Aside0 (Kd.V (Kd.int .u8) 5 ((((w35.setCell ⟨gb212, 0, none⟩ (.int .i64 t204)).setCell ⟨gb212, 1, none⟩ (.int .i64 t205)).setCell ⟨gb212, 2, none⟩ (.int .i64 t206)).setCell ⟨gb212, 3, none⟩ (.slice Ao38 t207.length co38)) w.heap.size (fun k_ => some k_ ≠ (.slice Ao31 t185.length co31 : Value).ownBlock ∧ some k_ ≠ (.slice Ao33 y201.length co33 : Value).ownBlock ∧ k_ ≠ gb177 ∧ k_ ≠ gb212) (.slice Ao22 t182.length co22) t182) := ⟨vX HO184⟩
                    have n1_ : Aside0 (Kd.R (Kd.int .u8) 5 ((((w35.setCell ⟨gb212, 0, none⟩ (.int .i64 t204)).setCell ⟨gb212, 1, none⟩ (.int .i64 t205)).setCell ⟨gb212, 2, none⟩ (.int .i64 t206)).setCell ⟨gb212, 3, none⟩ (.slice Ao38 t207.length co38)) w.heap.size (fun k_ => some k_ ≠ (.slice Ao33 y201.length co33 : Value).ownBlock) (.slice Ao31 t185.length co31) t185) := ⟨by (with_reducible repeat (first | apply Kd.R_alloc | apply Kd.R_drewN | apply Kd.R_drew)); exact Kd.R_mono (Kd.R_far (p := ⟨gb212, 3, none⟩) (Kd.R_far (p := ⟨gb212, 2, none⟩) (Kd.R_far (p := ⟨gb212, 1, none⟩) (Kd.R_far (p := ⟨gb212, 0, none⟩) (Kd.R_types HO187.out BK212.out (by decide)) (fun _ hk => hk.2) (.int .i64 t204)) (fun _ hk => hk.2) (.int .i64 t205)) (fun _ hk => hk.2) (.int .i64 t206)) (fun _ hk => hk.2) (.slice Ao38 t207.length co38)) (fun _ hk => hk.1.2)⟩
                    have n2_ : Aside0 (Kd.V (Kd.int .u8) 5 ((((w35.setCell ⟨gb212, 0, none⟩ (.int .i64 t204)).setCell ⟨gb212, 1, none⟩ (.int .i64 t205)).setCell ⟨gb212, 2, none⟩ (.int .i64 t206)).setCell ⟨gb212, 3, none⟩ (.slice Ao38 t207.length co38)) w.heap.size (fun k_ => some k_ ≠ (.slice Ao31 t185.length co31 : Value).ownBlock ∧ some k_ ≠ (.slice Ao33 y201.length co33 : Value).ownBlock ∧ k_ ≠ gb177 ∧ k_ ≠ gb212) (.slice Ao26 t191.length co26) t191) := ⟨vX HO193⟩
                    have n3_ : Aside0 (Kd.R (Kd.int .u8) 5 ((((w35.setCell ⟨gb212, 0, none⟩ (.int .i64 t204)).setCell ⟨gb212, 1, none⟩ (.int .i64 t205)).setCell ⟨gb212, 2, none⟩ (.int .i64 t206)).setCell ⟨gb212, 3, none⟩ (.slice Ao38 t207.length co38)) w.heap.size (fun k_ => some k_ ≠ (.slice Ao31 t185.length co31 : Value).ownBlock) (.slice Ao33 y201.length co33) y201) := ⟨by (with_reducible repeat (first | apply Kd.R_alloc | apply Kd.R_drewN | apply Kd.R_drew)); exact Kd.R_mono (Kd.R_far (p := ⟨gb212, 3, none⟩) (Kd.R_far (p := ⟨gb212, 2, none⟩) (Kd.R_far (p := ⟨gb212, 1, none⟩) (Kd.R_far (p := ⟨gb212, 0, none⟩) (Kd.R_types HO203.out BK212.out (by decide)) (fun _ hk => hk.2) (.int .i64 t204)) (fun _ hk => hk.2) (.int .i64 t205)) (fun _ hk => hk.2) (.int .i64 t206)) (fun _ hk => hk.2) (.slice Ao38 t207.length co38)) (fun _ hk => hk.1)⟩
                    have n4_ : Aside0 (Kd.V (Kd.int .u8) 5 ((((w35.setCell ⟨gb212, 0, none⟩ (.int .i64 t204)).setCell ⟨gb212, 1, none⟩ (.int .i64 t205)).setCell ⟨gb212, 2, none⟩ (.int .i64 t206)).setCell ⟨gb212, 3, none⟩ (.slice Ao38 t207.length co38)) w.heap.size (fun k_ => some k_ ≠ (.slice Ao31 t185.length co31 : Value).ownBlock ∧ k_ ≠ gb177 ∧ k_ ≠ gb212) (.slice Ao38 t207.length co38) t207) := ⟨vX HO209⟩
                    have n5_ : Aside0 (((((w35.setCell ⟨gb212, 0, none⟩ (.int .i64 t204)).setCell ⟨gb212, 1, none⟩ (.int .i64 t205)).setCell ⟨gb212, 2, none⟩ (.int .i64 t206)).setCell ⟨gb212, 3, none⟩ (.slice Ao38 t207.length co38)).heap[gb177]? = some (.cells #[.int .i64 a0_0, .int .i64 a0_1, .int .i64 a0_2, .slice A0_3 l0_3.length c0_3] 24 (0, 0))) := ⟨kX BK177⟩
                    have n6_ : Aside0 (((((w35.setCell ⟨gb212, 0, none⟩ (.int .i64 t204)).setCell ⟨gb212, 1, none⟩ (.int .i64 t205)).setCell ⟨gb212, 2, none⟩ (.int .i64 t206)).setCell ⟨gb212, 3, none⟩ (.slice Ao38 t207.length co38)).heap[gb212]? = some (.cells #[.int .i64 t204, .int .i64 t205, .int .i64 t206, .slice Ao38 t207.length co38] 27 (0, 0))) := ⟨by (with_reducible repeat (first | refine blk_drewN ?_ _ | refine blk_drew ?_ | refine blk_alloc ?_ _)); refine blk_put (cs := #[.int .i64 t204, .int .i64 t205, .int .i64 t206, .slice none 0 0]) ?_ 3 _ rfl; (with_reducible repeat (first | refine blk_drewN ?_ _ | refine blk_drew ?_ | refine blk_alloc ?_ _)); refine blk_put (cs := #[.int .i64 t204, .int .i64 t205, .int .i64 0, .slice none 0 0]) ?_ 2 _ rfl; (with_reducible repeat (first | refine blk_drewN ?_ _ | refine blk_drew ?_ | refine blk_alloc ?_ _)); refine blk_put (cs := #[.int .i64 t204, .int .i64 0, .int .i64 0, .slice none 0 0]) ?_ 1 _ rfl; (with_reducible repeat (first | refine blk_drewN ?_ _ | refine blk_drew ?_ | refine blk_alloc ?_ _)); refine blk_put (cs := #[.int .i64 0, .int .i64 0, .int .i64 0, .slice none 0 0]) ?_ 0 _ rfl; (with_reducible repeat (first | refine blk_drewN ?_ _ | refine blk_drew ?_ | refine blk_alloc ?_ _)); exact BK212.out⟩
                    have n7_ : Aside0 (Below w.heap.size w ((((w35.setCell ⟨gb212, 0, none⟩ (.int .i64 t204)).setCell ⟨gb212, 1, none⟩ (.int .i64 t205)).setCell ⟨gb212, 2, none⟩ (.int .i64 t206)).setCell ⟨gb212, 3, none⟩ (.slice Ao38 t207.length co38))) := ⟨bb HB⟩
                    (try clear HO184)
                    (try clear HO187)
                    (try clear HO193)
                    (try clear HO203)
                    (try clear HO209)
                    (try clear BK177)
                    (try clear BK212)
                    (try clear HB)
                    generalize ((((w35.setCell ⟨gb212, 0, none⟩ (.int .i64 t204)).setCell ⟨gb212, 1, none⟩ (.int .i64 t205)).setCell ⟨gb212, 2, none⟩ (.int .i64 t206)).setCell ⟨gb212, 3, none⟩ (.slice Ao38 t207.length co38)) = w43 at n0_ n1_ n2_ n3_ n4_ n5_ n6_ n7_ ⊢
                    have HO184 := n0_
                    have HO187 := n1_
                    have HO193 := n2_
                    have HO203 := n3_
                    have HO209 := n4_
                    have BK177 := n5_
                    have BK212 := n6_
                    have HB := n7_
                    clear n0_ n1_ n2_ n3_ n4_ n5_ n6_ n7_
                    replace HO184 := Aside0.mk (Kd.V_drew HO184.out)
                    replace HO187 := Aside0.mk (Kd.R_drew HO187.out)
                    replace HO193 := Aside0.mk (Kd.V_drew HO193.out)
                    replace HO203 := Aside0.mk (Kd.R_drew HO203.out)
                    replace HO209 := Aside0.mk (Kd.V_drew HO209.out)
                    replace BK177 := Aside0.mk (blk_drew BK177.out)
                    replace BK212 := Aside0.mk (blk_drew BK212.out)
                    replace HB := Aside0.mk (below_drew1 HB.out)
                    refine start_ (n := 15) (S := fun w' => w'.cell? ⟨gb212, 0, none⟩ = some (.int .i64 t204) ∧ w'.cell? ⟨gb212, 1, none⟩ = some (.int .i64 t205) ∧ w'.cell? ⟨gb212, 2, none⟩ = some (.int .i64 t206) ∧ w'.cell? ⟨gb212, 3, none⟩ = some (.slice Ao38 t207.length co38) ∧ w'.cell? ⟨gb177, 0, none⟩ = some (.int .i64 a0_0) ∧ w'.cell? ⟨gb177, 1, none⟩ = some (.int .i64 a0_1) ∧ w'.cell? ⟨gb177, 2, none⟩ = some (.int .i64 a0_2) ∧ w'.cell? ⟨gb177, 3, none⟩ = some (.slice A0_3 l0_3.length c0_3)) (ds := []) #[false, false, false, false, false, false, false, false, false, false, false, false, false, false, false] (by kernel_rfl) rfl rfl ⟨cx BK212 0, cx BK212 1, cx BK212 2, cx BK212 3, cx BK177 0, cx BK177 1, cx BK177 2, cx BK177 3⟩ (fun hHeld => ?_); refine with_tabW pentroughlaw23_ScriptBack.tab10 pentroughlaw23_ScriptBack.bits10 (fun HT_ HW_ => ?_)
                    generalize w43.drew = w44 at HO184 HO187 HO193 HO203 HO209 BK177 BK212 HB hHeld ⊢
                    refine pure_ (i := 0) (N := some 51) (v := ?_) (a' := ?_) #[true, false, false, false, false, false, false, false, false, false, false, false, false, false, false] rfl rfl (any_of HT_.out (by kernel_rfl)) (fun _ _ _ h => h) (Or.inl ⟨by rfl, ?_⟩) ?_ ?_
                    rotate_left
                    · intro w'
                      go_simp
                      with_reducible rfl
                    rotate_left
                    · simp only [Act.put, List.setIfInBounds_toArray, List.set_cons_zero, List.set_cons_succ, i64_w, i32_w]
                      rfl
                    refine pure_ (i := 1) (N := some 52) (v := ?_) (a' := ?_) #[true, true, false, false, false, false, false, false, false, false, false, false, false, false, false] rfl rfl (any_of HT_.out (by kernel_rfl)) (fun _ _ _ h => h) (Or.inl ⟨by rfl, ?_⟩) ?_ ?_
                    rotate_left
                    · intro w'
                      go_simp
                      with_reducible rfl
                    rotate_left
                    · simp only [Act.put, List.setIfInBounds_toArray, List.set_cons_zero, List.set_cons_succ, i64_w, i32_w]
                      rfl
                    refine pure_ (i := 2) (N := some 53) (v := ?_) (a' := ?_) #[true, true, true, false, false, false, false, false, false, false, false, false, false, false, false] rfl rfl (any_of HT_.out (by kernel_rfl)) (fun _ _ _ h => h) (Or.inl ⟨by rfl, ?_⟩) ?_ ?_
                    rotate_left
                    · intro w'
                      go_simp
                      with_reducible rfl
                    rotate_left
                    · simp only [Act.put, List.setIfInBounds_toArray, List.set_cons_zero, List.set_cons_succ, i64_w, i32_w]
                      rfl
                    refine pure_ (i := 3) (N := some 54) (v := ?_) (a' := ?_) #[true, true, true, true, false, false, false, false, false, false, false, false, false, false, false] rfl rfl (any_of HT_.out (by kernel_rfl)) (fun _ _ _ h => h) (Or.inl ⟨by rfl, ?_⟩) ?_ ?_
                    rotate_left
                    · intro w'
                      go_simp
                      with_reducible rfl
                    rotate_left
                    · simp only [Act.put, List.setIfInBounds_toArray, List.set_cons_zero, List.set_cons_succ, i64_w, i32_w]
                      rfl
                    refine pure_ (i := 4) (N := some 55) (v := ?_) (a' := ?_) #[true, true, true, true, true, false, false, false, false, false, false, false, false, false, false] rfl rfl (any_of HT_.out (by kernel_rfl)) (fun _ _ _ h => h) (Or.inl ⟨by rfl, ?_⟩) ?_ ?_
                    rotate_left
                    · intro w'
                      go_simp
                      with_reducible rfl
                    rotate_left
                    · simp only [Act.put, List.setIfInBounds_toArray, List.set_cons_zero, List.set_cons_succ, i64_w, i32_w]
                      rfl
                    refine pure_ (i := 5) (N := some 56) (v := ?_) (a' := ?_) #[true, true, true, true, true, true, false, false, false, false, false, false, false, false, false] rfl rfl (any_of HT_.out (by kernel_rfl)) (fun _ _ _ h => h) (Or.inl ⟨by rfl, ?_⟩) ?_ ?_
                    rotate_left
                    · intro w'
                      go_simp
                      with_reducible rfl
                    rotate_left
                    · simp only [Act.put, List.setIfInBounds_toArray, List.set_cons_zero, List.set_cons_succ, i64_w, i32_w]
                      rfl
                    refine pure_ (i := 6) (N := some 57) (v := ?_) (a' := ?_) #[true, true, true, true, true, true, true, false, false, false, false, false, false, false, false] rfl rfl (any_of HT_.out (by kernel_rfl)) (fun _ _ _ h => h) (Or.inl ⟨by rfl, ?_⟩) ?_ ?_
                    rotate_left
                    · intro w'
                      go_simp
                      with_reducible rfl
                    rotate_left
                    · simp only [Act.put, List.setIfInBounds_toArray, List.set_cons_zero, List.set_cons_succ, i64_w, i32_w]
                      rfl
                    refine pure_ (i := 7) (N := some 58) (v := ?_) (a' := ?_) #[true, true, true, true, true, true, true, true, false, false, false, false, false, false, false] rfl rfl (any_of HT_.out (by kernel_rfl)) (fun _ _ _ h => h) (Or.inl ⟨by rfl, ?_⟩) ?_ ?_
                    rotate_left
                    · intro w'
                      go_simp
                      with_reducible rfl
                    rotate_left
                    · simp only [Act.put, List.setIfInBounds_toArray, List.set_cons_zero, List.set_cons_succ, i64_w, i32_w]
                      rfl
                    refine pure_ (i := 8) (N := some 59) (v := ?_) (a' := ?_) #[true, true, true, true, true, true, true, true, true, false, false, false, false, false, false] rfl rfl (any_of HT_.out (by kernel_rfl)) (fun _ _ _ h => h) (Or.inl ⟨by rfl, ?_⟩) ?_ ?_
                    rotate_left
                    · intro w'
                      go_simp
                      with_reducible rfl
                    rotate_left
                    · simp only [Act.put, List.setIfInBounds_toArray, List.set_cons_zero, List.set_cons_succ, i64_w, i32_w]
                      rfl
                    refine take_ (i := 9) (N := some 60) (v := ?_) (a' := ?_) #[true, true, true, true, true, true, true, true, true, true, false, false, false, false, false] rfl rfl (take_ofW HT_.out HW_.out (by kernel_rfl)) (fun _ _ _ h => h) (Or.inl ⟨by rfl, ?_⟩) hHeld ?_ ?_
                    rotate_left
                    · rintro w' ⟨s0, s1, s2, s3, s4, s5, s6, s7⟩
                      go_simp
                      with_reducible rfl
                    rotate_left
                    · simp only [Act.put, List.setIfInBounds_toArray, List.set_cons_zero, List.set_cons_succ, i64_w, i32_w]
                      rfl
                    refine take_ (i := 11) (N := some 62) (v := ?_) (a' := ?_) #[true, true, true, true, true, true, true, true, true, true, false, true, false, false, false] rfl rfl (take_ofW HT_.out HW_.out (by kernel_rfl)) (fun _ _ _ h => h) (Or.inl ⟨by rfl, ?_⟩) hHeld ?_ ?_
                    rotate_left
                    · rintro w' ⟨s0, s1, s2, s3, s4, s5, s6, s7⟩
                      go_simp
                      with_reducible rfl
                    rotate_left
                    · simp only [Act.put, List.setIfInBounds_toArray, List.set_cons_zero, List.set_cons_succ, i64_w, i32_w]
                      rfl
                    refine one_ (i := 10) (N := some 61) #[true, true, true, true, true, true, true, true, true, true, true, true, false, false, false] rfl rfl (one_of HT_.out (by kernel_rfl)) (by decide) (fun K hK => ?_)
                    refine gs Try.func15 (by kernel_rfl) rfl #[.agg #[.int .i64 t204, .int .i64 t205, .int .i64 t206, .slice Ao38 t207.length co38]] (by rfl) rfl rfl ?_
                    with_reducible refine (pentroughlaw23_theirs.calls t204 t205 t206 (fun k_ => (some k_ ≠ (.slice Ao31 t185.length co31 : Value).ownBlock ∧ (k_ ≠ gb177 ∧ k_ ≠ gb212))) _ _ t207 t213 t214 t215 t216 _ ?side1 A41.out).mono ?_
                    (case side1 => exact HO209.out)
                    rintro e w45 ⟨v217, rfl, ho0, hb⟩
                    refine ⟨_, rfl, ?_⟩
                    replace HO184 := vB HO184 hb
                    replace HO193 := vB HO193 hb
                    replace HO203 := Aside0.mk (Kd.R_below (by (with_reducible repeat (first | apply Kd.R_alloc | apply Kd.R_drewN | apply Kd.R_drew)); exact HO203.out) hb)
                    replace HO209 := vB HO209 hb
                    have HO218 := Aside0.mk (Kd.V_lower (Kd.V_mono (ok' := fun k_ => some k_ ≠ (.slice Ao31 t185.length co31 : Value).ownBlock ∧ k_ ≠ gb177 ∧ k_ ≠ gb212) ho0 (fun k_ hk_ => ⟨Or.elim hk_ (fun hs_ => hs_.1) (fun hn_ => (Kd.fresh' (Kd.R_lt (by (with_reducible repeat (first | apply Kd.R_alloc | apply Kd.R_drewN | apply Kd.R_drew)); exact HO187.out)) k_ hn_)), o2 hk_ (fun h => h.2.1) (Kd.freshB (kk BK177) k_), o2 hk_ (fun h => h.2.2) (Kd.freshB (kk BK212) k_)⟩)) (below_size (bb HB)))
                    replace HO187 := Aside0.mk (Kd.R_below (by (with_reducible repeat (first | apply Kd.R_alloc | apply Kd.R_drewN | apply Kd.R_drew)); exact HO187.out) hb)
                    replace BK177 := kB BK177 hb
                    replace BK212 := kB BK212 hb
                    replace HB := hB HB hb
                    (try clear hb)
                    (try clear hb2)
                    (try clear hk)
                    (try clear hi)
                    (try clear ho0)
                    obtain ⟨Ao46, co46, eo46⟩ := Kd.V_slice HO218.out
                    (first | subst eo46 | (injection eo46 with f1_ f2_ f3_; have f4_ := f1_.symm; have f5_ := f3_.symm; clear f1_ f2_ f3_; subst f4_; subst f5_))
                    refine hK.out _ _ ⟨cx BK212 0, cx BK212 1, cx BK212 2, cx BK212 3, cx BK177 0, cx BK177 1, cx BK177 2, cx BK177 3⟩ (fun hHeld => ?_)
                    clear hK K
                    refine norm_ (a' := ?_) ?_ ?_
                    rotate_left
                    · show Act.put _ (some 61) _ = _
                      simp only [Act.put, List.setIfInBounds_toArray, List.set_cons_zero, List.set_cons_succ, i64_w, i32_w]
                      rfl
                    refine one_ (i := 12) (N := some 63) #[true, true, true, true, true, true, true, true, true, true, true, true, true, false, false] rfl rfl (one_of HT_.out (by kernel_rfl)) (by decide) (fun K hK => ?_)
                    refine gs Try.func14 (by kernel_rfl) rfl #[.agg #[.int .i64 t213, .int .i64 t214, .int .i64 t215, .slice Ao46 t216.length co46], .agg #[.int .i64 a0_0, .int .i64 a0_1, .int .i64 a0_2, .slice A0_3 l0_3.length c0_3]] (by rfl) rfl rfl ?_
                    with_reducible refine (pentroughref23_Same.calls t213 t214 t215 _ _ t216 a0_0 a0_1 a0_2 _ _ l0_3 t219 _ ?side1 ?side2 ?side3 ?side4 A42.out).mono ?_
                    (case side1 => exact (Kd.V_reads' (vv HO218)).2.2)
                    (case side2 => exact (Kd.V_reads' HO218.out).2.1)
                    (case side3 => exact Kd.C_below HR0_3.out (bb HB))
                    (case side4 => exact HC0_3.out)
                    rintro e w47 ⟨rfl, hb⟩
                    refine ⟨_, rfl, ?_⟩
                    replace HO184 := vB HO184 hb
                    replace HO187 := Aside0.mk (Kd.R_below (by (with_reducible repeat (first | apply Kd.R_alloc | apply Kd.R_drewN | apply Kd.R_drew)); exact HO187.out) hb)
                    replace HO193 := vB HO193 hb
                    replace HO203 := Aside0.mk (Kd.R_below (by (with_reducible repeat (first | apply Kd.R_alloc | apply Kd.R_drewN | apply Kd.R_drew)); exact HO203.out) hb)
                    replace HO209 := vB HO209 hb
                    replace HO218 := vB HO218 hb
                    replace BK177 := kB BK177 hb
                    replace BK212 := kB BK212 hb
                    replace HB := hB HB hb
                    (try clear hb)
                    (try clear hb2)
                    (try clear hk)
                    (try clear hi)
                    refine hK.out _ _ ⟨cx BK212 0, cx BK212 1, cx BK212 2, cx BK212 3, cx BK177 0, cx BK177 1, cx BK177 2, cx BK177 3⟩ (fun hHeld => ?_)
                    clear hK K
                    refine norm_ (a' := ?_) ?_ ?_
                    rotate_left
                    · show Act.put _ (some 63) _ = _
                      simp only [Act.put, List.setIfInBounds_toArray, List.set_cons_zero, List.set_cons_succ, i64_w, i32_w]
                      rfl
                    refine pure_ (i := 13) (N := some 64) (v := ?_) (a' := ?_) #[true, true, true, true, true, true, true, true, true, true, true, true, true, true, false] rfl rfl (any_of HT_.out (by kernel_rfl)) (fun _ _ _ h => h) (Or.inl ⟨by rfl, ?_⟩) ?_ ?_
                    rotate_left
                    · intro w'
                      go_simp
                      with_reducible rfl
                    rotate_left
                    · simp only [Act.put, List.setIfInBounds_toArray, List.set_cons_zero, List.set_cons_succ, i64_w, i32_w]
                      rfl
                    refine pure_ (i := 14) (N := some 65) (v := ?_) (a' := ?_) #[true, true, true, true, true, true, true, true, true, true, true, true, true, true, true] rfl rfl (any_of HT_.out (by kernel_rfl)) (fun _ _ _ h => h) (Or.inl ⟨by rfl, ?_⟩) ?_ ?_
                    rotate_left
                    · intro w'
                      go_simp
                      with_reducible rfl
                    rotate_left
                    · simp only [Act.put, List.setIfInBounds_toArray, List.set_cons_zero, List.set_cons_succ, i64_w, i32_w]
                      rfl
                    refine done_ (done_of HT_.out (by kernel_rfl)) ?_
                    try go_wp2
                    go_meet
                    case rel => exact ⟨_, (!t219), (by first | rfl | (simp; done) | (simp [*]; done)), H', ⟨by have := HJ3.out; first | omega | exact Nat.le_refl _⟩, ⟨by (with_reducible repeat (first | apply Kd.R_alloc | apply Kd.R_drewN | apply Kd.R_drew)); exact Kd.R_mono HO187.out (fun _ hk => trivial)⟩, ⟨vM HO209⟩, ⟨kk BK177⟩, ⟨kk BK212⟩, ⟨bb HB⟩⟩
                  · rw [if_neg c40] at H
                    have c40b0 : (t210 == (t185.length : Int)) = false := beq_eq_false_iff_ne.mpr c40
                    have c40b1 : (t210 != (t185.length : Int)) = true := bne_iff_ne.mpr c40
                    have H' := Aside0.mk H
                    clear H
                    try go_wp2
                    have n0_ : Aside0 (Kd.V (Kd.int .u8) 5 ((((w35.setCell ⟨gb212, 0, none⟩ (.int .i64 t204)).setCell ⟨gb212, 1, none⟩ (.int .i64 t205)).setCell ⟨gb212, 2, none⟩ (.int .i64 t206)).setCell ⟨gb212, 3, none⟩ (.slice Ao38 t207.length co38)) w.heap.size (fun k_ => some k_ ≠ (.slice Ao31 t185.length co31 : Value).ownBlock ∧ some k_ ≠ (.slice Ao33 y201.length co33 : Value).ownBlock ∧ k_ ≠ gb177 ∧ k_ ≠ gb212) (.slice Ao22 t182.length co22) t182) := ⟨vX HO184⟩
                    have n1_ : Aside0 (Kd.R (Kd.int .u8) 5 ((((w35.setCell ⟨gb212, 0, none⟩ (.int .i64 t204)).setCell ⟨gb212, 1, none⟩ (.int .i64 t205)).setCell ⟨gb212, 2, none⟩ (.int .i64 t206)).setCell ⟨gb212, 3, none⟩ (.slice Ao38 t207.length co38)) w.heap.size (fun k_ => some k_ ≠ (.slice Ao33 y201.length co33 : Value).ownBlock) (.slice Ao31 t185.length co31) t185) := ⟨by (with_reducible repeat (first | apply Kd.R_alloc | apply Kd.R_drewN | apply Kd.R_drew)); exact Kd.R_mono (Kd.R_far (p := ⟨gb212, 3, none⟩) (Kd.R_far (p := ⟨gb212, 2, none⟩) (Kd.R_far (p := ⟨gb212, 1, none⟩) (Kd.R_far (p := ⟨gb212, 0, none⟩) (Kd.R_types HO187.out BK212.out (by decide)) (fun _ hk => hk.2) (.int .i64 t204)) (fun _ hk => hk.2) (.int .i64 t205)) (fun _ hk => hk.2) (.int .i64 t206)) (fun _ hk => hk.2) (.slice Ao38 t207.length co38)) (fun _ hk => hk.1.2)⟩
                    have n2_ : Aside0 (Kd.V (Kd.int .u8) 5 ((((w35.setCell ⟨gb212, 0, none⟩ (.int .i64 t204)).setCell ⟨gb212, 1, none⟩ (.int .i64 t205)).setCell ⟨gb212, 2, none⟩ (.int .i64 t206)).setCell ⟨gb212, 3, none⟩ (.slice Ao38 t207.length co38)) w.heap.size (fun k_ => some k_ ≠ (.slice Ao31 t185.length co31 : Value).ownBlock ∧ some k_ ≠ (.slice Ao33 y201.length co33 : Value).ownBlock ∧ k_ ≠ gb177 ∧ k_ ≠ gb212) (.slice Ao26 t191.length co26) t191) := ⟨vX HO193⟩
                    have n3_ : Aside0 (Kd.R (Kd.int .u8) 5 ((((w35.setCell ⟨gb212, 0, none⟩ (.int .i64 t204)).setCell ⟨gb212, 1, none⟩ (.int .i64 t205)).setCell ⟨gb212, 2, none⟩ (.int .i64 t206)).setCell ⟨gb212, 3, none⟩ (.slice Ao38 t207.length co38)) w.heap.size (fun k_ => some k_ ≠ (.slice Ao31 t185.length co31 : Value).ownBlock) (.slice Ao33 y201.length co33) y201) := ⟨by (with_reducible repeat (first | apply Kd.R_alloc | apply Kd.R_drewN | apply Kd.R_drew)); exact Kd.R_mono (Kd.R_far (p := ⟨gb212, 3, none⟩) (Kd.R_far (p := ⟨gb212, 2, none⟩) (Kd.R_far (p := ⟨gb212, 1, none⟩) (Kd.R_far (p := ⟨gb212, 0, none⟩) (Kd.R_types HO203.out BK212.out (by decide)) (fun _ hk => hk.2) (.int .i64 t204)) (fun _ hk => hk.2) (.int .i64 t205)) (fun _ hk => hk.2) (.int .i64 t206)) (fun _ hk => hk.2) (.slice Ao38 t207.length co38)) (fun _ hk => hk.1)⟩
                    have n4_ : Aside0 (Kd.V (Kd.int .u8) 5 ((((w35.setCell ⟨gb212, 0, none⟩ (.int .i64 t204)).setCell ⟨gb212, 1, none⟩ (.int .i64 t205)).setCell ⟨gb212, 2, none⟩ (.int .i64 t206)).setCell ⟨gb212, 3, none⟩ (.slice Ao38 t207.length co38)) w.heap.size (fun k_ => some k_ ≠ (.slice Ao31 t185.length co31 : Value).ownBlock ∧ k_ ≠ gb177 ∧ k_ ≠ gb212) (.slice Ao38 t207.length co38) t207) := ⟨vX HO209⟩
                    have n5_ : Aside0 (((((w35.setCell ⟨gb212, 0, none⟩ (.int .i64 t204)).setCell ⟨gb212, 1, none⟩ (.int .i64 t205)).setCell ⟨gb212, 2, none⟩ (.int .i64 t206)).setCell ⟨gb212, 3, none⟩ (.slice Ao38 t207.length co38)).heap[gb177]? = some (.cells #[.int .i64 a0_0, .int .i64 a0_1, .int .i64 a0_2, .slice A0_3 l0_3.length c0_3] 24 (0, 0))) := ⟨kX BK177⟩
                    have n6_ : Aside0 (((((w35.setCell ⟨gb212, 0, none⟩ (.int .i64 t204)).setCell ⟨gb212, 1, none⟩ (.int .i64 t205)).setCell ⟨gb212, 2, none⟩ (.int .i64 t206)).setCell ⟨gb212, 3, none⟩ (.slice Ao38 t207.length co38)).heap[gb212]? = some (.cells #[.int .i64 t204, .int .i64 t205, .int .i64 t206, .slice Ao38 t207.length co38] 27 (0, 0))) := ⟨by (with_reducible repeat (first | refine blk_drewN ?_ _ | refine blk_drew ?_ | refine blk_alloc ?_ _)); refine blk_put (cs := #[.int .i64 t204, .int .i64 t205, .int .i64 t206, .slice none 0 0]) ?_ 3 _ rfl; (with_reducible repeat (first | refine blk_drewN ?_ _ | refine blk_drew ?_ | refine blk_alloc ?_ _)); refine blk_put (cs := #[.int .i64 t204, .int .i64 t205, .int .i64 0, .slice none 0 0]) ?_ 2 _ rfl; (with_reducible repeat (first | refine blk_drewN ?_ _ | refine blk_drew ?_ | refine blk_alloc ?_ _)); refine blk_put (cs := #[.int .i64 t204, .int .i64 0, .int .i64 0, .slice none 0 0]) ?_ 1 _ rfl; (with_reducible repeat (first | refine blk_drewN ?_ _ | refine blk_drew ?_ | refine blk_alloc ?_ _)); refine blk_put (cs := #[.int .i64 0, .int .i64 0, .int .i64 0, .slice none 0 0]) ?_ 0 _ rfl; (with_reducible repeat (first | refine blk_drewN ?_ _ | refine blk_drew ?_ | refine blk_alloc ?_ _)); exact BK212.out⟩
                    have n7_ : Aside0 (Below w.heap.size w ((((w35.setCell ⟨gb212, 0, none⟩ (.int .i64 t204)).setCell ⟨gb212, 1, none⟩ (.int .i64 t205)).setCell ⟨gb212, 2, none⟩ (.int .i64 t206)).setCell ⟨gb212, 3, none⟩ (.slice Ao38 t207.length co38))) := ⟨bb HB⟩
                    (try clear HO184)
                    (try clear HO187)
                    (try clear HO193)
                    (try clear HO203)
                    (try clear HO209)
                    (try clear BK177)
                    (try clear BK212)
                    (try clear HB)
                    generalize ((((w35.setCell ⟨gb212, 0, none⟩ (.int .i64 t204)).setCell ⟨gb212, 1, none⟩ (.int .i64 t205)).setCell ⟨gb212, 2, none⟩ (.int .i64 t206)).setCell ⟨gb212, 3, none⟩ (.slice Ao38 t207.length co38)) = w48 at n0_ n1_ n2_ n3_ n4_ n5_ n6_ n7_ ⊢
                    have HO184 := n0_
                    have HO187 := n1_
                    have HO193 := n2_
                    have HO203 := n3_
                    have HO209 := n4_
                    have BK177 := n5_
                    have BK212 := n6_
                    have HB := n7_
                    clear n0_ n1_ n2_ n3_ n4_ n5_ n6_ n7_
                    replace HO184 := Aside0.mk (Kd.V_drew HO184.out)
                    replace HO187 := Aside0.mk (Kd.R_drew HO187.out)
                    replace HO193 := Aside0.mk (Kd.V_drew HO193.out)
                    replace HO203 := Aside0.mk (Kd.R_drew HO203.out)
                    replace HO209 := Aside0.mk (Kd.V_drew HO209.out)
                    replace BK177 := Aside0.mk (blk_drew BK177.out)
                    replace BK212 := Aside0.mk (blk_drew BK212.out)
                    replace HB := Aside0.mk (below_drew1 HB.out)
                    refine start_ (n := 15) (S := fun w' => True) (ds := []) #[false, false, false, false, false, false, false, false, false, false, false, false, false, false, false] (by kernel_rfl) rfl rfl trivial (fun hHeld => ?_); refine with_tabW pentroughlaw23_ScriptBack.tab10 pentroughlaw23_ScriptBack.bits10 (fun HT_ HW_ => ?_)
                    generalize w48.drew = w49 at HO184 HO187 HO193 HO203 HO209 BK177 BK212 HB hHeld ⊢
                    refine pure_ (i := 0) (N := some 51) (v := ?_) (a' := ?_) #[true, false, false, false, false, false, false, false, false, false, false, false, false, false, false] rfl rfl (any_of HT_.out (by kernel_rfl)) (fun _ _ _ h => h) (Or.inl ⟨by rfl, ?_⟩) ?_ ?_
                    rotate_left
                    · intro w'
                      go_simp
                      with_reducible rfl
                    rotate_left
                    · simp only [Act.put, List.setIfInBounds_toArray, List.set_cons_zero, List.set_cons_succ, i64_w, i32_w]
                      rfl
                    refine pure_ (i := 1) (N := some 52) (v := ?_) (a' := ?_) #[true, true, false, false, false, false, false, false, false, false, false, false, false, false, false] rfl rfl (any_of HT_.out (by kernel_rfl)) (fun _ _ _ h => h) (Or.inl ⟨by rfl, ?_⟩) ?_ ?_
                    rotate_left
                    · intro w'
                      go_simp
                      with_reducible rfl
                    rotate_left
                    · simp only [Act.put, List.setIfInBounds_toArray, List.set_cons_zero, List.set_cons_succ, i64_w, i32_w]
                      rfl
                    refine pure_ (i := 2) (N := some 53) (v := ?_) (a' := ?_) #[true, true, true, false, false, false, false, false, false, false, false, false, false, false, false] rfl rfl (any_of HT_.out (by kernel_rfl)) (fun _ _ _ h => h) (Or.inl ⟨by rfl, ?_⟩) ?_ ?_
                    rotate_left
                    · intro w'
                      go_simp
                      with_reducible rfl
                    rotate_left
                    · simp only [Act.put, List.setIfInBounds_toArray, List.set_cons_zero, List.set_cons_succ, i64_w, i32_w]
                      rfl
                    refine pure_ (i := 3) (N := some 54) (v := ?_) (a' := ?_) #[true, true, true, true, false, false, false, false, false, false, false, false, false, false, false] rfl rfl (any_of HT_.out (by kernel_rfl)) (fun _ _ _ h => h) (Or.inl ⟨by rfl, ?_⟩) ?_ ?_
                    rotate_left
                    · intro w'
                      go_simp
                      with_reducible rfl
                    rotate_left
                    · simp only [Act.put, List.setIfInBounds_toArray, List.set_cons_zero, List.set_cons_succ, i64_w, i32_w]
                      rfl
                    refine pure_ (i := 4) (N := some 55) (v := ?_) (a' := ?_) #[true, true, true, true, true, false, false, false, false, false, false, false, false, false, false] rfl rfl (any_of HT_.out (by kernel_rfl)) (fun _ _ _ h => h) (Or.inl ⟨by rfl, ?_⟩) ?_ ?_
                    rotate_left
                    · intro w'
                      go_simp
                      with_reducible rfl
                    rotate_left
                    · simp only [Act.put, List.setIfInBounds_toArray, List.set_cons_zero, List.set_cons_succ, i64_w, i32_w]
                      rfl
                    refine pure_ (i := 5) (N := some 56) (v := ?_) (a' := ?_) #[true, true, true, true, true, true, false, false, false, false, false, false, false, false, false] rfl rfl (any_of HT_.out (by kernel_rfl)) (fun _ _ _ h => h) (Or.inl ⟨by rfl, ?_⟩) ?_ ?_
                    rotate_left
                    · intro w'
                      go_simp
                      with_reducible rfl
                    rotate_left
                    · simp only [Act.put, List.setIfInBounds_toArray, List.set_cons_zero, List.set_cons_succ, i64_w, i32_w]
                      rfl
                    refine pure_ (i := 6) (N := some 57) (v := ?_) (a' := ?_) #[true, true, true, true, true, true, true, false, false, false, false, false, false, false, false] rfl rfl (any_of HT_.out (by kernel_rfl)) (fun _ _ _ h => h) (Or.inl ⟨by rfl, ?_⟩) ?_ ?_
                    rotate_left
                    · intro w'
                      go_simp
                      with_reducible rfl
                    rotate_left
                    · simp only [Act.put, List.setIfInBounds_toArray, List.set_cons_zero, List.set_cons_succ, i64_w, i32_w]
                      rfl
                    refine pure_ (i := 7) (N := some 58) (v := ?_) (a' := ?_) #[true, true, true, true, true, true, true, true, false, false, false, false, false, false, false] rfl rfl (any_of HT_.out (by kernel_rfl)) (fun _ _ _ h => h) (Or.inl ⟨by rfl, ?_⟩) ?_ ?_
                    rotate_left
                    · intro w'
                      go_simp
                      with_reducible rfl
                    rotate_left
                    · simp only [Act.put, List.setIfInBounds_toArray, List.set_cons_zero, List.set_cons_succ, i64_w, i32_w]
                      rfl
                    refine pure_ (i := 8) (N := some 59) (v := ?_) (a' := ?_) #[true, true, true, true, true, true, true, true, true, false, false, false, false, false, false] rfl rfl (any_of HT_.out (by kernel_rfl)) (fun _ _ _ h => h) (Or.inl ⟨by rfl, ?_⟩) ?_ ?_
                    rotate_left
                    · intro w'
                      go_simp
                      with_reducible rfl
                    rotate_left
                    · simp only [Act.put, List.setIfInBounds_toArray, List.set_cons_zero, List.set_cons_succ, i64_w, i32_w]
                      rfl
                    refine pure_ (i := 9) (N := some 60) (v := undef) (a' := ?_) #[true, true, true, true, true, true, true, true, true, true, false, false, false, false, false] rfl rfl (any_of HT_.out (by kernel_rfl)) (fun _ _ _ h => h) (Or.inr ⟨by rfl, rfl⟩) ?_ ?_
                    rotate_left
                    · simp only [Act.put, List.setIfInBounds_toArray, List.set_cons_zero, List.set_cons_succ, i64_w, i32_w]
                      rfl
                    refine pure_ (i := 10) (N := some 61) (v := undef) (a' := ?_) #[true, true, true, true, true, true, true, true, true, true, true, false, false, false, false] rfl rfl (any_of HT_.out (by kernel_rfl)) (fun _ _ _ h => h) (Or.inr ⟨by rfl, rfl⟩) ?_ ?_
                    rotate_left
                    · simp only [Act.put, List.setIfInBounds_toArray, List.set_cons_zero, List.set_cons_succ, i64_w, i32_w]
                      rfl
                    refine pure_ (i := 11) (N := some 62) (v := undef) (a' := ?_) #[true, true, true, true, true, true, true, true, true, true, true, true, false, false, false] rfl rfl (any_of HT_.out (by kernel_rfl)) (fun _ _ _ h => h) (Or.inr ⟨by rfl, rfl⟩) ?_ ?_
                    rotate_left
                    · simp only [Act.put, List.setIfInBounds_toArray, List.set_cons_zero, List.set_cons_succ, i64_w, i32_w]
                      rfl
                    refine pure_ (i := 12) (N := some 63) (v := undef) (a' := ?_) #[true, true, true, true, true, true, true, true, true, true, true, true, true, false, false] rfl rfl (any_of HT_.out (by kernel_rfl)) (fun _ _ _ h => h) (Or.inr ⟨by rfl, rfl⟩) ?_ ?_
                    rotate_left
                    · simp only [Act.put, List.setIfInBounds_toArray, List.set_cons_zero, List.set_cons_succ, i64_w, i32_w]
                      rfl
                    refine pure_ (i := 13) (N := some 64) (v := undef) (a' := ?_) #[true, true, true, true, true, true, true, true, true, true, true, true, true, true, false] rfl rfl (any_of HT_.out (by kernel_rfl)) (fun _ _ _ h => h) (Or.inr ⟨by rfl, rfl⟩) ?_ ?_
                    rotate_left
                    · simp only [Act.put, List.setIfInBounds_toArray, List.set_cons_zero, List.set_cons_succ, i64_w, i32_w]
                      rfl
                    refine pure_ (i := 14) (N := some 65) (v := ?_) (a' := ?_) #[true, true, true, true, true, true, true, true, true, true, true, true, true, true, true] rfl rfl (any_of HT_.out (by kernel_rfl)) (fun _ _ _ h => h) (Or.inl ⟨by rfl, ?_⟩) ?_ ?_
                    rotate_left
                    · intro w'
                      go_simp
                      with_reducible rfl
                    rotate_left
                    · simp only [Act.put, List.setIfInBounds_toArray, List.set_cons_zero, List.set_cons_succ, i64_w, i32_w]
                      rfl
                    refine done_ (done_of HT_.out (by kernel_rfl)) ?_
                    try go_wp2
                    go_meet
                    case rel => exact ⟨_, (true), (by first | rfl | (simp; done) | (simp [*]; done)), H', ⟨by have := HJ3.out; first | omega | exact Nat.le_refl _⟩, ⟨by (with_reducible repeat (first | apply Kd.R_alloc | apply Kd.R_drewN | apply Kd.R_drew)); exact Kd.R_mono HO187.out (fun _ hk => trivial)⟩, ⟨vM HO209⟩, ⟨kk BK177⟩, ⟨kk BK212⟩, ⟨bb HB⟩⟩
                · rw [if_neg c39] at H
                  have c39b0 : (t211 == 0) = false := beq_eq_false_iff_ne.mpr c39
                  have c39b1 : (t211 != 0) = true := bne_iff_ne.mpr c39
                  (first | rw [c39b0] | (simp only [i64_w, i32_w]; rw [c39b0]) | skip)
                  have H' := Aside0.mk H
                  clear H
                  try go_wp2
                  have n0_ : Aside0 (Kd.V (Kd.int .u8) 5 ((((w35.setCell ⟨gb212, 0, none⟩ (.int .i64 t204)).setCell ⟨gb212, 1, none⟩ (.int .i64 t205)).setCell ⟨gb212, 2, none⟩ (.int .i64 t206)).setCell ⟨gb212, 3, none⟩ (.slice Ao38 t207.length co38)) w.heap.size (fun k_ => some k_ ≠ (.slice Ao31 t185.length co31 : Value).ownBlock ∧ some k_ ≠ (.slice Ao33 y201.length co33 : Value).ownBlock ∧ k_ ≠ gb177 ∧ k_ ≠ gb212) (.slice Ao22 t182.length co22) t182) := ⟨vX HO184⟩
                  have n1_ : Aside0 (Kd.R (Kd.int .u8) 5 ((((w35.setCell ⟨gb212, 0, none⟩ (.int .i64 t204)).setCell ⟨gb212, 1, none⟩ (.int .i64 t205)).setCell ⟨gb212, 2, none⟩ (.int .i64 t206)).setCell ⟨gb212, 3, none⟩ (.slice Ao38 t207.length co38)) w.heap.size (fun k_ => some k_ ≠ (.slice Ao33 y201.length co33 : Value).ownBlock) (.slice Ao31 t185.length co31) t185) := ⟨by (with_reducible repeat (first | apply Kd.R_alloc | apply Kd.R_drewN | apply Kd.R_drew)); exact Kd.R_mono (Kd.R_far (p := ⟨gb212, 3, none⟩) (Kd.R_far (p := ⟨gb212, 2, none⟩) (Kd.R_far (p := ⟨gb212, 1, none⟩) (Kd.R_far (p := ⟨gb212, 0, none⟩) (Kd.R_types HO187.out BK212.out (by decide)) (fun _ hk => hk.2) (.int .i64 t204)) (fun _ hk => hk.2) (.int .i64 t205)) (fun _ hk => hk.2) (.int .i64 t206)) (fun _ hk => hk.2) (.slice Ao38 t207.length co38)) (fun _ hk => hk.1.2)⟩
                  have n2_ : Aside0 (Kd.V (Kd.int .u8) 5 ((((w35.setCell ⟨gb212, 0, none⟩ (.int .i64 t204)).setCell ⟨gb212, 1, none⟩ (.int .i64 t205)).setCell ⟨gb212, 2, none⟩ (.int .i64 t206)).setCell ⟨gb212, 3, none⟩ (.slice Ao38 t207.length co38)) w.heap.size (fun k_ => some k_ ≠ (.slice Ao31 t185.length co31 : Value).ownBlock ∧ some k_ ≠ (.slice Ao33 y201.length co33 : Value).ownBlock ∧ k_ ≠ gb177 ∧ k_ ≠ gb212) (.slice Ao26 t191.length co26) t191) := ⟨vX HO193⟩
                  have n3_ : Aside0 (Kd.R (Kd.int .u8) 5 ((((w35.setCell ⟨gb212, 0, none⟩ (.int .i64 t204)).setCell ⟨gb212, 1, none⟩ (.int .i64 t205)).setCell ⟨gb212, 2, none⟩ (.int .i64 t206)).setCell ⟨gb212, 3, none⟩ (.slice Ao38 t207.length co38)) w.heap.size (fun k_ => some k_ ≠ (.slice Ao31 t185.length co31 : Value).ownBlock) (.slice Ao33 y201.length co33) y201) := ⟨by (with_reducible repeat (first | apply Kd.R_alloc | apply Kd.R_drewN | apply Kd.R_drew)); exact Kd.R_mono (Kd.R_far (p := ⟨gb212, 3, none⟩) (Kd.R_far (p := ⟨gb212, 2, none⟩) (Kd.R_far (p := ⟨gb212, 1, none⟩) (Kd.R_far (p := ⟨gb212, 0, none⟩) (Kd.R_types HO203.out BK212.out (by decide)) (fun _ hk => hk.2) (.int .i64 t204)) (fun _ hk => hk.2) (.int .i64 t205)) (fun _ hk => hk.2) (.int .i64 t206)) (fun _ hk => hk.2) (.slice Ao38 t207.length co38)) (fun _ hk => hk.1)⟩
                  have n4_ : Aside0 (Kd.V (Kd.int .u8) 5 ((((w35.setCell ⟨gb212, 0, none⟩ (.int .i64 t204)).setCell ⟨gb212, 1, none⟩ (.int .i64 t205)).setCell ⟨gb212, 2, none⟩ (.int .i64 t206)).setCell ⟨gb212, 3, none⟩ (.slice Ao38 t207.length co38)) w.heap.size (fun k_ => some k_ ≠ (.slice Ao31 t185.length co31 : Value).ownBlock ∧ k_ ≠ gb177 ∧ k_ ≠ gb212) (.slice Ao38 t207.length co38) t207) := ⟨vX HO209⟩
                  have n5_ : Aside0 (((((w35.setCell ⟨gb212, 0, none⟩ (.int .i64 t204)).setCell ⟨gb212, 1, none⟩ (.int .i64 t205)).setCell ⟨gb212, 2, none⟩ (.int .i64 t206)).setCell ⟨gb212, 3, none⟩ (.slice Ao38 t207.length co38)).heap[gb177]? = some (.cells #[.int .i64 a0_0, .int .i64 a0_1, .int .i64 a0_2, .slice A0_3 l0_3.length c0_3] 24 (0, 0))) := ⟨kX BK177⟩
                  have n6_ : Aside0 (((((w35.setCell ⟨gb212, 0, none⟩ (.int .i64 t204)).setCell ⟨gb212, 1, none⟩ (.int .i64 t205)).setCell ⟨gb212, 2, none⟩ (.int .i64 t206)).setCell ⟨gb212, 3, none⟩ (.slice Ao38 t207.length co38)).heap[gb212]? = some (.cells #[.int .i64 t204, .int .i64 t205, .int .i64 t206, .slice Ao38 t207.length co38] 27 (0, 0))) := ⟨by (with_reducible repeat (first | refine blk_drewN ?_ _ | refine blk_drew ?_ | refine blk_alloc ?_ _)); refine blk_put (cs := #[.int .i64 t204, .int .i64 t205, .int .i64 t206, .slice none 0 0]) ?_ 3 _ rfl; (with_reducible repeat (first | refine blk_drewN ?_ _ | refine blk_drew ?_ | refine blk_alloc ?_ _)); refine blk_put (cs := #[.int .i64 t204, .int .i64 t205, .int .i64 0, .slice none 0 0]) ?_ 2 _ rfl; (with_reducible repeat (first | refine blk_drewN ?_ _ | refine blk_drew ?_ | refine blk_alloc ?_ _)); refine blk_put (cs := #[.int .i64 t204, .int .i64 0, .int .i64 0, .slice none 0 0]) ?_ 1 _ rfl; (with_reducible repeat (first | refine blk_drewN ?_ _ | refine blk_drew ?_ | refine blk_alloc ?_ _)); refine blk_put (cs := #[.int .i64 0, .int .i64 0, .int .i64 0, .slice none 0 0]) ?_ 0 _ rfl; (with_reducible repeat (first | refine blk_drewN ?_ _ | refine blk_drew ?_ | refine blk_alloc ?_ _)); exact BK212.out⟩
                  have n7_ : Aside0 (Below w.heap.size w ((((w35.setCell ⟨gb212, 0, none⟩ (.int .i64 t204)).setCell ⟨gb212, 1, none⟩ (.int .i64 t205)).setCell ⟨gb212, 2, none⟩ (.int .i64 t206)).setCell ⟨gb212, 3, none⟩ (.slice Ao38 t207.length co38))) := ⟨bb HB⟩
                  (try clear HO184)
                  (try clear HO187)
                  (try clear HO193)
                  (try clear HO203)
                  (try clear HO209)
                  (try clear BK177)
                  (try clear BK212)
                  (try clear HB)
                  generalize ((((w35.setCell ⟨gb212, 0, none⟩ (.int .i64 t204)).setCell ⟨gb212, 1, none⟩ (.int .i64 t205)).setCell ⟨gb212, 2, none⟩ (.int .i64 t206)).setCell ⟨gb212, 3, none⟩ (.slice Ao38 t207.length co38)) = w50 at n0_ n1_ n2_ n3_ n4_ n5_ n6_ n7_ ⊢
                  have HO184 := n0_
                  have HO187 := n1_
                  have HO193 := n2_
                  have HO203 := n3_
                  have HO209 := n4_
                  have BK177 := n5_
                  have BK212 := n6_
                  have HB := n7_
                  clear n0_ n1_ n2_ n3_ n4_ n5_ n6_ n7_
                  replace HO184 := Aside0.mk (Kd.V_drew HO184.out)
                  replace HO187 := Aside0.mk (Kd.R_drew HO187.out)
                  replace HO193 := Aside0.mk (Kd.V_drew HO193.out)
                  replace HO203 := Aside0.mk (Kd.R_drew HO203.out)
                  replace HO209 := Aside0.mk (Kd.V_drew HO209.out)
                  replace BK177 := Aside0.mk (blk_drew BK177.out)
                  replace BK212 := Aside0.mk (blk_drew BK212.out)
                  replace HB := Aside0.mk (below_drew1 HB.out)
                  refine start_ (n := 15) (S := fun w' => True) (ds := []) #[false, false, false, false, false, false, false, false, false, false, false, false, false, false, false] (by kernel_rfl) rfl rfl trivial (fun hHeld => ?_); refine with_tabW pentroughlaw23_ScriptBack.tab10 pentroughlaw23_ScriptBack.bits10 (fun HT_ HW_ => ?_)
                  generalize w50.drew = w51 at HO184 HO187 HO193 HO203 HO209 BK177 BK212 HB hHeld ⊢
                  refine pure_ (i := 0) (N := some 51) (v := ?_) (a' := ?_) #[true, false, false, false, false, false, false, false, false, false, false, false, false, false, false] rfl rfl (any_of HT_.out (by kernel_rfl)) (fun _ _ _ h => h) (Or.inl ⟨by rfl, ?_⟩) ?_ ?_
                  rotate_left
                  · intro w'
                    go_simp
                    with_reducible rfl
                  rotate_left
                  · simp only [Act.put, List.setIfInBounds_toArray, List.set_cons_zero, List.set_cons_succ, i64_w, i32_w]
                    rfl
                  refine pure_ (i := 1) (N := some 52) (v := ?_) (a' := ?_) #[true, true, false, false, false, false, false, false, false, false, false, false, false, false, false] rfl rfl (any_of HT_.out (by kernel_rfl)) (fun _ _ _ h => h) (Or.inl ⟨by rfl, ?_⟩) ?_ ?_
                  rotate_left
                  · intro w'
                    go_simp
                    with_reducible rfl
                  rotate_left
                  · simp only [Act.put, List.setIfInBounds_toArray, List.set_cons_zero, List.set_cons_succ, i64_w, i32_w]
                    rfl
                  refine pure_ (i := 2) (N := some 53) (v := ?_) (a' := ?_) #[true, true, true, false, false, false, false, false, false, false, false, false, false, false, false] rfl rfl (any_of HT_.out (by kernel_rfl)) (fun _ _ _ h => h) (Or.inl ⟨by rfl, ?_⟩) ?_ ?_
                  rotate_left
                  · intro w'
                    go_simp
                    with_reducible rfl
                  rotate_left
                  · simp only [Act.put, List.setIfInBounds_toArray, List.set_cons_zero, List.set_cons_succ, i64_w, i32_w]
                    rfl
                  refine pure_ (i := 3) (N := some 54) (v := undef) (a' := ?_) #[true, true, true, true, false, false, false, false, false, false, false, false, false, false, false] rfl rfl (any_of HT_.out (by kernel_rfl)) (fun _ _ _ h => h) (Or.inr ⟨by rfl, rfl⟩) ?_ ?_
                  rotate_left
                  · simp only [Act.put, List.setIfInBounds_toArray, List.set_cons_zero, List.set_cons_succ, i64_w, i32_w]
                    rfl
                  refine pure_ (i := 4) (N := some 55) (v := undef) (a' := ?_) #[true, true, true, true, true, false, false, false, false, false, false, false, false, false, false] rfl rfl (any_of HT_.out (by kernel_rfl)) (fun _ _ _ h => h) (Or.inr ⟨by rfl, rfl⟩) ?_ ?_
                  rotate_left
                  · simp only [Act.put, List.setIfInBounds_toArray, List.set_cons_zero, List.set_cons_succ, i64_w, i32_w]
                    rfl
                  refine pure_ (i := 5) (N := some 56) (v := undef) (a' := ?_) #[true, true, true, true, true, true, false, false, false, false, false, false, false, false, false] rfl rfl (any_of HT_.out (by kernel_rfl)) (fun _ _ _ h => h) (Or.inr ⟨by rfl, rfl⟩) ?_ ?_
                  rotate_left
                  · simp only [Act.put, List.setIfInBounds_toArray, List.set_cons_zero, List.set_cons_succ, i64_w, i32_w]
                    rfl
                  refine pure_ (i := 6) (N := some 57) (v := undef) (a' := ?_) #[true, true, true, true, true, true, true, false, false, false, false, false, false, false, false] rfl rfl (any_of HT_.out (by kernel_rfl)) (fun _ _ _ h => h) (Or.inr ⟨by rfl, rfl⟩) ?_ ?_
                  rotate_left
                  · simp only [Act.put, List.setIfInBounds_toArray, List.set_cons_zero, List.set_cons_succ, i64_w, i32_w]
                    rfl
                  refine pure_ (i := 7) (N := some 58) (v := ?_) (a' := ?_) #[true, true, true, true, true, true, true, true, false, false, false, false, false, false, false] rfl rfl (any_of HT_.out (by kernel_rfl)) (fun _ _ _ h => h) (Or.inl ⟨by rfl, ?_⟩) ?_ ?_
                  rotate_left
                  · intro w'
                    go_simp
                    with_reducible rfl
                  rotate_left
                  · simp only [Act.put, List.setIfInBounds_toArray, List.set_cons_zero, List.set_cons_succ, i64_w, i32_w]
                    rfl
                  refine pure_ (i := 8) (N := some 59) (v := ?_) (a' := ?_) #[true, true, true, true, true, true, true, true, true, false, false, false, false, false, false] rfl rfl (any_of HT_.out (by kernel_rfl)) (fun _ _ _ h => h) (Or.inl ⟨by rfl, ?_⟩) ?_ ?_
                  rotate_left
                  · intro w'
                    go_simp
                    with_reducible rfl
                  rotate_left
                  · simp only [Act.put, List.setIfInBounds_toArray, List.set_cons_zero, List.set_cons_succ, i64_w, i32_w]
                    rfl
                  refine pure_ (i := 9) (N := some 60) (v := undef) (a' := ?_) #[true, true, true, true, true, true, true, true, true, true, false, false, false, false, false] rfl rfl (any_of HT_.out (by kernel_rfl)) (fun _ _ _ h => h) (Or.inr ⟨by rfl, rfl⟩) ?_ ?_
                  rotate_left
                  · simp only [Act.put, List.setIfInBounds_toArray, List.set_cons_zero, List.set_cons_succ, i64_w, i32_w]
                    rfl
                  refine pure_ (i := 10) (N := some 61) (v := undef) (a' := ?_) #[true, true, true, true, true, true, true, true, true, true, true, false, false, false, false] rfl rfl (any_of HT_.out (by kernel_rfl)) (fun _ _ _ h => h) (Or.inr ⟨by rfl, rfl⟩) ?_ ?_
                  rotate_left
                  · simp only [Act.put, List.setIfInBounds_toArray, List.set_cons_zero, List.set_cons_succ, i64_w, i32_w]
                    rfl
                  refine pure_ (i := 11) (N := some 62) (v := undef) (a' := ?_) #[true, true, true, true, true, true, true, true, true, true, true, true, false, false, false] rfl rfl (any_of HT_.out (by kernel_rfl)) (fun _ _ _ h => h) (Or.inr ⟨by rfl, rfl⟩) ?_ ?_
                  rotate_left
                  · simp only [Act.put, List.setIfInBounds_toArray, List.set_cons_zero, List.set_cons_succ, i64_w, i32_w]
                    rfl
                  refine pure_ (i := 12) (N := some 63) (v := undef) (a' := ?_) #[true, true, true, true, true, true, true, true, true, true, true, true, true, false, false] rfl rfl (any_of HT_.out (by kernel_rfl)) (fun _ _ _ h => h) (Or.inr ⟨by rfl, rfl⟩) ?_ ?_
                  rotate_left
                  · simp only [Act.put, List.setIfInBounds_toArray, List.set_cons_zero, List.set_cons_succ, i64_w, i32_w]
                    rfl
                  refine pure_ (i := 13) (N := some 64) (v := undef) (a' := ?_) #[true, true, true, true, true, true, true, true, true, true, true, true, true, true, false] rfl rfl (any_of HT_.out (by kernel_rfl)) (fun _ _ _ h => h) (Or.inr ⟨by rfl, rfl⟩) ?_ ?_
                  rotate_left
                  · simp only [Act.put, List.setIfInBounds_toArray, List.set_cons_zero, List.set_cons_succ, i64_w, i32_w]
                    rfl
                  refine pure_ (i := 14) (N := some 65) (v := ?_) (a' := ?_) #[true, true, true, true, true, true, true, true, true, true, true, true, true, true, true] rfl rfl (any_of HT_.out (by kernel_rfl)) (fun _ _ _ h => h) (Or.inl ⟨by rfl, ?_⟩) ?_ ?_
                  rotate_left
                  · intro w'
                    go_simp
                    with_reducible rfl
                  rotate_left
                  · simp only [Act.put, List.setIfInBounds_toArray, List.set_cons_zero, List.set_cons_succ, i64_w, i32_w]
                    rfl
                  refine done_ (done_of HT_.out (by kernel_rfl)) ?_
                  try go_wp2
                  go_meet
                  case rel => exact ⟨_, (true), (by first | rfl | (simp; done) | (simp [*]; done)), H', ⟨by have := HJ3.out; first | omega | exact Nat.le_refl _⟩, ⟨by (with_reducible repeat (first | apply Kd.R_alloc | apply Kd.R_drewN | apply Kd.R_drew)); exact Kd.R_mono HO187.out (fun _ hk => trivial)⟩, ⟨vM HO209⟩, ⟨kk BK177⟩, ⟨kk BK212⟩, ⟨bb HB⟩⟩
              case rest =>
                clear HC19
                try clear c1
                try clear p2
                try clear c3
                try clear c4
                try clear c10
                try clear c11
                try clear c12
                try clear c13
                try clear c14
                try clear c15
                try clear c16
                try clear c17
                try clear c36
                try clear c39
                try clear c39b0
                try clear c39b1
                try clear c40
                try clear c40b0
                try clear c40b1
                try clear hcz24_0
                try clear hcz24_1
                try clear hcz24_2
                try clear hcz24_3
                try clear hcz37_0
                try clear hcz37_1
                try clear hcz37_2
                try clear hcz37_3
                try clear hfz20_3
                try clear hfz24_0
                try clear hfz24_1
                try clear hfz24_2
                try clear hfz24_3
                try clear hfz37_0
                try clear hfz37_1
                try clear hfz37_2
                try clear hfz37_3
                obtain ⟨kq, x65_18, rfl, HA, HJ18, HO_6, HO_213003, BK177, BK212, HB⟩ := hcut
                cases kq with
                | zero => exact absurd HA.out (by simp [pentroughlaw23_ScriptBack.j1])
                | succ kj18 =>
                  have H := HA.out
                  clear HA
                  simp only [pentroughlaw23_ScriptBack.j1] at H
                  by_cases c52 : x65_18 = true
                  · subst c52
                    rw [if_pos rfl] at H
                    cases H; exact absurd HRT.out (by decide)
                  · replace c52 := Bool.eq_false_iff.mpr c52
                    subst c52
                    rw [if_neg nf] at H
                    have H' := Aside0.mk H
                    clear H
                    go_wp2
                    go_loopg [11] kj18 (fun kq v11 w' => ∃ (x11_3 : Int), v11 = .int .i64 x11_3 ∧ Aside0 (pentroughlaw23_ScriptBack.l0 kq t178 t185 x11_3 = some r) ∧ Aside0 (kq ≤ kj18) ∧ Aside0 (Kd.V (Kd.int .u8) 5 w' w.heap.size (fun k_ => k_ ≠ gb177 ∧ k_ ≠ gb212) (.slice Ao31 t185.length co31) t185) ∧ Aside0 (Kd.V (Kd.int .u8) 5 w' w.heap.size (fun k_ => k_ ≠ gb177 ∧ k_ ≠ gb212) (.slice Ao38 t207.length co38) t207) ∧ Aside0 (w'.heap[gb177]? = some (.cells #[.int .i64 a0_0, .int .i64 a0_1, .int .i64 a0_2, (.slice A0_3 l0_3.length c0_3)] 24 (0, 0))) ∧ Aside0 (w'.heap[gb212]? = some (.cells #[.int .i64 t204, .int .i64 t205, .int .i64 t206, (.slice Ao38 t207.length co38)] 27 (0, 0))) ∧ Aside0 (Below w.heap.size w w'))
                    case atStart => exact ⟨(0), (by first | rfl | (simp; done) | (simp [*]; done)), H', ⟨Nat.le_refl _⟩, ⟨Kd.R_V (by (with_reducible repeat (first | apply Kd.R_alloc | apply Kd.R_drewN | apply Kd.R_drew)); exact Kd.R_mono (Kd.R_types (Kd.R_types HO_6.out BK177.out (by decide)) BK212.out (by decide)) (fun _ hk => ⟨hk.1.2, hk.2⟩))⟩, ⟨vM HO_213003⟩, ⟨kk BK177⟩, ⟨kk BK212⟩, ⟨bb HB⟩⟩
                    case round =>
                      clear H'
                      try clear c1
                      try clear p2
                      try clear c3
                      try clear c4
                      try clear c5
                      try clear c10
                      try clear c11
                      try clear c12
                      try clear c13
                      try clear c14
                      try clear c15
                      try clear c16
                      try clear c17
                      try clear c36
                      try clear c39
                      try clear c39b0
                      try clear c39b1
                      try clear c40
                      try clear c40b0
                      try clear c40b1
                      try clear c52
                      try clear hcz24_0
                      try clear hcz24_1
                      try clear hcz24_2
                      try clear hcz24_3
                      try clear hcz37_0
                      try clear hcz37_1
                      try clear hcz37_2
                      try clear hcz37_3
                      try clear hfz20_3
                      try clear hfz24_0
                      try clear hfz24_1
                      try clear hfz24_2
                      try clear hfz24_3
                      try clear hfz37_0
                      try clear hfz37_1
                      try clear hfz37_2
                      try clear hfz37_3
                      try clear p2
                      obtain ⟨x11_3, rfl, HA, HK3, HO_6, HO_213003, BK177, BK212, HB⟩ := hrel
                      cases gk with
                      | zero => exact absurd HA.out (by simp [pentroughlaw23_ScriptBack.l0])
                      | succ k3 =>
                        have H := HA.out
                        clear HA
                        simp only [pentroughlaw23_ScriptBack.l0] at H
                        have HC53 := Aside0.mk H
                        clear H
                        go_upto_region 13 with (fail)
                        go_cut [73] (fun v73 wc => ∃ (kq : Nat) (x73_52 : Bool), v73 = .bool x73_52 ∧ Aside0 (pentroughlaw23_ScriptBack.j3 kq t178 t185 x11_3 x73_52 = some r) ∧ Aside0 (kq ≤ k3) ∧ Aside0 (Kd.V (Kd.int .u8) 5 wc w.heap.size (fun k_ => k_ ≠ gb177 ∧ k_ ≠ gb212) (.slice Ao31 t185.length co31) t185) ∧ Aside0 (Kd.V (Kd.int .u8) 5 wc w.heap.size (fun k_ => k_ ≠ gb177 ∧ k_ ≠ gb212) (.slice Ao38 t207.length co38) t207) ∧ Aside0 (wc.heap[gb177]? = some (.cells #[.int .i64 a0_0, .int .i64 a0_1, .int .i64 a0_2, (.slice A0_3 l0_3.length c0_3)] 24 (0, 0))) ∧ Aside0 (wc.heap[gb212]? = some (.cells #[.int .i64 t204, .int .i64 t205, .int .i64 t206, (.slice Ao38 t207.length co38)] 27 (0, 0))) ∧ Aside0 (Below w.heap.size w wc))
                        case first =>
                          have H := HC53.out
                          clear HC53
                          by_cases c54 : x11_3 < (t185.length : Int)
                          · rw [if_pos c54] at H
                            have c54b0 : decide (x11_3 < (t185.length : Int)) = true := decide_eq_true c54
                            clear c54
                            (first | rw [c54b0] | (simp only [i64_w, i32_w]; rw [c54b0]) | skip)
                            have H' := Aside0.mk H
                            clear H
                            go_wp2
                            go_meet
                            case rel => exact ⟨_, (decide (x11_3 < 40)), (by first | rfl | (simp; done) | (simp [*]; done)), H', ⟨by have := HJ3.out; have := HJ18.out; have := HK3.out; first | omega | exact Nat.le_refl _⟩, ⟨vM HO_6⟩, ⟨vM HO_213003⟩, ⟨kk BK177⟩, ⟨kk BK212⟩, ⟨bb HB⟩⟩
                          · rw [if_neg c54] at H
                            have c54b0 : decide (x11_3 < (t185.length : Int)) = false := decide_eq_false c54
                            clear c54
                            (first | rw [c54b0] | (simp only [i64_w, i32_w]; rw [c54b0]) | skip)
                            have H' := Aside0.mk H
                            clear H
                            go_wp2
                            go_meet
                            case rel => exact ⟨_, (false), (by first | rfl | (simp; done) | (simp [*]; done)), H', ⟨by have := HJ3.out; have := HJ18.out; have := HK3.out; first | omega | exact Nat.le_refl _⟩, ⟨vM HO_6⟩, ⟨vM HO_213003⟩, ⟨kk BK177⟩, ⟨kk BK212⟩, ⟨bb HB⟩⟩
                        case rest =>
                          clear HC53
                          try clear c1
                          try clear p2
                          try clear c3
                          try clear c4
                          try clear c5
                          try clear c10
                          try clear c11
                          try clear c12
                          try clear c13
                          try clear c14
                          try clear c15
                          try clear c16
                          try clear c17
                          try clear c36
                          try clear c39
                          try clear c39b0
                          try clear c39b1
                          try clear c40
                          try clear c40b0
                          try clear c40b1
                          try clear c52
                          try clear c54
                          try clear c54b0
                          try clear hcz24_0
                          try clear hcz24_1
                          try clear hcz24_2
                          try clear hcz24_3
                          try clear hcz37_0
                          try clear hcz37_1
                          try clear hcz37_2
                          try clear hcz37_3
                          try clear hfz20_3
                          try clear hfz24_0
                          try clear hfz24_1
                          try clear hfz24_2
                          try clear hfz24_3
                          try clear hfz37_0
                          try clear hfz37_1
                          try clear hfz37_2
                          try clear hfz37_3
                          try clear p2
                          obtain ⟨kq, x73_52, rfl, HA, HJ52, HO_6, HO_213003, BK177, BK212, HB⟩ := hcut
                          cases kq with
                          | zero => exact absurd HA.out (by simp [pentroughlaw23_ScriptBack.j3])
                          | succ kj52 =>
                            have H := HA.out
                            clear HA
                            simp only [pentroughlaw23_ScriptBack.j3] at H
                            by_cases c55 : x73_52 = true
                            · subst c55
                              rw [if_pos rfl] at H
                              by_cases c56 : 0 ≤ x11_3
                              · rw [if_pos c56] at H
                                have c56b0 := eq_true c56
                                have c56b1 : decide (0 ≤ x11_3) = true := decide_eq_true c56
                                clear c56
                                by_cases c57 : x11_3 ≤ (t185.length : Int)
                                · rw [if_pos c57] at H
                                  have c57b0 := eq_true c57
                                  have c57b1 : decide (x11_3 ≤ (t185.length : Int)) = true := decide_eq_true c57
                                  clear c57
                                  obtain ⟨y220, hy220⟩ : ∃ y_ : List Int, y_ = (t185.take (x11_3 : Int).toNat) := ⟨_, rfl⟩
                                  replace H : ((script_Get.f kj52 y220).bind fun bt225 => (if bt225.2.2.2.2.2 = 1 then (if bt225.2.2.2.2.1 = 0 then ((pentroughlaw23_theirs.f bt225.1 bt225.2.1 bt225.2.2.1 bt225.2.2.2.1).bind fun bt234 => ((pentroughref23_Same.f bt234.1 bt234.2.1 bt234.2.2.1 bt234.2.2.2 0 0 0 ([] : List Int)).bind fun t240 => (if t240 = true then (pentroughlaw23_ScriptBack.l0 kj52 t178 t185 (wrap64 (x11_3 + 1))) else (some false)))) else (some false)) else (some false))) = some r := by first | (rw [hy220]; with_reducible exact H) | (have H2_ := (Option.bind_some _ _).symm.trans H; rw [hy220]; with_reducible exact H2_) | (have H2_ := (Option.bind_some _ _).symm.trans H; with_reducible exact H2_) | with_reducible exact H | (rw [hy220]; exact H) | exact H
                                  have Ny220 := Aside0.mk hy220
                                  clear hy220
                                  obtain ⟨⟨t225, t226, t227, t228, t231, t232⟩, A58, H⟩ := ob H
                                  (try dsimp only at H)
                                  by_cases c59 : t232 = 1
                                  · rw [if_pos c59] at H
                                    have c59b0 : (t232 == 1) = true := beq_iff_eq.mpr c59
                                    have c59b1 : (t232 != 1) = false := bne_eq_false_iff_eq.mpr c59
                                    clear c59
                                    by_cases c60 : t231 = 0
                                    · rw [if_pos c60] at H
                                      have c60b0 : (t231 == 0) = true := beq_iff_eq.mpr c60
                                      have c60b1 : (t231 != 0) = false := bne_eq_false_iff_eq.mpr c60
                                      clear c60
                                      obtain ⟨⟨t234, t235, t236, t237⟩, A61, H⟩ := ob H
                                      (try dsimp only at H)
                                      obtain ⟨t240, A62, H⟩ := ob H
                                      by_cases c63 : t240 = true
                                      · subst c63
                                        rw [if_pos rfl] at H
                                        have H' := Aside0.mk H
                                        clear H
                                        have q64 : (x11_3 : Int) ≤ ((t185.length : Int) : Int) := of_decide_eq_true (by first | (with_reducible assumption) | assumption)
                                        obtain ⟨i064, hi064, _, hsz64, _⟩ := info_parts info5
                                        have hroom64 : t185.length ≤ co31 := (Kd.V_reads' HO_6.out).2.1
                                        have hC64 : Kd.F (Kd.int .u8) _ _ Ao31 t185.length t185 := (Kd.V_at (base := w.heap.size) HO_6.out).2.2
                                        have hcut64 := cut_to (P := Try.prog) 22 5 .i64 Try.underlying22 hi064 Ao31 t185.length co31 x11_3 (of_decide_eq_true (by first | (with_reducible assumption) | assumption)) q64 hroom64
                                        have hr64 := Kd.F_take (m := (x11_3 : Int).toNat) hC64 (by omega)
                                        have hy64 : y220.length = (x11_3 : Int).toNat := (by rw [Ny220.out, List.length_take]; omega)
                                        rw [← Ny220.out] at hr64
                                        rw [← hy64] at hcut64
                                        have HO224 := Aside0.mk (show Kd.V (Kd.int .u8) 5 _ w.heap.size _ (.slice Ao31 y220.length co31) y220 from Kd.V_mk (by omega) hr64)
                                        have HC224 := Aside0.mk (show y220.length ≤ co31 from by omega)
                                        clear hr64 hC64 hroom64 hi064 hsz64
                                        have KY64 := Aside0.mk hy64
                                        clear hy64
                                        replace q64 := eq_true q64
                                        go_wp2_with (first | ((with_reducible refine gate_callee (f := 13) rfl ?_); refine gL (some 80) rfl rfl Try.func13 (by kernel_rfl) rfl #[.slice Ao31 y220.length co31] rfl ?_; (with_reducible refine (script_Get.calls kj52 (fun k_ => (k_ ≠ gb177 ∧ k_ ≠ gb212)) _ _ y220 t225 t226 t227 t228 t231 t232 _ ?side1 A58.out).mono ?_); (case side1 => exact HO224.out); rintro e w65 ⟨v229, rfl, ho0, hb⟩; refine ⟨_, rfl, ?_⟩; replace HO_6 := vB HO_6 hb; replace HO_213003 := vB HO_213003 hb; replace HO224 := vB HO224 hb; have HO230 := Aside0.mk (Kd.V_lower (Kd.V_mono (ok' := fun k_ => k_ ≠ gb177 ∧ k_ ≠ gb212) ho0 (fun k_ hk_ => ⟨o2 hk_ (fun h => h.1) (Kd.freshB (kk BK177) k_), o2 hk_ (fun h => h.2) (Kd.freshB (kk BK212) k_)⟩)) (below_size (bb HB))); replace BK177 := kB BK177 hb; replace BK212 := kB BK212 hb; replace HB := hB HB hb; (try clear hb); (try clear hb2); (try clear hk); (try clear hi); (try clear ho0)) | ((with_reducible refine gate_dst (N := 12) rfl ?_); (try (refine gate_guard (by rfl) ?_; dsimp only)); refine box_event ?hg (N := 12) ?hd (cs := #[.int .i64 0, .int .i64 0, .int .i64 0, .slice none 0 0]) (t := 27) ?hr ?_; (case hd => rfl); (case hg => rfl); (case hr => first | (go_simp; done) | (go_simp; rfl)); intro gb233 hg w66 hbox hb; replace HO_6 := vE HO_6 hg hb; replace HO_213003 := vE HO_213003 hg hb; replace HO224 := vE HO224 hg hb; replace HO230 := vE HO230 hg hb; have BK233 := Aside0.mk hbox; have GW233 := gE HB hg; have GE233 := gE HB hg; replace HB := hB HB hb; have NB177_233 := nL BK177 hg; have NB233_177 := nG BK177 hg; replace BK177 := kB BK177 hb; have NB212_233 := nL BK212 hg; have NB233_212 := nG BK212 hg; replace BK212 := kB BK212 hb; clear hb hbox hg; have hnb67 := NB233_177.out; have hnc67 := NB177_233.out; have hnb68 := NB233_212.out; have hnc68 := NB212_233.out; obtain ⟨hcz69_0, hcz69_1, hcz69_2, hcz69_3, hfz69_0, hfz69_1, hfz69_2, hfz69_3⟩ := bc4 BK233; obtain ⟨Ao70, co70, eo70⟩ := Kd.V_slice HO230.out; subst eo70) | ((with_reducible refine gate_store (t := 27) (p := 12) rfl ?_); refine store_event (t := 27) (p := 12) (v := ?vo_w71) (w1 := ((((w66.setCell ⟨gb233, 0, none⟩ (.int .i64 t225)).setCell ⟨gb233, 1, none⟩ (.int .i64 t226)).setCell ⟨gb233, 2, none⟩ (.int .i64 t227)).setCell ⟨gb233, 3, none⟩ (.slice Ao70 t228.length co70))) ?hg ?ho ?hn ?hr ?_; (case ho => rfl); (case hg => rfl); (case hn => rfl); (case hr => first | (go_simp; done) | (go_simp; rfl)); intro w71 hw; replace HO_6 := vS (fun k_ => k_ ≠ gb177 ∧ k_ ≠ gb212 ∧ k_ ≠ gb233) HO_6 hw; replace HO_213003 := vS (fun k_ => k_ ≠ gb177 ∧ k_ ≠ gb212 ∧ k_ ≠ gb233) HO_213003 hw; replace HO224 := vS (fun k_ => k_ ≠ gb177 ∧ k_ ≠ gb212 ∧ k_ ≠ gb233) HO224 hw; replace HO230 := vS (fun k_ => k_ ≠ gb177 ∧ k_ ≠ gb212 ∧ k_ ≠ gb233) HO230 hw; replace BK177 := kS BK177 hw; replace BK212 := kS BK212 hw; replace BK233 := kP4 BK233 hw; replace HB : Aside0 (Below w.heap.size w w71) := ⟨(by rw [hw]; exact (bb HB))⟩; clear hw; obtain ⟨hcz72_0, hcz72_1, hcz72_2, hcz72_3, hfz72_0, hfz72_1, hfz72_2, hfz72_3⟩ := bc4 BK233) | (go_at_call 15; (with_reducible refine (pentroughlaw23_theirs.calls t225 t226 t227 (fun k_ => (k_ ≠ gb177 ∧ (k_ ≠ gb212 ∧ k_ ≠ gb233))) _ _ t228 t234 t235 t236 t237 _ ?side1 A61.out).mono ?_); (case side1 => exact HO230.out); rintro e w73 ⟨v238, rfl, ho0, hb⟩; replace HO_6 := vB HO_6 hb; replace HO_213003 := vB HO_213003 hb; replace HO224 := vB HO224 hb; replace HO230 := vB HO230 hb; have HO239 := Aside0.mk (Kd.V_lower (Kd.V_mono (ok' := fun k_ => k_ ≠ gb177 ∧ k_ ≠ gb212 ∧ k_ ≠ gb233) ho0 (fun k_ hk_ => ⟨o2 hk_ (fun h => h.1) (Kd.freshB (kk BK177) k_), o2 hk_ (fun h => h.2.1) (Kd.freshB (kk BK212) k_), o2 hk_ (fun h => h.2.2) (Kd.freshB (kk BK233) k_)⟩)) (below_size (bb HB))); replace BK177 := kB BK177 hb; replace BK212 := kB BK212 hb; replace BK233 := kB BK233 hb; replace HB := hB HB hb; (try clear hb); (try clear hb2); (try clear hk); (try clear hi); (try clear ho0); obtain ⟨Ao74, co74, eo74⟩ := Kd.V_slice HO239.out; subst eo74) | (go_at_call 14; (refine (pentroughref23_Same.calls t234 t235 t236 _ _ t237 0 0 0 _ _ ([] : List Int) true _ ?side1 ?side2 ?side3 ?side4 A62.out).mono ?_); (case side1 => exact (Kd.V_reads' (vv HO239)).2.2); (case side2 => exact (Kd.V_reads' HO239.out).2.1); (case side3 => exact Kd.C_nil _ _); (case side4 => exact Nat.le_refl _); rintro e w75 ⟨rfl, hb⟩; replace HO_6 := vB HO_6 hb; replace HO_213003 := vB HO_213003 hb; replace HO224 := vB HO224 hb; replace HO230 := vB HO230 hb; replace HO239 := vB HO239 hb; replace BK177 := kB BK177 hb; replace BK212 := kB BK212 hb; replace BK233 := kB BK233 hb; replace HB := hB HB hb; (try clear hb); (try clear hb2); (try clear hk); (try clear hi)))
                                        go_roundg kj52
                                        case measure => have := HJ3.out; have := HJ18.out; have := HK3.out; have := HJ52.out; omega
                                        case rel => exact ⟨(wrap64 (x11_3 + 1)), (by first | rfl | (simp; done) | (simp [*]; done)), H', ⟨by have := HJ3.out; have := HJ18.out; have := HK3.out; have := HJ52.out; omega⟩, ⟨vM HO_6⟩, ⟨vM HO_213003⟩, ⟨kk BK177⟩, ⟨kk BK212⟩, ⟨bb HB⟩⟩
                                      · replace c63 := Bool.eq_false_iff.mpr c63
                                        subst c63
                                        rw [if_neg nf] at H
                                        cases H; exact absurd HRT.out (by decide)
                                    · rw [if_neg c60] at H
                                      cases H; exact absurd HRT.out (by decide)
                                  · rw [if_neg c59] at H
                                    cases H; exact absurd HRT.out (by decide)
                                · rw [if_neg c57] at H
                                  exact absurd H (by simp)
                              · rw [if_neg c56] at H
                                exact absurd H (by simp)
                            · replace c55 := Bool.eq_false_iff.mpr c55
                              subst c55
                              rw [if_neg nf] at H
                              by_cases c76 : t178 = true
                              · subst c76
                                rw [if_pos rfl] at H
                                obtain rfl := Option.some.inj H
                                go_wp2
                                go_ret
                                exact ⟨by first | rfl | (simp [errW_none, errW_some] <;> rfl) | (simp [*, errW_none, errW_some] <;> rfl), by repeat (first | (with_reducible first | exact HB.out | apply below_alloc | apply pw_below_drewN | apply below_drew1 | refine below_set ?_ GE177.out | refine below_set ?_ GE212.out) | exact HB.out)⟩
                              · replace c76 := Bool.eq_false_iff.mpr c76
                                subst c76
                                rw [if_neg nf] at H
                                cases H; exact absurd HRT.out (by decide)
            · rw [if_neg c17] at H
              exact absurd H (by simp)
          · rw [if_neg c16] at H
            exact absurd H (by simp)
        · replace c15 := Bool.eq_false_iff.mpr c15
          subst c15
          rw [if_neg nf] at H
          by_cases c77 : t178 = true
          · subst c77
            rw [if_pos rfl] at H
            obtain rfl := Option.some.inj H
            obtain ⟨hcz78_0, hcz78_1, hcz78_2, hcz78_3, hfz78_0, hfz78_1, hfz78_2, hfz78_3⟩ := bc4 BK177
            go_wp2_with (first | ((with_reducible refine gate_callee (f := 11) rfl ?_); refine gL (some 27) rfl rfl Try.func11 (by kernel_rfl) rfl #[.agg #[.int .i64 a0_0, .int .i64 a0_1, .int .i64 a0_2, .slice A0_3 l0_3.length c0_3]] rfl ?_; (with_reducible refine (pentroughlaw23_ours.calls a0_0 a0_1 a0_2 (fun k_ => k_ < w.heap.size) _ _ l0_3 t179 t180 t181 t182 _ ?side1 A11.out).mono ?_); (case side1 => exact Kd.V_mk HC0_3.out (Kd.F_below (Kd.C_F (Kd.heap_int .u8) HR0_3.out) (bb HB))); rintro e w79 ⟨v183, rfl, ho0, hb⟩; refine ⟨_, rfl, ?_⟩; have HO184 := Aside0.mk (Kd.V_lower (Kd.V_mono (ok' := fun k_ => k_ ≠ gb177) ho0 (fun k_ hk_ => o2 hk_ (gw GW177) (Kd.freshB (kk BK177) k_))) (below_size (bb HB))); replace BK177 := kB BK177 hb; replace HB := hB HB hb; (try clear hb); (try clear hb2); (try clear hk); (try clear hi); (try clear ho0); obtain ⟨Ao80, co80, eo80⟩ := Kd.V_slice HO184.out; subst eo80) | ((with_reducible refine gate_callee (f := 10) rfl ?_); refine gL (some 28) rfl rfl Try.func10 (by kernel_rfl) rfl #[.agg #[.int .i64 t179, .int .i64 t180, .int .i64 t181, .slice Ao80 t182.length co80]] rfl ?_; (with_reducible refine (script_Put.calls kj3 t179 t180 t181 _ _ t182 t185 _ ?side1 ?side2 A12.out).mono ?_); (case side1 => exact (Kd.V_reads' (vv HO184)).2.2); (case side2 => exact (Kd.V_reads' HO184.out).2.1); rintro e w81 ⟨v186, rfl, ho0, hb⟩; refine ⟨_, rfl, ?_⟩; replace HO184 := Aside0.mk (Kd.V_elder' (vv HO184) (Kd.R_base ho0) hb); have HO187 := Aside0.mk (Kd.R_lower ho0 (below_size (bb HB))); replace BK177 := kB BK177 hb; replace HB := hB HB hb; (try clear hb); (try clear hb2); (try clear hk); (try clear hi); (try clear ho0); obtain ⟨hcz82_0, hcz82_1, hcz82_2, hcz82_3, hfz82_0, hfz82_1, hfz82_2, hfz82_3⟩ := bc4 BK177) | ((with_reducible refine gate_callee (f := 11) rfl ?_); refine gL (some 30) rfl rfl Try.func11 (by kernel_rfl) rfl #[.agg #[.int .i64 a0_0, .int .i64 a0_1, .int .i64 a0_2, .slice A0_3 l0_3.length c0_3]] rfl ?_; (with_reducible refine (pentroughlaw23_ours.calls a0_0 a0_1 a0_2 (fun k_ => k_ < w.heap.size) _ _ l0_3 t188 t189 t190 t191 _ ?side1 A13.out).mono ?_); (case side1 => exact Kd.V_mk HC0_3.out (Kd.F_below (Kd.C_F (Kd.heap_int .u8) HR0_3.out) (bb HB))); rintro e w83 ⟨v192, rfl, ho0, hb⟩; refine ⟨_, rfl, ?_⟩; replace HO184 := vB HO184 hb; have HO193 := Aside0.mk (Kd.V_lower (Kd.V_mono (ok' := fun k_ => some k_ ≠ (v186 : Value).ownBlock ∧ k_ ≠ gb177) ho0 (fun k_ hk_ => ⟨Or.elim hk_ (fun hs_ => fun e_ => Nat.not_le.2 hs_ (Kd.R_base HO187.out k_ e_.symm)) (fun hn_ => (Kd.fresh' (Kd.R_lt (by (with_reducible repeat (first | apply Kd.R_alloc | apply Kd.R_drewN | apply Kd.R_drew)); exact HO187.out)) k_ hn_)), o2 hk_ (gw GW177) (Kd.freshB (kk BK177) k_)⟩)) (below_size (bb HB))); replace HO187 := Aside0.mk (Kd.R_below (by (with_reducible repeat (first | apply Kd.R_alloc | apply Kd.R_drewN | apply Kd.R_drew)); exact HO187.out) hb); replace BK177 := kB BK177 hb; replace HB := hB HB hb; (try clear hb); (try clear hb2); (try clear hk); (try clear hi); (try clear ho0); obtain ⟨Ao84, co84, eo84⟩ := Kd.V_slice HO193.out; subst eo84) | ((with_reducible refine gate_callee (f := 12) rfl ?_); refine gL (some 31) rfl rfl Try.func12 (by kernel_rfl) rfl #[.agg #[.int .i64 t188, .int .i64 t189, .int .i64 t190, .slice Ao84 t191.length co84]] rfl ?_; (with_reducible refine (script_Sane.calls kj3 t188 t189 t190 _ _ t191 false _ ?side1 ?side2 A14.out).mono ?_); (case side1 => exact (Kd.V_reads' (vv HO193)).2.2); (case side2 => exact (Kd.V_reads' HO193.out).2.1); rintro e w85 ⟨rfl, hb⟩; refine ⟨_, rfl, ?_⟩; replace HO184 := vB HO184 hb; replace HO187 := Aside0.mk (Kd.R_below (by (with_reducible repeat (first | apply Kd.R_alloc | apply Kd.R_drewN | apply Kd.R_drew)); exact HO187.out) hb); replace HO193 := vB HO193 hb; replace BK177 := kB BK177 hb; replace HB := hB HB hb; (try clear hb); (try clear hb2); (try clear hk); (try clear hi); obtain ⟨Ao86, co86, eo86⟩ := Kd.R_slice HO187.out; subst eo86))
            go_ret
            exact ⟨by first | rfl | (simp [errW_none, errW_some] <;> rfl) | (simp [*, errW_none, errW_some] <;> rfl), by repeat (first | (with_reducible first | exact HB.out | apply below_alloc | apply pw_below_drewN | apply below_drew1 | refine below_set ?_ GE177.out) | exact HB.out)⟩
          · replace c77 := Bool.eq_false_iff.mpr c77
            subst c77
            rw [if_neg nf] at H
            cases H; exact absurd HRT.out (by decide)

end Go.Proofs.Ytdnglfodlhhikaa.Q
