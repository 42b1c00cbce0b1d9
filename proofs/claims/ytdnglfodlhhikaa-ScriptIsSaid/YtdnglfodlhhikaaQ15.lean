-- Laid by mix.py, a program of this session, with the kit's print.py; walks by hand come out of wip/over.
import Derived.Test.YtdnglfodlhhikaaShort
import Derived.Test.YtdnglfodlhhikaaQ0
import Derived.Test.YtdnglfodlhhikaaQ2
import Derived.Test.YtdnglfodlhhikaaQ4
import Derived.Test.YtdnglfodlhhikaaQ6
import Derived.Test.YtdnglfodlhhikaaQ7
import Derived.Test.YtdnglfodlhhikaaQ10
import Derived.Test.YtdnglfodlhhikaaQ11
import Derived.Test.YtdnglfodlhhikaaQ12
import Derived.Test.YtdnglfodlhhikaaQ14
namespace Go.Proofs.Ytdnglfodlhhikaa.Q
open Go.RowKit Go.Proofs.YtdnglfodlhhikaaW.PrintWords Go.Proofs.YtdnglfodlhhikaaW.PrintLast Go.Proofs.YtdnglfodlhhikaaW.PrintMore Go.Proofs.YtdnglfodlhhikaaW.Sh
attribute [local go_sem] max2_int min2_int max_two min_two max_three min_three max_four min_four   -- for this text's walks alone
set_option linter.unusedVariables false
set_option linter.unusedSimpArgs false

/-! ### pentroughlaw23_ScriptIs: function 6 -/
mutual
def pentroughlaw23_ScriptIs.j0 : Nat → List Int → Bool → Bool → Int → Int → Int → List Int → Option (Bool)
  | 0, _, _, _, _, _, _, _ => none
  | k + 1, x1, x5, x28, x292000, x292001, x292002, x292003 => if x28 = true then (some x5) else ((script_Get.f k x1).bind fun bt293 => ((pentroughref23_Get.f k x1).bind fun bt302 => (if bt293.2.2.2.2.1 = bt302.2.2.2.2.1 then (if bt293.2.2.2.2.2 = bt302.2.2.2.2.2 then ((pentroughlaw23_theirs.f bt293.1 bt293.2.1 bt293.2.2.1 bt293.2.2.2.1).bind fun bt311 => ((pentroughref23_Same.f bt311.1 bt311.2.1 bt311.2.2.1 bt311.2.2.2 bt302.1 bt302.2.1 bt302.2.2.1 bt302.2.2.2.1).bind fun t317 => (pentroughlaw23_ScriptIs.j1 k x1 x5 (!t317) x292000 x292001 x292002 x292003))) else (pentroughlaw23_ScriptIs.j1 k x1 x5 true x292000 x292001 x292002 x292003)) else (pentroughlaw23_ScriptIs.j1 k x1 x5 true x292000 x292001 x292002 x292003))))
def pentroughlaw23_ScriptIs.j1 : Nat → List Int → Bool → Bool → Int → Int → Int → List Int → Option (Bool)
  | 0, _, _, _, _, _, _, _ => none
  | k + 1, x1, x5, x56, x292000, x292001, x292002, x292003 => if x56 = true then (some false) else ((script_All.f k x1).bind fun bt318 => ((pentroughref23_All.f k x1).bind fun bt323 => (if (bt318.1.length : Int) = (bt323.1.length : Int) then (if bt318.2.1 = bt323.2.1 then (pentroughlaw23_ScriptIs.j2 k x5 bt318.1 bt323.1 (bt318.2.2 != bt323.2.2) x292000 x292001 x292002 x292003) else (pentroughlaw23_ScriptIs.j2 k x5 bt318.1 bt323.1 true x292000 x292001 x292002 x292003)) else (pentroughlaw23_ScriptIs.j2 k x5 bt318.1 bt323.1 true x292000 x292001 x292002 x292003))))
def pentroughlaw23_ScriptIs.j2 : Nat → Bool → List (S27) → List (S24) → Bool → Int → Int → Int → List Int → Option (Bool)
  | 0, _, _, _, _, _, _, _, _ => none
  | k + 1, x5, x12, x15, x83, x292000, x292001, x292002, x292003 => if x83 = true then (some false) else (pentroughlaw23_ScriptIs.l0 k x5 x12 x15 0 x292000 x292001 x292002 x292003)
def pentroughlaw23_ScriptIs.l0 : Nat → Bool → List (S27) → List (S24) → Int → Int → Int → Int → List Int → Option (Bool)
  | 0, _, _, _, _, _, _, _, _ => none
  | k + 1, x5, x12, x15, x18, x292000, x292001, x292002, x292003 => if x18 < (x12.length : Int) then (if 0 ≤ x18 then ((pentroughlaw23_theirs.f ((rd_T27 x12 x18).f0) ((rd_T27 x12 x18).f1) ((rd_T27 x12 x18).f2) ((rd_T27 x12 x18).f3)).bind fun bt329 => (if x18 < (x15.length : Int) then ((pentroughref23_Same.f bt329.1 bt329.2.1 bt329.2.2.1 bt329.2.2.2 ((rd_T24 x15 x18).f0) ((rd_T24 x15 x18).f1) ((rd_T24 x15 x18).f2) ((rd_T24 x15 x18).f3)).bind fun t336 => (if t336 = true then (pentroughlaw23_ScriptIs.l0 k x5 x12 x15 (wrap64 (x18 + 1)) x292000 x292001 x292002 x292003) else (some false))) else (none))) else (none)) else (if x5 = true then ((pentroughlaw23_ours.f x292000 x292001 x292002 x292003).bind fun bt337 => ((script_Sane.f k bt337.1 bt337.2.1 bt337.2.2.1 bt337.2.2.2).bind fun t343 => ((pentroughref23_Sane.f k x292000 x292001 x292002 x292003).bind fun t344 => (if (t343 == t344) = true then ((pentroughlaw23_ours.f x292000 x292001 x292002 x292003).bind fun bt345 => ((script_Put.f k bt345.1 bt345.2.1 bt345.2.2.1 bt345.2.2.2).bind fun t351 => ((pentroughref23_Put.f k x292000 x292001 x292002 x292003).bind fun t354 => (some ((strOfNums t351).toList == (strOfNums t354).toList))))) else (some false))))) else (some false))
end
def pentroughlaw23_ScriptIs.f (k : Nat) (a0_0 : Int) (a0_1 : Int) (a0_2 : Int) (l0_3 : List Int) (l1 : List Int) : Option (Bool) := (pentroughlaw23_awake.f).bind fun t292 => (if (l0_3.length : Int) > 5000 then (pentroughlaw23_ScriptIs.j0 k l1 t292 true a0_0 a0_1 a0_2 l0_3) else (pentroughlaw23_ScriptIs.j0 k l1 t292 (decide ((l1.length : Int) > 400)) a0_0 a0_1 a0_2 l0_3))
theorem pentroughlaw23_ScriptIs.mono_l : ∀ k, (∀ y0 y1 y2 y3 y4 y5 y6, LeO (pentroughlaw23_ScriptIs.j0 k y0 y1 y2 y3 y4 y5 y6) (pentroughlaw23_ScriptIs.j0 (k + 1) y0 y1 y2 y3 y4 y5 y6)) ∧ (∀ y0 y1 y2 y3 y4 y5 y6, LeO (pentroughlaw23_ScriptIs.j1 k y0 y1 y2 y3 y4 y5 y6) (pentroughlaw23_ScriptIs.j1 (k + 1) y0 y1 y2 y3 y4 y5 y6)) ∧ (∀ y0 y1 y2 y3 y4 y5 y6 y7, LeO (pentroughlaw23_ScriptIs.j2 k y0 y1 y2 y3 y4 y5 y6 y7) (pentroughlaw23_ScriptIs.j2 (k + 1) y0 y1 y2 y3 y4 y5 y6 y7)) ∧ (∀ y0 y1 y2 y3 y4 y5 y6 y7, LeO (pentroughlaw23_ScriptIs.l0 k y0 y1 y2 y3 y4 y5 y6 y7) (pentroughlaw23_ScriptIs.l0 (k + 1) y0 y1 y2 y3 y4 y5 y6 y7))
  | 0 => ⟨fun _ _ _ _ _ _ _ r h => by simp [pentroughlaw23_ScriptIs.j0] at h, fun _ _ _ _ _ _ _ r h => by simp [pentroughlaw23_ScriptIs.j1] at h, fun _ _ _ _ _ _ _ _ r h => by simp [pentroughlaw23_ScriptIs.j2] at h, fun _ _ _ _ _ _ _ _ r h => by simp [pentroughlaw23_ScriptIs.l0] at h⟩
  | k + 1 => by
    obtain ⟨ih0, ih1, ih2, ih3⟩ := pentroughlaw23_ScriptIs.mono_l k
    refine ⟨?_, ?_, ?_, ?_⟩
    · intro y0 y1 y2 y3 y4 y5 y6
      unfold pentroughlaw23_ScriptIs.j0
      repeat' first
      | (with_reducible exact ih0 _ _ _ _ _ _ _)
      | (with_reducible exact ih1 _ _ _ _ _ _ _)
      | (with_reducible exact ih2 _ _ _ _ _ _ _ _)
      | (with_reducible exact ih3 _ _ _ _ _ _ _ _)
      | (with_reducible exact pentroughref23_All.mono _ _)
      | (with_reducible exact pentroughref23_Get.mono _ _)
      | (with_reducible exact pentroughref23_Put.mono _ _ _ _ _)
      | (with_reducible exact pentroughref23_Sane.mono _ _ _ _ _)
      | (with_reducible exact script_All.mono _ _)
      | (with_reducible exact script_Get.mono _ _)
      | (with_reducible exact script_Put.mono _ _ _ _ _)
      | (with_reducible exact script_Sane.mono _ _ _ _ _)
      | (with_reducible exact LeO.refl _)
      | (with_reducible exact LeO.none _)
      | (with_reducible refine LeO.ite ?_ ?_)
      | (with_reducible refine LeO.bind ?_ (fun _ => ?_))
      | exact ih0 _ _ _ _ _ _ _
      | exact ih1 _ _ _ _ _ _ _
      | exact ih2 _ _ _ _ _ _ _ _
      | exact ih3 _ _ _ _ _ _ _ _
      | exact pentroughref23_All.mono _ _
      | exact pentroughref23_Get.mono _ _
      | exact pentroughref23_Put.mono _ _ _ _ _
      | exact pentroughref23_Sane.mono _ _ _ _ _
      | exact script_All.mono _ _
      | exact script_Get.mono _ _
      | exact script_Put.mono _ _ _ _ _
      | exact script_Sane.mono _ _ _ _ _
      | exact LeO.none _
      | refine LeO.ite ?_ ?_
      | refine LeO.bind ?_ (fun _ => ?_)
    · intro y0 y1 y2 y3 y4 y5 y6
      unfold pentroughlaw23_ScriptIs.j1
      repeat' first
      | (with_reducible exact ih0 _ _ _ _ _ _ _)
      | (with_reducible exact ih1 _ _ _ _ _ _ _)
      | (with_reducible exact ih2 _ _ _ _ _ _ _ _)
      | (with_reducible exact ih3 _ _ _ _ _ _ _ _)
      | (with_reducible exact pentroughref23_All.mono _ _)
      | (with_reducible exact pentroughref23_Get.mono _ _)
      | (with_reducible exact pentroughref23_Put.mono _ _ _ _ _)
      | (with_reducible exact pentroughref23_Sane.mono _ _ _ _ _)
      | (with_reducible exact script_All.mono _ _)
      | (with_reducible exact script_Get.mono _ _)
      | (with_reducible exact script_Put.mono _ _ _ _ _)
      | (with_reducible exact script_Sane.mono _ _ _ _ _)
      | (with_reducible exact LeO.refl _)
      | (with_reducible exact LeO.none _)
      | (with_reducible refine LeO.ite ?_ ?_)
      | (with_reducible refine LeO.bind ?_ (fun _ => ?_))
      | exact ih0 _ _ _ _ _ _ _
      | exact ih1 _ _ _ _ _ _ _
      | exact ih2 _ _ _ _ _ _ _ _
      | exact ih3 _ _ _ _ _ _ _ _
      | exact pentroughref23_All.mono _ _
      | exact pentroughref23_Get.mono _ _
      | exact pentroughref23_Put.mono _ _ _ _ _
      | exact pentroughref23_Sane.mono _ _ _ _ _
      | exact script_All.mono _ _
      | exact script_Get.mono _ _
      | exact script_Put.mono _ _ _ _ _
      | exact script_Sane.mono _ _ _ _ _
      | exact LeO.none _
      | refine LeO.ite ?_ ?_
      | refine LeO.bind ?_ (fun _ => ?_)
    · intro y0 y1 y2 y3 y4 y5 y6 y7
      unfold pentroughlaw23_ScriptIs.j2
      repeat' first
      | (with_reducible exact ih0 _ _ _ _ _ _ _)
      | (with_reducible exact ih1 _ _ _ _ _ _ _)
      | (with_reducible exact ih2 _ _ _ _ _ _ _ _)
      | (with_reducible exact ih3 _ _ _ _ _ _ _ _)
      | (with_reducible exact pentroughref23_All.mono _ _)
      | (with_reducible exact pentroughref23_Get.mono _ _)
      | (with_reducible exact pentroughref23_Put.mono _ _ _ _ _)
      | (with_reducible exact pentroughref23_Sane.mono _ _ _ _ _)
      | (with_reducible exact script_All.mono _ _)
      | (with_reducible exact script_Get.mono _ _)
      | (with_reducible exact script_Put.mono _ _ _ _ _)
      | (with_reducible exact script_Sane.mono _ _ _ _ _)
      | (with_reducible exact LeO.refl _)
      | (with_reducible exact LeO.none _)
      | (with_reducible refine LeO.ite ?_ ?_)
      | (with_reducible refine LeO.bind ?_ (fun _ => ?_))
      | exact ih0 _ _ _ _ _ _ _
      | exact ih1 _ _ _ _ _ _ _
      | exact ih2 _ _ _ _ _ _ _ _
      | exact ih3 _ _ _ _ _ _ _ _
      | exact pentroughref23_All.mono _ _
      | exact pentroughref23_Get.mono _ _
      | exact pentroughref23_Put.mono _ _ _ _ _
      | exact pentroughref23_Sane.mono _ _ _ _ _
      | exact script_All.mono _ _
      | exact script_Get.mono _ _
      | exact script_Put.mono _ _ _ _ _
      | exact script_Sane.mono _ _ _ _ _
      | exact LeO.none _
      | refine LeO.ite ?_ ?_
      | refine LeO.bind ?_ (fun _ => ?_)
    · intro y0 y1 y2 y3 y4 y5 y6 y7
      unfold pentroughlaw23_ScriptIs.l0
      repeat' first
      | (with_reducible exact ih0 _ _ _ _ _ _ _)
      | (with_reducible exact ih1 _ _ _ _ _ _ _)
      | (with_reducible exact ih2 _ _ _ _ _ _ _ _)
      | (with_reducible exact ih3 _ _ _ _ _ _ _ _)
      | (with_reducible exact pentroughref23_All.mono _ _)
      | (with_reducible exact pentroughref23_Get.mono _ _)
      | (with_reducible exact pentroughref23_Put.mono _ _ _ _ _)
      | (with_reducible exact pentroughref23_Sane.mono _ _ _ _ _)
      | (with_reducible exact script_All.mono _ _)
      | (with_reducible exact script_Get.mono _ _)
      | (with_reducible exact script_Put.mono _ _ _ _ _)
      | (with_reducible exact script_Sane.mono _ _ _ _ _)
      | (with_reducible exact LeO.refl _)
      | (with_reducible exact LeO.none _)
      | (with_reducible refine LeO.ite ?_ ?_)
      | (with_reducible refine LeO.bind ?_ (fun _ => ?_))
      | exact ih0 _ _ _ _ _ _ _
      | exact ih1 _ _ _ _ _ _ _
      | exact ih2 _ _ _ _ _ _ _ _
      | exact ih3 _ _ _ _ _ _ _ _
      | exact pentroughref23_All.mono _ _
      | exact pentroughref23_Get.mono _ _
      | exact pentroughref23_Put.mono _ _ _ _ _
      | exact pentroughref23_Sane.mono _ _ _ _ _
      | exact script_All.mono _ _
      | exact script_Get.mono _ _
      | exact script_Put.mono _ _ _ _ _
      | exact script_Sane.mono _ _ _ _ _
      | exact LeO.none _
      | refine LeO.ite ?_ ?_
      | refine LeO.bind ?_ (fun _ => ?_)
theorem pentroughlaw23_ScriptIs.mono : ∀ a0 a1 a2 a3 a4 k, LeO (pentroughlaw23_ScriptIs.f k a0 a1 a2 a3 a4) (pentroughlaw23_ScriptIs.f (k + 1) a0 a1 a2 a3 a4) := by
  intro a0 a1 a2 a3 a4 k
  obtain ⟨ih0, ih1, ih2, ih3⟩ := pentroughlaw23_ScriptIs.mono_l k
  unfold pentroughlaw23_ScriptIs.f
  repeat' first
      | (with_reducible exact ih0 _ _ _ _ _ _ _)
      | (with_reducible exact ih1 _ _ _ _ _ _ _)
      | (with_reducible exact ih2 _ _ _ _ _ _ _ _)
      | (with_reducible exact ih3 _ _ _ _ _ _ _ _)
      | (with_reducible exact pentroughref23_All.mono _ _)
      | (with_reducible exact pentroughref23_Get.mono _ _)
      | (with_reducible exact pentroughref23_Put.mono _ _ _ _ _)
      | (with_reducible exact pentroughref23_Sane.mono _ _ _ _ _)
      | (with_reducible exact script_All.mono _ _)
      | (with_reducible exact script_Get.mono _ _)
      | (with_reducible exact script_Put.mono _ _ _ _ _)
      | (with_reducible exact script_Sane.mono _ _ _ _ _)
      | (with_reducible exact LeO.refl _)
      | (with_reducible exact LeO.none _)
      | (with_reducible refine LeO.ite ?_ ?_)
      | (with_reducible refine LeO.bind ?_ (fun _ => ?_))
      | exact ih0 _ _ _ _ _ _ _
      | exact ih1 _ _ _ _ _ _ _
      | exact ih2 _ _ _ _ _ _ _ _
      | exact ih3 _ _ _ _ _ _ _ _
      | exact pentroughref23_All.mono _ _
      | exact pentroughref23_Get.mono _ _
      | exact pentroughref23_Put.mono _ _ _ _ _
      | exact pentroughref23_Sane.mono _ _ _ _ _
      | exact script_All.mono _ _
      | exact script_Get.mono _ _
      | exact script_Put.mono _ _ _ _ _
      | exact script_Sane.mono _ _ _ _ _
      | exact LeO.none _
      | refine LeO.ite ?_ ?_
      | refine LeO.bind ?_ (fun _ => ?_)
def pentroughlaw23_ScriptIs.T6 : Bool × List (List Nat × List Nat) := (true, [([], []), ([], []), ([0, 1], [0, 1]), ([2], [2]), ([3], [3]), ([3], [3]), ([4, 5, 3], [3, 4, 5]), ([3, 6], [3, 6]), ([7, 3], [7]), ([8], [8]), ([9, 8, 8], [8, 9]), ([8], [8]), ([10, 11, 10, 8], [8, 10, 11]), ([12, 8], [8, 12]), ([8, 13], [8, 13])])
def pentroughlaw23_ScriptIs.B6 : List Nat := [0, 0, 3, 7, 15, 15, 63, 127, 255, 511, 1023, 511, 4095, 8191, 16383]
theorem pentroughlaw23_ScriptIs.tab6 : rtab .any (opsOf Try.f6 6) = pentroughlaw23_ScriptIs.T6 := by kernel_rfl
theorem pentroughlaw23_ScriptIs.bits6 : waitsOk pentroughlaw23_ScriptIs.T6.2 pentroughlaw23_ScriptIs.B6 = true := by kernel_rfl
def pentroughlaw23_ScriptIs.T15 : Bool × List (List Nat × List Nat) := (true, [([], []), ([], []), ([0, 1], [0, 1]), ([2], [2]), ([3], [3]), ([], []), ([], []), ([5, 6], [5, 6]), ([7], [7]), ([4, 8, 4], [4, 8]), ([9], [9])])
def pentroughlaw23_ScriptIs.B15 : List Nat := [0, 0, 3, 7, 15, 0, 0, 96, 224, 511, 1023]
theorem pentroughlaw23_ScriptIs.tab15 : rtab .any (opsOf Try.f6 15) = pentroughlaw23_ScriptIs.T15 := by kernel_rfl
theorem pentroughlaw23_ScriptIs.bits15 : waitsOk pentroughlaw23_ScriptIs.T15.2 pentroughlaw23_ScriptIs.B15 = true := by kernel_rfl
def pentroughlaw23_ScriptIs.T17 : Bool × List (List Nat × List Nat) := (true, [([], []), ([0], [0]), ([1], [1]), ([2, 1, 1], [1, 2]), ([3, 3, 1], [1, 3]), ([1], [1]), ([5, 4, 1], [1, 5]), ([4, 6, 1], [1, 4, 6]), ([1, 7], [1, 7]), ([8, 6], [8]), ([9], [9]), ([10, 9, 9], [9, 10]), ([11, 11, 9], [9, 11]), ([12, 9], [9, 12]), ([9], [9]), ([14, 12, 9], [9, 14]), ([15, 9], [9, 15]), ([13, 16, 9], [9, 13, 16]), ([9, 17], [9, 17]), ([18, 15, 0, 1, 2, 3, 4, 5, 6, 7, 8, 9, 10, 11, 12, 13, 14, 15, 16, 17, 18], [18])])
def pentroughlaw23_ScriptIs.B17 : List Nat := [0, 1, 3, 7, 15, 3, 63, 127, 255, 511, 1023, 2047, 4095, 8191, 1023, 24575, 57343, 131071, 262143, 524287]
theorem pentroughlaw23_ScriptIs.tab17 : rtab .any (opsOf Try.f6 17) = pentroughlaw23_ScriptIs.T17 := by kernel_rfl
theorem pentroughlaw23_ScriptIs.bits17 : waitsOk pentroughlaw23_ScriptIs.T17.2 pentroughlaw23_ScriptIs.B17 = true := by kernel_rfl
set_option maxHeartbeats 8000000 in
set_option maxRecDepth 100000 in
theorem pentroughlaw23_ScriptIs.calls (k : Nat) (a0_0 : Int) (a0_1 : Int) (a0_2 : Int) (A0_3 : Option Addr) (c0_3 : Nat) (l0_3 : List Int) (A1 : Option Addr) (c1 : Nat) (l1 : List Int) (r : Bool) (w : World) (hr0_3 : Kd.C (Kd.int .u8) w A0_3 l0_3.length l0_3) (hc0_3 : l0_3.length ≤ c0_3) (hr1 : Kd.C (Kd.int .u8) w A1 l1.length l1) (hc1 : l1.length ≤ c1) (h : pentroughlaw23_ScriptIs.f k a0_0 a0_1 a0_2 l0_3 l1 = some r) (HRT : Aside0 (r = true)) :
    Calls Try.prog 6 #[.agg #[.int .i64 a0_0, .int .i64 a0_1, .int .i64 a0_2, .slice A0_3 l0_3.length c0_3], .slice A1 l1.length c1] w fun e w' => e = .returned (.bool r) ∧ Below w.heap.size w w' := by
  have hu24 := Try.underlying24
  have hu27 := Try.underlying27
  have HR0_3 := Aside0.mk hr0_3
  have HC0_3 := Aside0.mk hc0_3
  clear hr0_3 hc0_3
  have HR1 := Aside0.mk hr1
  have HC1 := Aside0.mk hc1
  clear hr1 hc1
  have HB := Aside0.mk (Below.refl w.heap.size w)
  have H : ((pentroughlaw23_awake.f).bind fun t292 => (if (l0_3.length : Int) > 5000 then (pentroughlaw23_ScriptIs.j0 k l1 t292 true a0_0 a0_1 a0_2 l0_3) else (pentroughlaw23_ScriptIs.j0 k l1 t292 (decide ((l1.length : Int) > 400)) a0_0 a0_1 a0_2 l0_3))) = some r := h
  clear h
  obtain ⟨t292, A3, H⟩ := ob H
  have HC4 := Aside0.mk H
  clear H
  go_enter Try.func6, Try.ntmps6
  go_upto_region 2 with (first | ((with_reducible refine gate_dst (N := 2) rfl ?_); (try (refine gate_guard (by rfl) ?_; dsimp only)); refine box_event ?hg (N := 2) ?hd (cs := #[.int .i64 a0_0, .int .i64 a0_1, .int .i64 a0_2, .slice A0_3 l0_3.length c0_3]) (t := 24) ?hr ?_; (case hd => rfl); (case hg => rfl); (case hr => first | (go_simp; done) | (go_simp; rfl)); intro gb291 hg w5 hbox hb; have BK291 := Aside0.mk hbox; have GW291 := gE HB hg; have GE291 := gE HB hg; replace HB := hB HB hb; clear hb hbox hg) | ((with_reducible refine gate_callee (f := 9) rfl ?_); refine gL (some 19) rfl rfl Try.func9 (by kernel_rfl) rfl #[] rfl ?_; (with_reducible refine (pentroughlaw23_awake.calls  t292 _ A3.out).mono ?_); rintro e w6 ⟨rfl, hb⟩; refine ⟨_, rfl, ?_⟩; replace BK291 := kB BK291 hb; replace HB := hB HB hb; (try clear hb); (try clear hb2); (try clear hk); (try clear hi)))
  (try simp only [Act.put, List.setIfInBounds_toArray, List.set_cons_zero, List.set_cons_succ])
  go_cut [28] (fun v28 wc => ∃ (kq : Nat) (x28_3 : Bool), v28 = .bool x28_3 ∧ Aside0 (pentroughlaw23_ScriptIs.j0 kq l1 t292 x28_3 a0_0 a0_1 a0_2 l0_3 = some r) ∧ Aside0 (kq ≤ k) ∧ Aside0 (wc.heap[gb291]? = some (.cells #[.int .i64 a0_0, .int .i64 a0_1, .int .i64 a0_2, (.slice A0_3 l0_3.length c0_3)] 24 (0, 0))) ∧ Aside0 (Below w.heap.size w wc))
  case first =>
    have H := HC4.out
    clear HC4
    by_cases c7 : (l0_3.length : Int) > 5000
    · rw [if_pos c7] at H
      have c7b0 : decide (5000 < (l0_3.length : Int)) = true := decide_eq_true c7
      have c7b1 : decide (5000 < l0_3.length) = true := decide_eq_true (by omega)
      clear c7
      (first | rw [c7b0] | (simp only [i64_w, i32_w]; rw [c7b0]) | skip)
      have H' := Aside0.mk H
      clear H
      obtain ⟨hcz8_0, hcz8_1, hcz8_2, hcz8_3, hfz8_0, hfz8_1, hfz8_2, hfz8_3⟩ := bc4 BK291
      go_wp2
      go_meet
      case rel => exact ⟨_, (true), (by first | rfl | (simp; done) | (simp [*]; done)), H', ⟨by first | omega | exact Nat.le_refl _⟩, ⟨kk BK291⟩, ⟨bb HB⟩⟩
    · rw [if_neg c7] at H
      have c7b0 : decide (5000 < (l0_3.length : Int)) = false := decide_eq_false c7
      have c7b1 : decide (5000 < l0_3.length) = false := decide_eq_false (by omega)
      clear c7
      (first | rw [c7b0] | (simp only [i64_w, i32_w]; rw [c7b0]) | skip)
      have H' := Aside0.mk H
      clear H
      obtain ⟨hcz9_0, hcz9_1, hcz9_2, hcz9_3, hfz9_0, hfz9_1, hfz9_2, hfz9_3⟩ := bc4 BK291
      go_wp2
      go_meet
      case rel => exact ⟨_, (decide ((l1.length : Int) > 400)), (by first | rfl | (simp; done) | (simp [*]; done)), H', ⟨by first | omega | exact Nat.le_refl _⟩, ⟨kk BK291⟩, ⟨bb HB⟩⟩
  case rest =>
    clear HC4
    try clear c1
    try clear p2
    try clear c6
    try clear c7
    try clear c7b0
    try clear c7b1
    try clear c9
    try clear hcz8_0
    try clear hcz8_1
    try clear hcz8_2
    try clear hcz8_3
    try clear hcz9_0
    try clear hcz9_1
    try clear hcz9_2
    try clear hcz9_3
    try clear hfz8_0
    try clear hfz8_1
    try clear hfz8_2
    try clear hfz8_3
    try clear hfz9_0
    try clear hfz9_1
    try clear hfz9_2
    try clear hfz9_3
    obtain ⟨kq, x28_3, rfl, HA, HJ3, BK291, HB⟩ := hcut
    cases kq with
    | zero => exact absurd HA.out (by simp [pentroughlaw23_ScriptIs.j0])
    | succ kj3 =>
      have H := HA.out
      clear HA
      simp only [pentroughlaw23_ScriptIs.j0] at H
      by_cases c10 : x28_3 = true
      · subst c10
        rw [if_pos rfl] at H
        obtain rfl := Option.some.inj H
        go_wp2
        go_ret
        exact ⟨by first | rfl | (simp [errW_none, errW_some] <;> rfl) | (simp [*, errW_none, errW_some] <;> rfl), by repeat (first | (with_reducible first | exact HB.out | apply below_alloc | apply pw_below_drewN | apply below_drew1 | refine below_set ?_ GE291.out) | exact HB.out)⟩
      · replace c10 := Bool.eq_false_iff.mpr c10
        subst c10
        rw [if_neg nf] at H
        obtain ⟨⟨t293, t294, t295, t296, t299, t300⟩, A11, H⟩ := ob H
        (try dsimp only at H)
        obtain ⟨⟨t302, t303, t304, t305, t308, t309⟩, A12, H⟩ := ob H
        (try dsimp only at H)
        have HC13 := Aside0.mk H
        clear H
        go_upto_region 6 with (first | ((with_reducible refine gate_callee (f := 13) rfl ?_); refine gL (some 32) rfl rfl Try.func13 (by kernel_rfl) rfl #[.slice A1 l1.length c1] rfl ?_; (with_reducible refine (script_Get.calls kj3 (fun k_ => k_ < w.heap.size) _ _ l1 t293 t294 t295 t296 t299 t300 _ ?side1 A11.out).mono ?_); (case side1 => exact Kd.V_mk HC1.out (Kd.F_below (Kd.C_F (Kd.heap_int .u8) HR1.out) (bb HB))); rintro e w14 ⟨v297, rfl, ho0, hb⟩; refine ⟨_, rfl, ?_⟩; have HO298 := Aside0.mk (Kd.V_lower (Kd.V_mono (ok' := fun k_ => k_ ≠ gb291) ho0 (fun k_ hk_ => o2 hk_ (gw GW291) (Kd.freshB (kk BK291) k_))) (below_size (bb HB))); replace BK291 := kB BK291 hb; replace HB := hB HB hb; (try clear hb); (try clear hb2); (try clear hk); (try clear hi); (try clear ho0)) | ((with_reducible refine gate_dst (N := 6) rfl ?_); (try (refine gate_guard (by rfl) ?_; dsimp only)); refine box_event ?hg (N := 6) ?hd (cs := #[.int .i64 0, .int .i64 0, .int .i64 0, .slice none 0 0]) (t := 27) ?hr ?_; (case hd => rfl); (case hg => rfl); (case hr => first | (go_simp; done) | (go_simp; rfl)); intro gb301 hg w15 hbox hb; replace HO298 := vE HO298 hg hb; have BK301 := Aside0.mk hbox; have GW301 := gE HB hg; have GE301 := gE HB hg; replace HB := hB HB hb; have NB291_301 := nL BK291 hg; have NB301_291 := nG BK291 hg; replace BK291 := kB BK291 hb; clear hb hbox hg; have hnb16 := NB301_291.out; have hnc16 := NB291_301.out; obtain ⟨hcz17_0, hcz17_1, hcz17_2, hcz17_3, hfz17_0, hfz17_1, hfz17_2, hfz17_3⟩ := bc4 BK301; obtain ⟨Ao18, co18, eo18⟩ := Kd.V_slice HO298.out; subst eo18) | ((with_reducible refine gate_store (t := 27) (p := 6) rfl ?_); refine store_event (t := 27) (p := 6) (v := ?vo_w19) (w1 := ((((w15.setCell ⟨gb301, 0, none⟩ (.int .i64 t293)).setCell ⟨gb301, 1, none⟩ (.int .i64 t294)).setCell ⟨gb301, 2, none⟩ (.int .i64 t295)).setCell ⟨gb301, 3, none⟩ (.slice Ao18 t296.length co18))) ?hg ?ho ?hn ?hr ?_; (case ho => rfl); (case hg => rfl); (case hn => rfl); (case hr => first | (go_simp; done) | (go_simp; rfl)); intro w19 hw; replace HO298 := vS (fun k_ => k_ ≠ gb291 ∧ k_ ≠ gb301) HO298 hw; replace BK291 := kS BK291 hw; replace BK301 := kP4 BK301 hw; replace HB : Aside0 (Below w.heap.size w w19) := ⟨(by rw [hw]; exact (bb HB))⟩; clear hw) | ((with_reducible refine gate_callee (f := 17) rfl ?_); refine gL (some 38) rfl rfl Try.func17 (by kernel_rfl) rfl #[.slice A1 l1.length c1] rfl ?_; (with_reducible refine (pentroughref23_Get.calls kj3 (fun k_ => k_ < w.heap.size) _ _ l1 t302 t303 t304 t305 t308 t309 _ ?side1 A12.out).mono ?_); (case side1 => exact Kd.V_mk HC1.out (Kd.F_below (Kd.C_F (Kd.heap_int .u8) HR1.out) (bb HB))); rintro e w20 ⟨v306, rfl, ho0, hb⟩; refine ⟨_, rfl, ?_⟩; replace HO298 := vB HO298 hb; have HO307 := Aside0.mk (Kd.V_lower (Kd.V_mono (ok' := fun k_ => k_ ≠ gb291 ∧ k_ ≠ gb301) ho0 (fun k_ hk_ => ⟨o2 hk_ (gw GW291) (Kd.freshB (kk BK291) k_), o2 hk_ (gw GW301) (Kd.freshB (kk BK301) k_)⟩)) (below_size (bb HB))); replace BK291 := kB BK291 hb; replace BK301 := kB BK301 hb; replace HB := hB HB hb; (try clear hb); (try clear hb2); (try clear hk); (try clear hi); (try clear ho0)) | ((with_reducible refine gate_dst (N := 9) rfl ?_); (try (refine gate_guard (by rfl) ?_; dsimp only)); refine box_event ?hg (N := 9) ?hd (cs := #[.int .i64 0, .int .i64 0, .int .i64 0, .slice none 0 0]) (t := 24) ?hr ?_; (case hd => rfl); (case hg => rfl); (case hr => first | (go_simp; done) | (go_simp; rfl)); intro gb310 hg w21 hbox hb; replace HO298 := vE HO298 hg hb; replace HO307 := vE HO307 hg hb; have BK310 := Aside0.mk hbox; have GW310 := gE HB hg; have GE310 := gE HB hg; replace HB := hB HB hb; have NB291_310 := nL BK291 hg; have NB310_291 := nG BK291 hg; replace BK291 := kB BK291 hb; have NB301_310 := nL BK301 hg; have NB310_301 := nG BK301 hg; replace BK301 := kB BK301 hb; clear hb hbox hg; have hnb22 := NB310_291.out; have hnc22 := NB291_310.out; have hnb23 := NB310_301.out; have hnc23 := NB301_310.out; obtain ⟨hcz24_0, hcz24_1, hcz24_2, hcz24_3, hfz24_0, hfz24_1, hfz24_2, hfz24_3⟩ := bc4 BK310; obtain ⟨Ao25, co25, eo25⟩ := Kd.V_slice HO307.out; subst eo25))
        (try simp only [Act.put, List.setIfInBounds_toArray, List.set_cons_zero, List.set_cons_succ])
        go_cut [56] (fun v56 wc => ∃ (kq : Nat) (x56_12 : Bool), v56 = .bool x56_12 ∧ Aside0 (pentroughlaw23_ScriptIs.j1 kq l1 t292 x56_12 a0_0 a0_1 a0_2 l0_3 = some r) ∧ Aside0 (kq ≤ kj3) ∧ Aside0 (Kd.V (Kd.int .u8) 5 wc w.heap.size (fun k_ => k_ ≠ gb291 ∧ k_ ≠ gb301 ∧ k_ ≠ gb310) (.slice Ao18 t296.length co18) t296) ∧ Aside0 (Kd.V (Kd.int .u8) 5 wc w.heap.size (fun k_ => k_ ≠ gb291 ∧ k_ ≠ gb301 ∧ k_ ≠ gb310) (.slice Ao25 t305.length co25) t305) ∧ Aside0 (wc.heap[gb291]? = some (.cells #[.int .i64 a0_0, .int .i64 a0_1, .int .i64 a0_2, (.slice A0_3 l0_3.length c0_3)] 24 (0, 0))) ∧ Aside0 (wc.heap[gb301]? = some (.cells #[.int .i64 t293, .int .i64 t294, .int .i64 t295, (.slice Ao18 t296.length co18)] 27 (0, 0))) ∧ Aside0 (wc.heap[gb310]? = some (.cells #[.int .i64 t302, .int .i64 t303, .int .i64 t304, (.slice Ao25 t305.length co25)] 24 (0, 0))) ∧ Aside0 (Below w.heap.size w wc))
        case first =>
          have H := HC13.out
          clear HC13
          by_cases c26 : t299 = t308
          · rw [if_pos c26] at H
            have c26b0 : (t299 == t308) = true := beq_iff_eq.mpr c26
            have c26b1 : (t299 != t308) = false := bne_eq_false_iff_eq.mpr c26
            clear c26
            (first | rw [c26b0] | (simp only [i64_w, i32_w]; rw [c26b0]) | skip)
            by_cases c27 : t300 = t309
            · rw [if_pos c27] at H
              have c27b0 : (t300 == t309) = true := beq_iff_eq.mpr c27
              have c27b1 : (t300 != t309) = false := bne_eq_false_iff_eq.mpr c27
              clear c27
              obtain ⟨⟨t311, t312, t313, t314⟩, A28, H⟩ := ob H
              (try dsimp only at H)
              obtain ⟨t317, A29, H⟩ := ob H
              have H' := Aside0.mk H
              clear H
              try go_wp2
              obtain ⟨w30, hw⟩ : ∃ w_, w_ = ((((w21.setCell ⟨gb310, 0, none⟩ (.int .i64 t302)).setCell ⟨gb310, 1, none⟩ (.int .i64 t303)).setCell ⟨gb310, 2, none⟩ (.int .i64 t304)).setCell ⟨gb310, 3, none⟩ (.slice Ao25 t305.length co25)) := ⟨_, rfl⟩
              rw [← hw]
              replace HO298 := vS (fun k_ => k_ ≠ gb291 ∧ k_ ≠ gb301 ∧ k_ ≠ gb310) HO298 hw
              replace HO307 := vS (fun k_ => k_ ≠ gb291 ∧ k_ ≠ gb301 ∧ k_ ≠ gb310) HO307 hw
              replace BK291 := kS BK291 hw
              replace BK301 := kS BK301 hw
              replace BK310 := kP4 BK310 hw
              replace HB := hS HB hw
              clear hw
              replace HO298 := Aside0.mk (Kd.V_drew HO298.out)
              replace HO307 := Aside0.mk (Kd.V_drew HO307.out)
              replace BK291 := Aside0.mk (blk_drew BK291.out)
              replace BK301 := Aside0.mk (blk_drew BK301.out)
              replace BK310 := Aside0.mk (blk_drew BK310.out)
              replace HB := Aside0.mk (below_drew1 HB.out)
              refine start_ (n := 15) (S := fun w' => w'.cell? ⟨gb301, 0, none⟩ = some (.int .i64 t293) ∧ w'.cell? ⟨gb301, 1, none⟩ = some (.int .i64 t294) ∧ w'.cell? ⟨gb301, 2, none⟩ = some (.int .i64 t295) ∧ w'.cell? ⟨gb301, 3, none⟩ = some (.slice Ao18 t296.length co18) ∧ w'.cell? ⟨gb310, 0, none⟩ = some (.int .i64 t302) ∧ w'.cell? ⟨gb310, 1, none⟩ = some (.int .i64 t303) ∧ w'.cell? ⟨gb310, 2, none⟩ = some (.int .i64 t304) ∧ w'.cell? ⟨gb310, 3, none⟩ = some (.slice Ao25 t305.length co25)) (ds := []) #[false, false, false, false, false, false, false, false, false, false, false, false, false, false, false] (by kernel_rfl) rfl rfl ⟨cx BK301 0, cx BK301 1, cx BK301 2, cx BK301 3, cx BK310 0, cx BK310 1, cx BK310 2, cx BK310 3⟩ (fun hHeld => ?_); refine with_tabW pentroughlaw23_ScriptIs.tab6 pentroughlaw23_ScriptIs.bits6 (fun HT_ HW_ => ?_)
              generalize w30.drew = w31 at HO298 HO307 BK291 BK301 BK310 HB hHeld ⊢
              refine pure_ (i := 0) (N := some 42) (v := ?_) (a' := ?_) #[true, false, false, false, false, false, false, false, false, false, false, false, false, false, false] rfl rfl (any_of HT_.out (by kernel_rfl)) (fun _ _ _ h => h) (Or.inl ⟨by rfl, ?_⟩) ?_ ?_
              rotate_left
              · intro w'
                go_simp
                with_reducible rfl
              rotate_left
              · simp only [Act.put, List.setIfInBounds_toArray, List.set_cons_zero, List.set_cons_succ, i64_w, i32_w]
                rfl
              refine pure_ (i := 1) (N := some 43) (v := ?_) (a' := ?_) #[true, true, false, false, false, false, false, false, false, false, false, false, false, false, false] rfl rfl (any_of HT_.out (by kernel_rfl)) (fun _ _ _ h => h) (Or.inl ⟨by rfl, ?_⟩) ?_ ?_
              rotate_left
              · intro w'
                go_simp
                with_reducible rfl
              rotate_left
              · simp only [Act.put, List.setIfInBounds_toArray, List.set_cons_zero, List.set_cons_succ, i64_w, i32_w]
                rfl
              refine pure_ (i := 2) (N := some 44) (v := ?_) (a' := ?_) #[true, true, true, false, false, false, false, false, false, false, false, false, false, false, false] rfl rfl (any_of HT_.out (by kernel_rfl)) (fun _ _ _ h => h) (Or.inl ⟨by rfl, ?_⟩) ?_ ?_
              rotate_left
              · intro w'
                go_simp
                with_reducible rfl
              rotate_left
              · simp only [Act.put, List.setIfInBounds_toArray, List.set_cons_zero, List.set_cons_succ, i64_w, i32_w]
                rfl
              refine pure_ (i := 3) (N := some 45) (v := ?_) (a' := ?_) #[true, true, true, true, false, false, false, false, false, false, false, false, false, false, false] rfl rfl (any_of HT_.out (by kernel_rfl)) (fun _ _ _ h => h) (Or.inl ⟨by rfl, ?_⟩) ?_ ?_
              rotate_left
              · intro w'
                go_simp
                with_reducible rfl
              rotate_left
              · simp only [Act.put, List.setIfInBounds_toArray, List.set_cons_zero, List.set_cons_succ, i64_w, i32_w]
                rfl
              refine pure_ (i := 4) (N := some 46) (v := ?_) (a' := ?_) #[true, true, true, true, true, false, false, false, false, false, false, false, false, false, false] rfl rfl (any_of HT_.out (by kernel_rfl)) (fun _ _ _ h => h) (Or.inl ⟨by rfl, ?_⟩) ?_ ?_
              rotate_left
              · intro w'
                go_simp
                with_reducible rfl
              rotate_left
              · simp only [Act.put, List.setIfInBounds_toArray, List.set_cons_zero, List.set_cons_succ, i64_w, i32_w]
                rfl
              refine pure_ (i := 5) (N := some 47) (v := ?_) (a' := ?_) #[true, true, true, true, true, true, false, false, false, false, false, false, false, false, false] rfl rfl (any_of HT_.out (by kernel_rfl)) (fun _ _ _ h => h) (Or.inl ⟨by rfl, ?_⟩) ?_ ?_
              rotate_left
              · intro w'
                go_simp
                with_reducible rfl
              rotate_left
              · simp only [Act.put, List.setIfInBounds_toArray, List.set_cons_zero, List.set_cons_succ, i64_w, i32_w]
                rfl
              refine pure_ (i := 6) (N := some 48) (v := ?_) (a' := ?_) #[true, true, true, true, true, true, true, false, false, false, false, false, false, false, false] rfl rfl (any_of HT_.out (by kernel_rfl)) (fun _ _ _ h => h) (Or.inl ⟨by rfl, ?_⟩) ?_ ?_
              rotate_left
              · intro w'
                go_simp
                with_reducible rfl
              rotate_left
              · simp only [Act.put, List.setIfInBounds_toArray, List.set_cons_zero, List.set_cons_succ, i64_w, i32_w]
                rfl
              refine pure_ (i := 7) (N := some 49) (v := ?_) (a' := ?_) #[true, true, true, true, true, true, true, true, false, false, false, false, false, false, false] rfl rfl (any_of HT_.out (by kernel_rfl)) (fun _ _ _ h => h) (Or.inl ⟨by rfl, ?_⟩) ?_ ?_
              rotate_left
              · intro w'
                go_simp
                with_reducible rfl
              rotate_left
              · simp only [Act.put, List.setIfInBounds_toArray, List.set_cons_zero, List.set_cons_succ, i64_w, i32_w]
                rfl
              refine pure_ (i := 8) (N := some 50) (v := ?_) (a' := ?_) #[true, true, true, true, true, true, true, true, true, false, false, false, false, false, false] rfl rfl (any_of HT_.out (by kernel_rfl)) (fun _ _ _ h => h) (Or.inl ⟨by rfl, ?_⟩) ?_ ?_
              rotate_left
              · intro w'
                go_simp
                with_reducible rfl
              rotate_left
              · simp only [Act.put, List.setIfInBounds_toArray, List.set_cons_zero, List.set_cons_succ, i64_w, i32_w]
                rfl
              refine take_ (i := 9) (N := some 51) (v := ?_) (a' := ?_) #[true, true, true, true, true, true, true, true, true, true, false, false, false, false, false] rfl rfl (take_ofW HT_.out HW_.out (by kernel_rfl)) (fun _ _ _ h => h) (Or.inl ⟨by rfl, ?_⟩) hHeld ?_ ?_
              rotate_left
              · rintro w' ⟨s0, s1, s2, s3, s4, s5, s6, s7⟩
                go_simp
                with_reducible rfl
              rotate_left
              · simp only [Act.put, List.setIfInBounds_toArray, List.set_cons_zero, List.set_cons_succ, i64_w, i32_w]
                rfl
              refine take_ (i := 11) (N := some 53) (v := ?_) (a' := ?_) #[true, true, true, true, true, true, true, true, true, true, false, true, false, false, false] rfl rfl (take_ofW HT_.out HW_.out (by kernel_rfl)) (fun _ _ _ h => h) (Or.inl ⟨by rfl, ?_⟩) hHeld ?_ ?_
              rotate_left
              · rintro w' ⟨s0, s1, s2, s3, s4, s5, s6, s7⟩
                go_simp
                with_reducible rfl
              rotate_left
              · simp only [Act.put, List.setIfInBounds_toArray, List.set_cons_zero, List.set_cons_succ, i64_w, i32_w]
                rfl
              refine one_ (i := 10) (N := some 52) #[true, true, true, true, true, true, true, true, true, true, true, true, false, false, false] rfl rfl (one_of HT_.out (by kernel_rfl)) (by decide) (fun K hK => ?_)
              refine gs Try.func15 (by kernel_rfl) rfl #[.agg #[.int .i64 t293, .int .i64 t294, .int .i64 t295, .slice Ao18 t296.length co18]] (by rfl) rfl rfl ?_
              with_reducible refine (pentroughlaw23_theirs.calls t293 t294 t295 (fun k_ => (k_ ≠ gb291 ∧ (k_ ≠ gb301 ∧ k_ ≠ gb310))) _ _ t296 t311 t312 t313 t314 _ ?side1 A28.out).mono ?_
              (case side1 => exact HO298.out)
              rintro e w32 ⟨v315, rfl, ho0, hb⟩
              refine ⟨_, rfl, ?_⟩
              replace HO298 := vB HO298 hb
              replace HO307 := vB HO307 hb
              have HO316 := Aside0.mk (Kd.V_lower (Kd.V_mono (ok' := fun k_ => k_ ≠ gb291 ∧ k_ ≠ gb301 ∧ k_ ≠ gb310) ho0 (fun k_ hk_ => ⟨o2 hk_ (fun h => h.1) (Kd.freshB (kk BK291) k_), o2 hk_ (fun h => h.2.1) (Kd.freshB (kk BK301) k_), o2 hk_ (fun h => h.2.2) (Kd.freshB (kk BK310) k_)⟩)) (below_size (bb HB)))
              replace BK291 := kB BK291 hb
              replace BK301 := kB BK301 hb
              replace BK310 := kB BK310 hb
              replace HB := hB HB hb
              (try clear hb)
              (try clear hb2)
              (try clear hk)
              (try clear hi)
              (try clear ho0)
              obtain ⟨Ao33, co33, eo33⟩ := Kd.V_slice HO316.out
              (first | subst eo33 | (injection eo33 with f1_ f2_ f3_; have f4_ := f1_.symm; have f5_ := f3_.symm; clear f1_ f2_ f3_; subst f4_; subst f5_))
              refine hK.out _ _ ⟨cx BK301 0, cx BK301 1, cx BK301 2, cx BK301 3, cx BK310 0, cx BK310 1, cx BK310 2, cx BK310 3⟩ (fun hHeld => ?_)
              clear hK K
              refine norm_ (a' := ?_) ?_ ?_
              rotate_left
              · show Act.put _ (some 52) _ = _
                simp only [Act.put, List.setIfInBounds_toArray, List.set_cons_zero, List.set_cons_succ, i64_w, i32_w]
                rfl
              refine one_ (i := 12) (N := some 54) #[true, true, true, true, true, true, true, true, true, true, true, true, true, false, false] rfl rfl (one_of HT_.out (by kernel_rfl)) (by decide) (fun K hK => ?_)
              refine gs Try.func14 (by kernel_rfl) rfl #[.agg #[.int .i64 t311, .int .i64 t312, .int .i64 t313, .slice Ao33 t314.length co33], .agg #[.int .i64 t302, .int .i64 t303, .int .i64 t304, .slice Ao25 t305.length co25]] (by rfl) rfl rfl ?_
              with_reducible refine (pentroughref23_Same.calls t311 t312 t313 _ _ t314 t302 t303 t304 _ _ t305 t317 _ ?side1 ?side2 ?side3 ?side4 A29.out).mono ?_
              (case side1 => exact (Kd.V_reads' (vv HO316)).2.2)
              (case side2 => exact (Kd.V_reads' HO316.out).2.1)
              (case side3 => exact (Kd.V_reads' (vv HO307)).2.2)
              (case side4 => exact (Kd.V_reads' HO307.out).2.1)
              rintro e w34 ⟨rfl, hb⟩
              refine ⟨_, rfl, ?_⟩
              replace HO298 := vB HO298 hb
              replace HO307 := vB HO307 hb
              replace HO316 := vB HO316 hb
              replace BK291 := kB BK291 hb
              replace BK301 := kB BK301 hb
              replace BK310 := kB BK310 hb
              replace HB := hB HB hb
              (try clear hb)
              (try clear hb2)
              (try clear hk)
              (try clear hi)
              refine hK.out _ _ ⟨cx BK301 0, cx BK301 1, cx BK301 2, cx BK301 3, cx BK310 0, cx BK310 1, cx BK310 2, cx BK310 3⟩ (fun hHeld => ?_)
              clear hK K
              refine norm_ (a' := ?_) ?_ ?_
              rotate_left
              · show Act.put _ (some 54) _ = _
                simp only [Act.put, List.setIfInBounds_toArray, List.set_cons_zero, List.set_cons_succ, i64_w, i32_w]
                rfl
              refine pure_ (i := 13) (N := some 55) (v := ?_) (a' := ?_) #[true, true, true, true, true, true, true, true, true, true, true, true, true, true, false] rfl rfl (any_of HT_.out (by kernel_rfl)) (fun _ _ _ h => h) (Or.inl ⟨by rfl, ?_⟩) ?_ ?_
              rotate_left
              · intro w'
                go_simp
                with_reducible rfl
              rotate_left
              · simp only [Act.put, List.setIfInBounds_toArray, List.set_cons_zero, List.set_cons_succ, i64_w, i32_w]
                rfl
              refine pure_ (i := 14) (N := some 56) (v := ?_) (a' := ?_) #[true, true, true, true, true, true, true, true, true, true, true, true, true, true, true] rfl rfl (any_of HT_.out (by kernel_rfl)) (fun _ _ _ h => h) (Or.inl ⟨by rfl, ?_⟩) ?_ ?_
              rotate_left
              · intro w'
                go_simp
                with_reducible rfl
              rotate_left
              · simp only [Act.put, List.setIfInBounds_toArray, List.set_cons_zero, List.set_cons_succ, i64_w, i32_w]
                rfl
              refine done_ (done_of HT_.out (by kernel_rfl)) ?_
              try go_wp2
              go_meet
              case rel => exact ⟨_, (!t317), (by first | rfl | (simp; done) | (simp [*]; done)), H', ⟨by have := HJ3.out; first | omega | exact Nat.le_refl _⟩, ⟨vM HO298⟩, ⟨vM HO307⟩, ⟨kk BK291⟩, ⟨kk BK301⟩, ⟨kk BK310⟩, ⟨bb HB⟩⟩
            · rw [if_neg c27] at H
              have c27b0 : (t300 == t309) = false := beq_eq_false_iff_ne.mpr c27
              have c27b1 : (t300 != t309) = true := bne_iff_ne.mpr c27
              have H' := Aside0.mk H
              clear H
              try go_wp2
              obtain ⟨w35, hw⟩ : ∃ w_, w_ = ((((w21.setCell ⟨gb310, 0, none⟩ (.int .i64 t302)).setCell ⟨gb310, 1, none⟩ (.int .i64 t303)).setCell ⟨gb310, 2, none⟩ (.int .i64 t304)).setCell ⟨gb310, 3, none⟩ (.slice Ao25 t305.length co25)) := ⟨_, rfl⟩
              rw [← hw]
              replace HO298 := vS (fun k_ => k_ ≠ gb291 ∧ k_ ≠ gb301 ∧ k_ ≠ gb310) HO298 hw
              replace HO307 := vS (fun k_ => k_ ≠ gb291 ∧ k_ ≠ gb301 ∧ k_ ≠ gb310) HO307 hw
              replace BK291 := kS BK291 hw
              replace BK301 := kS BK301 hw
              replace BK310 := kP4 BK310 hw
              replace HB := hS HB hw
              clear hw
              replace HO298 := Aside0.mk (Kd.V_drew HO298.out)
              replace HO307 := Aside0.mk (Kd.V_drew HO307.out)
              replace BK291 := Aside0.mk (blk_drew BK291.out)
              replace BK301 := Aside0.mk (blk_drew BK301.out)
              replace BK310 := Aside0.mk (blk_drew BK310.out)
              replace HB := Aside0.mk (below_drew1 HB.out)
              refine start_ (n := 15) (S := fun w' => True) (ds := []) #[false, false, false, false, false, false, false, false, false, false, false, false, false, false, false] (by kernel_rfl) rfl rfl trivial (fun hHeld => ?_); refine with_tabW pentroughlaw23_ScriptIs.tab6 pentroughlaw23_ScriptIs.bits6 (fun HT_ HW_ => ?_)
              generalize w35.drew = w36 at HO298 HO307 BK291 BK301 BK310 HB hHeld ⊢
              refine pure_ (i := 0) (N := some 42) (v := ?_) (a' := ?_) #[true, false, false, false, false, false, false, false, false, false, false, false, false, false, false] rfl rfl (any_of HT_.out (by kernel_rfl)) (fun _ _ _ h => h) (Or.inl ⟨by rfl, ?_⟩) ?_ ?_
              rotate_left
              · intro w'
                go_simp
                with_reducible rfl
              rotate_left
              · simp only [Act.put, List.setIfInBounds_toArray, List.set_cons_zero, List.set_cons_succ, i64_w, i32_w]
                rfl
              refine pure_ (i := 1) (N := some 43) (v := ?_) (a' := ?_) #[true, true, false, false, false, false, false, false, false, false, false, false, false, false, false] rfl rfl (any_of HT_.out (by kernel_rfl)) (fun _ _ _ h => h) (Or.inl ⟨by rfl, ?_⟩) ?_ ?_
              rotate_left
              · intro w'
                go_simp
                with_reducible rfl
              rotate_left
              · simp only [Act.put, List.setIfInBounds_toArray, List.set_cons_zero, List.set_cons_succ, i64_w, i32_w]
                rfl
              refine pure_ (i := 2) (N := some 44) (v := ?_) (a' := ?_) #[true, true, true, false, false, false, false, false, false, false, false, false, false, false, false] rfl rfl (any_of HT_.out (by kernel_rfl)) (fun _ _ _ h => h) (Or.inl ⟨by rfl, ?_⟩) ?_ ?_
              rotate_left
              · intro w'
                go_simp
                with_reducible rfl
              rotate_left
              · simp only [Act.put, List.setIfInBounds_toArray, List.set_cons_zero, List.set_cons_succ, i64_w, i32_w]
                rfl
              refine pure_ (i := 3) (N := some 45) (v := ?_) (a' := ?_) #[true, true, true, true, false, false, false, false, false, false, false, false, false, false, false] rfl rfl (any_of HT_.out (by kernel_rfl)) (fun _ _ _ h => h) (Or.inl ⟨by rfl, ?_⟩) ?_ ?_
              rotate_left
              · intro w'
                go_simp
                with_reducible rfl
              rotate_left
              · simp only [Act.put, List.setIfInBounds_toArray, List.set_cons_zero, List.set_cons_succ, i64_w, i32_w]
                rfl
              refine pure_ (i := 4) (N := some 46) (v := ?_) (a' := ?_) #[true, true, true, true, true, false, false, false, false, false, false, false, false, false, false] rfl rfl (any_of HT_.out (by kernel_rfl)) (fun _ _ _ h => h) (Or.inl ⟨by rfl, ?_⟩) ?_ ?_
              rotate_left
              · intro w'
                go_simp
                with_reducible rfl
              rotate_left
              · simp only [Act.put, List.setIfInBounds_toArray, List.set_cons_zero, List.set_cons_succ, i64_w, i32_w]
                rfl
              refine pure_ (i := 5) (N := some 47) (v := ?_) (a' := ?_) #[true, true, true, true, true, true, false, false, false, false, false, false, false, false, false] rfl rfl (any_of HT_.out (by kernel_rfl)) (fun _ _ _ h => h) (Or.inl ⟨by rfl, ?_⟩) ?_ ?_
              rotate_left
              · intro w'
                go_simp
                with_reducible rfl
              rotate_left
              · simp only [Act.put, List.setIfInBounds_toArray, List.set_cons_zero, List.set_cons_succ, i64_w, i32_w]
                rfl
              refine pure_ (i := 6) (N := some 48) (v := ?_) (a' := ?_) #[true, true, true, true, true, true, true, false, false, false, false, false, false, false, false] rfl rfl (any_of HT_.out (by kernel_rfl)) (fun _ _ _ h => h) (Or.inl ⟨by rfl, ?_⟩) ?_ ?_
              rotate_left
              · intro w'
                go_simp
                with_reducible rfl
              rotate_left
              · simp only [Act.put, List.setIfInBounds_toArray, List.set_cons_zero, List.set_cons_succ, i64_w, i32_w]
                rfl
              refine pure_ (i := 7) (N := some 49) (v := ?_) (a' := ?_) #[true, true, true, true, true, true, true, true, false, false, false, false, false, false, false] rfl rfl (any_of HT_.out (by kernel_rfl)) (fun _ _ _ h => h) (Or.inl ⟨by rfl, ?_⟩) ?_ ?_
              rotate_left
              · intro w'
                go_simp
                with_reducible rfl
              rotate_left
              · simp only [Act.put, List.setIfInBounds_toArray, List.set_cons_zero, List.set_cons_succ, i64_w, i32_w]
                rfl
              refine pure_ (i := 8) (N := some 50) (v := ?_) (a' := ?_) #[true, true, true, true, true, true, true, true, true, false, false, false, false, false, false] rfl rfl (any_of HT_.out (by kernel_rfl)) (fun _ _ _ h => h) (Or.inl ⟨by rfl, ?_⟩) ?_ ?_
              rotate_left
              · intro w'
                go_simp
                with_reducible rfl
              rotate_left
              · simp only [Act.put, List.setIfInBounds_toArray, List.set_cons_zero, List.set_cons_succ, i64_w, i32_w]
                rfl
              refine pure_ (i := 9) (N := some 51) (v := undef) (a' := ?_) #[true, true, true, true, true, true, true, true, true, true, false, false, false, false, false] rfl rfl (any_of HT_.out (by kernel_rfl)) (fun _ _ _ h => h) (Or.inr ⟨by rfl, rfl⟩) ?_ ?_
              rotate_left
              · simp only [Act.put, List.setIfInBounds_toArray, List.set_cons_zero, List.set_cons_succ, i64_w, i32_w]
                rfl
              refine pure_ (i := 10) (N := some 52) (v := undef) (a' := ?_) #[true, true, true, true, true, true, true, true, true, true, true, false, false, false, false] rfl rfl (any_of HT_.out (by kernel_rfl)) (fun _ _ _ h => h) (Or.inr ⟨by rfl, rfl⟩) ?_ ?_
              rotate_left
              · simp only [Act.put, List.setIfInBounds_toArray, List.set_cons_zero, List.set_cons_succ, i64_w, i32_w]
                rfl
              refine pure_ (i := 11) (N := some 53) (v := undef) (a' := ?_) #[true, true, true, true, true, true, true, true, true, true, true, true, false, false, false] rfl rfl (any_of HT_.out (by kernel_rfl)) (fun _ _ _ h => h) (Or.inr ⟨by rfl, rfl⟩) ?_ ?_
              rotate_left
              · simp only [Act.put, List.setIfInBounds_toArray, List.set_cons_zero, List.set_cons_succ, i64_w, i32_w]
                rfl
              refine pure_ (i := 12) (N := some 54) (v := undef) (a' := ?_) #[true, true, true, true, true, true, true, true, true, true, true, true, true, false, false] rfl rfl (any_of HT_.out (by kernel_rfl)) (fun _ _ _ h => h) (Or.inr ⟨by rfl, rfl⟩) ?_ ?_
              rotate_left
              · simp only [Act.put, List.setIfInBounds_toArray, List.set_cons_zero, List.set_cons_succ, i64_w, i32_w]
                rfl
              refine pure_ (i := 13) (N := some 55) (v := undef) (a' := ?_) #[true, true, true, true, true, true, true, true, true, true, true, true, true, true, false] rfl rfl (any_of HT_.out (by kernel_rfl)) (fun _ _ _ h => h) (Or.inr ⟨by rfl, rfl⟩) ?_ ?_
              rotate_left
              · simp only [Act.put, List.setIfInBounds_toArray, List.set_cons_zero, List.set_cons_succ, i64_w, i32_w]
                rfl
              refine pure_ (i := 14) (N := some 56) (v := ?_) (a' := ?_) #[true, true, true, true, true, true, true, true, true, true, true, true, true, true, true] rfl rfl (any_of HT_.out (by kernel_rfl)) (fun _ _ _ h => h) (Or.inl ⟨by rfl, ?_⟩) ?_ ?_
              rotate_left
              · intro w'
                go_simp
                with_reducible rfl
              rotate_left
              · simp only [Act.put, List.setIfInBounds_toArray, List.set_cons_zero, List.set_cons_succ, i64_w, i32_w]
                rfl
              refine done_ (done_of HT_.out (by kernel_rfl)) ?_
              try go_wp2
              go_meet
              case rel => exact ⟨_, (true), (by first | rfl | (simp; done) | (simp [*]; done)), H', ⟨by have := HJ3.out; first | omega | exact Nat.le_refl _⟩, ⟨vM HO298⟩, ⟨vM HO307⟩, ⟨kk BK291⟩, ⟨kk BK301⟩, ⟨kk BK310⟩, ⟨bb HB⟩⟩
          · rw [if_neg c26] at H
            have c26b0 : (t299 == t308) = false := beq_eq_false_iff_ne.mpr c26
            have c26b1 : (t299 != t308) = true := bne_iff_ne.mpr c26
            (first | rw [c26b0] | (simp only [i64_w, i32_w]; rw [c26b0]) | skip)
            have H' := Aside0.mk H
            clear H
            try go_wp2
            obtain ⟨w37, hw⟩ : ∃ w_, w_ = ((((w21.setCell ⟨gb310, 0, none⟩ (.int .i64 t302)).setCell ⟨gb310, 1, none⟩ (.int .i64 t303)).setCell ⟨gb310, 2, none⟩ (.int .i64 t304)).setCell ⟨gb310, 3, none⟩ (.slice Ao25 t305.length co25)) := ⟨_, rfl⟩
            rw [← hw]
            replace HO298 := vS (fun k_ => k_ ≠ gb291 ∧ k_ ≠ gb301 ∧ k_ ≠ gb310) HO298 hw
            replace HO307 := vS (fun k_ => k_ ≠ gb291 ∧ k_ ≠ gb301 ∧ k_ ≠ gb310) HO307 hw
            replace BK291 := kS BK291 hw
            replace BK301 := kS BK301 hw
            replace BK310 := kP4 BK310 hw
            replace HB := hS HB hw
            clear hw
            replace HO298 := Aside0.mk (Kd.V_drew HO298.out)
            replace HO307 := Aside0.mk (Kd.V_drew HO307.out)
            replace BK291 := Aside0.mk (blk_drew BK291.out)
            replace BK301 := Aside0.mk (blk_drew BK301.out)
            replace BK310 := Aside0.mk (blk_drew BK310.out)
            replace HB := Aside0.mk (below_drew1 HB.out)
            refine start_ (n := 15) (S := fun w' => True) (ds := []) #[false, false, false, false, false, false, false, false, false, false, false, false, false, false, false] (by kernel_rfl) rfl rfl trivial (fun hHeld => ?_); refine with_tabW pentroughlaw23_ScriptIs.tab6 pentroughlaw23_ScriptIs.bits6 (fun HT_ HW_ => ?_)
            generalize w37.drew = w38 at HO298 HO307 BK291 BK301 BK310 HB hHeld ⊢
            refine pure_ (i := 0) (N := some 42) (v := ?_) (a' := ?_) #[true, false, false, false, false, false, false, false, false, false, false, false, false, false, false] rfl rfl (any_of HT_.out (by kernel_rfl)) (fun _ _ _ h => h) (Or.inl ⟨by rfl, ?_⟩) ?_ ?_
            rotate_left
            · intro w'
              go_simp
              with_reducible rfl
            rotate_left
            · simp only [Act.put, List.setIfInBounds_toArray, List.set_cons_zero, List.set_cons_succ, i64_w, i32_w]
              rfl
            refine pure_ (i := 1) (N := some 43) (v := ?_) (a' := ?_) #[true, true, false, false, false, false, false, false, false, false, false, false, false, false, false] rfl rfl (any_of HT_.out (by kernel_rfl)) (fun _ _ _ h => h) (Or.inl ⟨by rfl, ?_⟩) ?_ ?_
            rotate_left
            · intro w'
              go_simp
              with_reducible rfl
            rotate_left
            · simp only [Act.put, List.setIfInBounds_toArray, List.set_cons_zero, List.set_cons_succ, i64_w, i32_w]
              rfl
            refine pure_ (i := 2) (N := some 44) (v := ?_) (a' := ?_) #[true, true, true, false, false, false, false, false, false, false, false, false, false, false, false] rfl rfl (any_of HT_.out (by kernel_rfl)) (fun _ _ _ h => h) (Or.inl ⟨by rfl, ?_⟩) ?_ ?_
            rotate_left
            · intro w'
              go_simp
              with_reducible rfl
            rotate_left
            · simp only [Act.put, List.setIfInBounds_toArray, List.set_cons_zero, List.set_cons_succ, i64_w, i32_w]
              rfl
            refine pure_ (i := 3) (N := some 45) (v := ?_) (a' := ?_) #[true, true, true, true, false, false, false, false, false, false, false, false, false, false, false] rfl rfl (any_of HT_.out (by kernel_rfl)) (fun _ _ _ h => h) (Or.inl ⟨by rfl, ?_⟩) ?_ ?_
            rotate_left
            · intro w'
              go_simp
              with_reducible rfl
            rotate_left
            · simp only [Act.put, List.setIfInBounds_toArray, List.set_cons_zero, List.set_cons_succ, i64_w, i32_w]
              rfl
            refine pure_ (i := 4) (N := some 46) (v := undef) (a' := ?_) #[true, true, true, true, true, false, false, false, false, false, false, false, false, false, false] rfl rfl (any_of HT_.out (by kernel_rfl)) (fun _ _ _ h => h) (Or.inr ⟨by rfl, rfl⟩) ?_ ?_
            rotate_left
            · simp only [Act.put, List.setIfInBounds_toArray, List.set_cons_zero, List.set_cons_succ, i64_w, i32_w]
              rfl
            refine pure_ (i := 5) (N := some 47) (v := undef) (a' := ?_) #[true, true, true, true, true, true, false, false, false, false, false, false, false, false, false] rfl rfl (any_of HT_.out (by kernel_rfl)) (fun _ _ _ h => h) (Or.inr ⟨by rfl, rfl⟩) ?_ ?_
            rotate_left
            · simp only [Act.put, List.setIfInBounds_toArray, List.set_cons_zero, List.set_cons_succ, i64_w, i32_w]
              rfl
            refine pure_ (i := 6) (N := some 48) (v := undef) (a' := ?_) #[true, true, true, true, true, true, true, false, false, false, false, false, false, false, false] rfl rfl (any_of HT_.out (by kernel_rfl)) (fun _ _ _ h => h) (Or.inr ⟨by rfl, rfl⟩) ?_ ?_
            rotate_left
            · simp only [Act.put, List.setIfInBounds_toArray, List.set_cons_zero, List.set_cons_succ, i64_w, i32_w]
              rfl
            refine pure_ (i := 7) (N := some 49) (v := ?_) (a' := ?_) #[true, true, true, true, true, true, true, true, false, false, false, false, false, false, false] rfl rfl (any_of HT_.out (by kernel_rfl)) (fun _ _ _ h => h) (Or.inl ⟨by rfl, ?_⟩) ?_ ?_
            rotate_left
            · intro w'
              go_simp
              with_reducible rfl
            rotate_left
            · simp only [Act.put, List.setIfInBounds_toArray, List.set_cons_zero, List.set_cons_succ, i64_w, i32_w]
              rfl
            refine pure_ (i := 8) (N := some 50) (v := ?_) (a' := ?_) #[true, true, true, true, true, true, true, true, true, false, false, false, false, false, false] rfl rfl (any_of HT_.out (by kernel_rfl)) (fun _ _ _ h => h) (Or.inl ⟨by rfl, ?_⟩) ?_ ?_
            rotate_left
            · intro w'
              go_simp
              with_reducible rfl
            rotate_left
            · simp only [Act.put, List.setIfInBounds_toArray, List.set_cons_zero, List.set_cons_succ, i64_w, i32_w]
              rfl
            refine pure_ (i := 9) (N := some 51) (v := undef) (a' := ?_) #[true, true, true, true, true, true, true, true, true, true, false, false, false, false, false] rfl rfl (any_of HT_.out (by kernel_rfl)) (fun _ _ _ h => h) (Or.inr ⟨by rfl, rfl⟩) ?_ ?_
            rotate_left
            · simp only [Act.put, List.setIfInBounds_toArray, List.set_cons_zero, List.set_cons_succ, i64_w, i32_w]
              rfl
            refine pure_ (i := 10) (N := some 52) (v := undef) (a' := ?_) #[true, true, true, true, true, true, true, true, true, true, true, false, false, false, false] rfl rfl (any_of HT_.out (by kernel_rfl)) (fun _ _ _ h => h) (Or.inr ⟨by rfl, rfl⟩) ?_ ?_
            rotate_left
            · simp only [Act.put, List.setIfInBounds_toArray, List.set_cons_zero, List.set_cons_succ, i64_w, i32_w]
              rfl
            refine pure_ (i := 11) (N := some 53) (v := undef) (a' := ?_) #[true, true, true, true, true, true, true, true, true, true, true, true, false, false, false] rfl rfl (any_of HT_.out (by kernel_rfl)) (fun _ _ _ h => h) (Or.inr ⟨by rfl, rfl⟩) ?_ ?_
            rotate_left
            · simp only [Act.put, List.setIfInBounds_toArray, List.set_cons_zero, List.set_cons_succ, i64_w, i32_w]
              rfl
            refine pure_ (i := 12) (N := some 54) (v := undef) (a' := ?_) #[true, true, true, true, true, true, true, true, true, true, true, true, true, false, false] rfl rfl (any_of HT_.out (by kernel_rfl)) (fun _ _ _ h => h) (Or.inr ⟨by rfl, rfl⟩) ?_ ?_
            rotate_left
            · simp only [Act.put, List.setIfInBounds_toArray, List.set_cons_zero, List.set_cons_succ, i64_w, i32_w]
              rfl
            refine pure_ (i := 13) (N := some 55) (v := undef) (a' := ?_) #[true, true, true, true, true, true, true, true, true, true, true, true, true, true, false] rfl rfl (any_of HT_.out (by kernel_rfl)) (fun _ _ _ h => h) (Or.inr ⟨by rfl, rfl⟩) ?_ ?_
            rotate_left
            · simp only [Act.put, List.setIfInBounds_toArray, List.set_cons_zero, List.set_cons_succ, i64_w, i32_w]
              rfl
            refine pure_ (i := 14) (N := some 56) (v := ?_) (a' := ?_) #[true, true, true, true, true, true, true, true, true, true, true, true, true, true, true] rfl rfl (any_of HT_.out (by kernel_rfl)) (fun _ _ _ h => h) (Or.inl ⟨by rfl, ?_⟩) ?_ ?_
            rotate_left
            · intro w'
              go_simp
              with_reducible rfl
            rotate_left
            · simp only [Act.put, List.setIfInBounds_toArray, List.set_cons_zero, List.set_cons_succ, i64_w, i32_w]
              rfl
            refine done_ (done_of HT_.out (by kernel_rfl)) ?_
            try go_wp2
            go_meet
            case rel => exact ⟨_, (true), (by first | rfl | (simp; done) | (simp [*]; done)), H', ⟨by have := HJ3.out; first | omega | exact Nat.le_refl _⟩, ⟨vM HO298⟩, ⟨vM HO307⟩, ⟨kk BK291⟩, ⟨kk BK301⟩, ⟨kk BK310⟩, ⟨bb HB⟩⟩
        case rest =>
          clear HC13
          try clear c1
          try clear c2
          try clear p2
          try clear c10
          try clear c13
          try clear c14
          try clear c15
          try clear c16
          try clear c17
          try clear c22
          try clear c23
          try clear c26
          try clear c26b0
          try clear c26b1
          try clear c27
          try clear c27b0
          try clear c27b1
          try clear hcz17_0
          try clear hcz17_1
          try clear hcz17_2
          try clear hcz17_3
          try clear hcz24_0
          try clear hcz24_1
          try clear hcz24_2
          try clear hcz24_3
          try clear hcz9_2
          try clear hcz9_3
          try clear hfz17_0
          try clear hfz17_1
          try clear hfz17_2
          try clear hfz17_3
          try clear hfz24_0
          try clear hfz24_1
          try clear hfz24_2
          try clear hfz24_3
          try clear hfz8_0
          try clear hfz8_1
          try clear hfz8_2
          try clear hfz8_3
          try clear hfz9_0
          try clear hfz9_1
          try clear hfz9_2
          try clear hfz9_3
          obtain ⟨kq, x56_12, rfl, HA, HJ12, HO_302003, HO_311003, BK291, BK301, BK310, HB⟩ := hcut
          cases kq with
          | zero => exact absurd HA.out (by simp [pentroughlaw23_ScriptIs.j1])
          | succ kj12 =>
            have H := HA.out
            clear HA
            simp only [pentroughlaw23_ScriptIs.j1] at H
            by_cases c39 : x56_12 = true
            · subst c39
              rw [if_pos rfl] at H
              cases H; exact absurd HRT.out (by decide)
            · replace c39 := Bool.eq_false_iff.mpr c39
              subst c39
              rw [if_neg nf] at H
              obtain ⟨⟨t318, t321, t322⟩, A40, H⟩ := ob H
              (try dsimp only at H)
              obtain ⟨⟨t323, t326, t327⟩, A41, H⟩ := ob H
              (try dsimp only at H)
              have HC42 := Aside0.mk H
              clear H
              go_upto_region 10 with (first | ((with_reducible refine gate_callee (f := 18) rfl ?_); refine gL (some 59) rfl rfl Try.func18 (by kernel_rfl) rfl #[.slice A1 l1.length c1] rfl ?_; (with_reducible refine (script_All.calls kj12 (fun k_ => k_ < w.heap.size) _ _ l1 t318 t321 t322 _ ?side1 A40.out).mono ?_); (case side1 => exact Kd.V_mk HC1.out (Kd.F_below (Kd.C_F (Kd.heap_int .u8) HR1.out) (bb HB))); rintro e w43 ⟨v319, rfl, ho0, hb⟩; refine ⟨_, rfl, ?_⟩; replace HO_302003 := Aside0.mk (Kd.V_elder' (vv HO_302003) (Kd.N_base ho0) hb); replace HO_311003 := Aside0.mk (Kd.V_elder' (vv HO_311003) (Kd.N_base ho0) hb); have HO320 := Aside0.mk (Kd.N_lower (Kd.N_mono (ok' := fun k_ => k_ ≠ gb291 ∧ k_ ≠ gb301 ∧ k_ ≠ gb310) ho0 (fun k_ hk_ => ⟨o2 hk_ (gw GW291) (Kd.freshB (kk BK291) k_), o2 hk_ (gw GW301) (Kd.freshB (kk BK301) k_), o2 hk_ (gw GW310) (Kd.freshB (kk BK310) k_)⟩)) (below_size (bb HB))); replace BK291 := kB BK291 hb; replace BK301 := kB BK301 hb; replace BK310 := kB BK310 hb; replace HB := hB HB hb; (try clear hb); (try clear hb2); (try clear hk); (try clear hi); (try clear ho0)) | ((with_reducible refine gate_callee (f := 19) rfl ?_); refine gL (some 65) rfl rfl Try.func19 (by kernel_rfl) rfl #[.slice A1 l1.length c1] rfl ?_; (with_reducible refine (pentroughref23_All.calls kj12 (fun k_ => k_ < w.heap.size) _ _ l1 t323 t326 t327 _ ?side1 A41.out).mono ?_); (case side1 => exact Kd.V_mk HC1.out (Kd.F_below (Kd.C_F (Kd.heap_int .u8) HR1.out) (bb HB))); rintro e w44 ⟨v324, rfl, ho0, hb⟩; refine ⟨_, rfl, ?_⟩; replace HO_302003 := Aside0.mk (Kd.V_elder' (vv HO_302003) (Kd.N_base ho0) hb); replace HO_311003 := Aside0.mk (Kd.V_elder' (vv HO_311003) (Kd.N_base ho0) hb); have HO325 := Aside0.mk (Kd.N_lower (Kd.N_mono (ok' := fun k_ => some k_ ≠ (v319 : Value).ownBlock ∧ k_ ≠ gb291 ∧ k_ ≠ gb301 ∧ k_ ≠ gb310) ho0 (fun k_ hk_ => ⟨Or.elim hk_ (fun hs_ => fun e_ => Nat.not_le.2 hs_ (Kd.N_base HO320.out k_ e_.symm)) (fun hn_ => (Kd.fresh' (Kd.N_lt (by (with_reducible repeat (first | apply Kd.N_alloc | apply Kd.N_drewN | apply Kd.N_drew)); exact HO320.out)) k_ hn_)), o2 hk_ (gw GW291) (Kd.freshB (kk BK291) k_), o2 hk_ (gw GW301) (Kd.freshB (kk BK301) k_), o2 hk_ (gw GW310) (Kd.freshB (kk BK310) k_)⟩)) (below_size (bb HB))); replace HO320 := Aside0.mk (Kd.N_elder' (by (with_reducible repeat (first | apply Kd.N_alloc | apply Kd.N_drewN | apply Kd.N_drew)); exact HO320.out) (Kd.N_base ho0) hb); replace BK291 := kB BK291 hb; replace BK301 := kB BK301 hb; replace BK310 := kB BK310 hb; replace HB := hB HB hb; (try clear hb); (try clear hb2); (try clear hk); (try clear hi); (try clear ho0)))
              (try simp only [Act.put, List.setIfInBounds_toArray, List.set_cons_zero, List.set_cons_succ])
              go_cut [83] (fun v83 wc => ∃ (kq : Nat) (x83_41 : Bool), v83 = .bool x83_41 ∧ Aside0 (pentroughlaw23_ScriptIs.j2 kq t292 t318 t323 x83_41 a0_0 a0_1 a0_2 l0_3 = some r) ∧ Aside0 (kq ≤ kj12) ∧ Aside0 (Kd.N k27 27 wc w.heap.size (fun k_ => some k_ ≠ (v324 : Value).ownBlock ∧ k_ ≠ gb291 ∧ k_ ≠ gb301 ∧ k_ ≠ gb310) v319 t318) ∧ Aside0 (Kd.N k24 24 wc w.heap.size (fun k_ => some k_ ≠ (v319 : Value).ownBlock ∧ k_ ≠ gb291 ∧ k_ ≠ gb301 ∧ k_ ≠ gb310) v324 t323) ∧ Aside0 (Kd.V (Kd.int .u8) 5 wc w.heap.size (fun k_ => some k_ ≠ (v319 : Value).ownBlock ∧ some k_ ≠ (v324 : Value).ownBlock ∧ k_ ≠ gb291 ∧ k_ ≠ gb301 ∧ k_ ≠ gb310) (.slice Ao18 t296.length co18) t296) ∧ Aside0 (Kd.V (Kd.int .u8) 5 wc w.heap.size (fun k_ => some k_ ≠ (v319 : Value).ownBlock ∧ some k_ ≠ (v324 : Value).ownBlock ∧ k_ ≠ gb291 ∧ k_ ≠ gb301 ∧ k_ ≠ gb310) (.slice Ao25 t305.length co25) t305) ∧ Aside0 (wc.heap[gb291]? = some (.cells #[.int .i64 a0_0, .int .i64 a0_1, .int .i64 a0_2, (.slice A0_3 l0_3.length c0_3)] 24 (0, 0))) ∧ Aside0 (wc.heap[gb301]? = some (.cells #[.int .i64 t293, .int .i64 t294, .int .i64 t295, (.slice Ao18 t296.length co18)] 27 (0, 0))) ∧ Aside0 (wc.heap[gb310]? = some (.cells #[.int .i64 t302, .int .i64 t303, .int .i64 t304, (.slice Ao25 t305.length co25)] 24 (0, 0))) ∧ Aside0 (Below w.heap.size w wc))
              case first =>
                have H := HC42.out
                clear HC42
                by_cases c45 : (t318.length : Int) = (t323.length : Int)
                · rw [if_pos c45] at H
                  have c45b0 : ((t318.length : Int) == (t323.length : Int)) = true := beq_iff_eq.mpr c45
                  have c45b1 : ((t318.length : Int) != (t323.length : Int)) = false := bne_eq_false_iff_eq.mpr c45
                  have c45b2 : (t318.length == t323.length) = true := by first | simpa using c45 | (simp at c45 ⊢; omega)
                  clear c45
                  (first | rw [c45b0] | (simp only [i64_w, i32_w]; rw [c45b0]) | skip)
                  by_cases c46 : t321 = t326
                  · rw [if_pos c46] at H
                    have c46b0 : (t321 == t326) = true := beq_iff_eq.mpr c46
                    have c46b1 : (t321 != t326) = false := bne_eq_false_iff_eq.mpr c46
                    clear c46
                    have H' := Aside0.mk H
                    clear H
                    obtain ⟨Ao47, co47, eo47⟩ := Kd.N_slice HO320.out
                    subst eo47
                    obtain ⟨Ao48, co48, eo48⟩ := Kd.N_slice HO325.out
                    subst eo48
                    go_wp2
                    go_meet
                    case rel => exact ⟨_, ((t322 != t327)), (by first | rfl | (simp; done) | (simp [*]; done)), H', ⟨by have := HJ3.out; have := HJ12.out; first | omega | exact Nat.le_refl _⟩, ⟨by (with_reducible repeat (first | apply Kd.N_alloc | apply Kd.N_drewN | apply Kd.N_drew)); exact Kd.N_mono HO320.out (fun _ hk => ⟨hk.2, ⟨hk.1.1, ⟨hk.1.2.1, hk.1.2.2⟩⟩⟩)⟩, ⟨by (with_reducible repeat (first | apply Kd.N_alloc | apply Kd.N_drewN | apply Kd.N_drew)); exact HO325.out⟩, ⟨vM HO_302003⟩, ⟨vM HO_311003⟩, ⟨kk BK291⟩, ⟨kk BK301⟩, ⟨kk BK310⟩, ⟨bb HB⟩⟩
                  · rw [if_neg c46] at H
                    have c46b0 : (t321 == t326) = false := beq_eq_false_iff_ne.mpr c46
                    have c46b1 : (t321 != t326) = true := bne_iff_ne.mpr c46
                    have H' := Aside0.mk H
                    clear H
                    obtain ⟨Ao49, co49, eo49⟩ := Kd.N_slice HO320.out
                    subst eo49
                    obtain ⟨Ao50, co50, eo50⟩ := Kd.N_slice HO325.out
                    subst eo50
                    go_wp2
                    go_meet
                    case rel => exact ⟨_, (true), (by first | rfl | (simp; done) | (simp [*]; done)), H', ⟨by have := HJ3.out; have := HJ12.out; first | omega | exact Nat.le_refl _⟩, ⟨by (with_reducible repeat (first | apply Kd.N_alloc | apply Kd.N_drewN | apply Kd.N_drew)); exact Kd.N_mono HO320.out (fun _ hk => ⟨hk.2, ⟨hk.1.1, ⟨hk.1.2.1, hk.1.2.2⟩⟩⟩)⟩, ⟨by (with_reducible repeat (first | apply Kd.N_alloc | apply Kd.N_drewN | apply Kd.N_drew)); exact HO325.out⟩, ⟨vM HO_302003⟩, ⟨vM HO_311003⟩, ⟨kk BK291⟩, ⟨kk BK301⟩, ⟨kk BK310⟩, ⟨bb HB⟩⟩
                · rw [if_neg c45] at H
                  have c45b0 : ((t318.length : Int) == (t323.length : Int)) = false := beq_eq_false_iff_ne.mpr c45
                  have c45b1 : ((t318.length : Int) != (t323.length : Int)) = true := bne_iff_ne.mpr c45
                  have c45b2 : (t318.length == t323.length) = false := by first | simpa using c45 | (simp at c45 ⊢; omega)
                  (first | rw [c45b0] | (simp only [i64_w, i32_w]; rw [c45b0]) | skip)
                  have H' := Aside0.mk H
                  clear H
                  obtain ⟨Ao51, co51, eo51⟩ := Kd.N_slice HO320.out
                  subst eo51
                  obtain ⟨Ao52, co52, eo52⟩ := Kd.N_slice HO325.out
                  subst eo52
                  go_wp2
                  go_meet
                  case rel => exact ⟨_, (true), (by first | rfl | (simp; done) | (simp [*]; done)), H', ⟨by have := HJ3.out; have := HJ12.out; first | omega | exact Nat.le_refl _⟩, ⟨by (with_reducible repeat (first | apply Kd.N_alloc | apply Kd.N_drewN | apply Kd.N_drew)); exact Kd.N_mono HO320.out (fun _ hk => ⟨hk.2, ⟨hk.1.1, ⟨hk.1.2.1, hk.1.2.2⟩⟩⟩)⟩, ⟨by (with_reducible repeat (first | apply Kd.N_alloc | apply Kd.N_drewN | apply Kd.N_drew)); exact HO325.out⟩, ⟨vM HO_302003⟩, ⟨vM HO_311003⟩, ⟨kk BK291⟩, ⟨kk BK301⟩, ⟨kk BK310⟩, ⟨bb HB⟩⟩
              case rest =>
                clear HC42
                try clear c1
                try clear c2
                try clear p2
                try clear c3
                try clear c4
                try clear c10
                try clear c13
                try clear c14
                try clear c15
                try clear c16
                try clear c17
                try clear c18
                try clear c19
                try clear c22
                try clear c23
                try clear c26
                try clear c26b0
                try clear c26b1
                try clear c27
                try clear c27b0
                try clear c27b1
                try clear c39
                try clear c45
                try clear c45b0
                try clear c45b1
                try clear c45b2
                try clear c46
                try clear c46b0
                try clear c46b1
                try clear hcz17_0
                try clear hcz17_1
                try clear hcz17_2
                try clear hcz17_3
                try clear hcz24_0
                try clear hcz24_1
                try clear hcz24_2
                try clear hcz24_3
                try clear hcz9_2
                try clear hcz9_3
                try clear hfz17_0
                try clear hfz17_1
                try clear hfz17_2
                try clear hfz17_3
                try clear hfz24_0
                try clear hfz24_1
                try clear hfz24_2
                try clear hfz24_3
                try clear hfz8_0
                try clear hfz8_1
                try clear hfz8_2
                try clear hfz8_3
                try clear hfz9_0
                try clear hfz9_1
                try clear hfz9_2
                try clear hfz9_3
                try clear p2
                obtain ⟨kq, x83_41, rfl, HA, HJ41, HO_12, HO_15, HO_302003, HO_311003, BK291, BK301, BK310, HB⟩ := hcut
                cases kq with
                | zero => exact absurd HA.out (by simp [pentroughlaw23_ScriptIs.j2])
                | succ kj41 =>
                  have H := HA.out
                  clear HA
                  simp only [pentroughlaw23_ScriptIs.j2] at H
                  by_cases c53 : x83_41 = true
                  · subst c53
                    rw [if_pos rfl] at H
                    cases H; exact absurd HRT.out (by decide)
                  · replace c53 := Bool.eq_false_iff.mpr c53
                    subst c53
                    rw [if_neg nf] at H
                    have H' := Aside0.mk H
                    clear H
                    go_wp2
                    go_loopg [18] kj41 (fun kq v18 w' => ∃ (x18_4 : Int), v18 = .int .i64 x18_4 ∧ Aside0 (pentroughlaw23_ScriptIs.l0 kq t292 t318 t323 x18_4 a0_0 a0_1 a0_2 l0_3 = some r) ∧ Aside0 (kq ≤ kj41) ∧ Aside0 (Kd.N k27 27 w' w.heap.size (fun k_ => some k_ ≠ (v324 : Value).ownBlock ∧ k_ ≠ gb291 ∧ k_ ≠ gb301 ∧ k_ ≠ gb310) v319 t318) ∧ Aside0 (Kd.N k24 24 w' w.heap.size (fun k_ => some k_ ≠ (v319 : Value).ownBlock ∧ k_ ≠ gb291 ∧ k_ ≠ gb301 ∧ k_ ≠ gb310) v324 t323) ∧ Aside0 (Kd.V (Kd.int .u8) 5 w' w.heap.size (fun k_ => some k_ ≠ (v319 : Value).ownBlock ∧ some k_ ≠ (v324 : Value).ownBlock ∧ k_ ≠ gb291 ∧ k_ ≠ gb301 ∧ k_ ≠ gb310) (.slice Ao18 t296.length co18) t296) ∧ Aside0 (Kd.V (Kd.int .u8) 5 w' w.heap.size (fun k_ => some k_ ≠ (v319 : Value).ownBlock ∧ some k_ ≠ (v324 : Value).ownBlock ∧ k_ ≠ gb291 ∧ k_ ≠ gb301 ∧ k_ ≠ gb310) (.slice Ao25 t305.length co25) t305) ∧ Aside0 (w'.heap[gb291]? = some (.cells #[.int .i64 a0_0, .int .i64 a0_1, .int .i64 a0_2, (.slice A0_3 l0_3.length c0_3)] 24 (0, 0))) ∧ Aside0 (w'.heap[gb301]? = some (.cells #[.int .i64 t293, .int .i64 t294, .int .i64 t295, (.slice Ao18 t296.length co18)] 27 (0, 0))) ∧ Aside0 (w'.heap[gb310]? = some (.cells #[.int .i64 t302, .int .i64 t303, .int .i64 t304, (.slice Ao25 t305.length co25)] 24 (0, 0))) ∧ Aside0 (Below w.heap.size w w'))
                    case atStart => exact ⟨(0), (by first | rfl | (simp; done) | (simp [*]; done)), H', ⟨Nat.le_refl _⟩, ⟨by (with_reducible repeat (first | apply Kd.N_alloc | apply Kd.N_drewN | apply Kd.N_drew)); exact HO_12.out⟩, ⟨by (with_reducible repeat (first | apply Kd.N_alloc | apply Kd.N_drewN | apply Kd.N_drew)); exact HO_15.out⟩, ⟨vM HO_302003⟩, ⟨vM HO_311003⟩, ⟨kk BK291⟩, ⟨kk BK301⟩, ⟨kk BK310⟩, ⟨bb HB⟩⟩
                    case round =>
                      clear H'
                      try clear c1
                      try clear c2
                      try clear p2
                      try clear c3
                      try clear c4
                      try clear c5
                      try clear c10
                      try clear c13
                      try clear c14
                      try clear c15
                      try clear c16
                      try clear c17
                      try clear c18
                      try clear c19
                      try clear c22
                      try clear c23
                      try clear c26
                      try clear c26b0
                      try clear c26b1
                      try clear c27
                      try clear c27b0
                      try clear c27b1
                      try clear c39
                      try clear c45
                      try clear c45b0
                      try clear c45b1
                      try clear c45b2
                      try clear c46
                      try clear c46b0
                      try clear c46b1
                      try clear c53
                      try clear hcz17_0
                      try clear hcz17_1
                      try clear hcz17_2
                      try clear hcz17_3
                      try clear hcz24_0
                      try clear hcz24_1
                      try clear hcz24_2
                      try clear hcz24_3
                      try clear hcz9_2
                      try clear hcz9_3
                      try clear hfz17_0
                      try clear hfz17_1
                      try clear hfz17_2
                      try clear hfz17_3
                      try clear hfz24_0
                      try clear hfz24_1
                      try clear hfz24_2
                      try clear hfz24_3
                      try clear hfz8_0
                      try clear hfz8_1
                      try clear hfz8_2
                      try clear hfz8_3
                      try clear hfz9_0
                      try clear hfz9_1
                      try clear hfz9_2
                      try clear hfz9_3
                      try clear p2
                      obtain ⟨x18_4, rfl, HA, HK4, HO_12, HO_15, HO_302003, HO_311003, BK291, BK301, BK310, HB⟩ := hrel
                      cases gk with
                      | zero => exact absurd HA.out (by simp [pentroughlaw23_ScriptIs.l0])
                      | succ k4 =>
                        have H := HA.out
                        clear HA
                        simp only [pentroughlaw23_ScriptIs.l0] at H
                        by_cases c54 : x18_4 < (t318.length : Int)
                        · rw [if_pos c54] at H
                          have c54b0 : decide (x18_4 < (t318.length : Int)) = true := decide_eq_true c54
                          clear c54
                          by_cases c55 : 0 ≤ x18_4
                          · rw [if_pos c55] at H
                            have c55b0 : decide (0 ≤ x18_4) = true := decide_eq_true c55
                            clear c55
                            obtain ⟨⟨t329, t330, t331, t332⟩, A56, H⟩ := ob H
                            (try dsimp only at H)
                            by_cases c57 : x18_4 < (t323.length : Int)
                            · rw [if_pos c57] at H
                              have c57b0 : decide (x18_4 < (t323.length : Int)) = true := decide_eq_true c57
                              clear c57
                              obtain ⟨t336, A58, H⟩ := ob H
                              by_cases c59 : t336 = true
                              · subst c59
                                rw [if_pos rfl] at H
                                have H' := Aside0.mk H
                                clear H
                                obtain ⟨Ao60, co60, eo60⟩ := Kd.N_slice HO_12.out
                                subst eo60
                                try go_wp2
                                replace HO_12 := Aside0.mk (Kd.N_drew HO_12.out)
                                replace HO_15 := Aside0.mk (Kd.N_drew HO_15.out)
                                replace HO_302003 := Aside0.mk (Kd.V_drew HO_302003.out)
                                replace HO_311003 := Aside0.mk (Kd.V_drew HO_311003.out)
                                replace BK291 := Aside0.mk (blk_drew BK291.out)
                                replace BK301 := Aside0.mk (blk_drew BK301.out)
                                replace BK310 := Aside0.mk (blk_drew BK310.out)
                                replace HB := Aside0.mk (below_drew1 HB.out)
                                have p328 : 0 ≤ (x18_4 : Int) := of_decide_eq_true (by first | (with_reducible assumption) | assumption)
                                have q328 : x18_4 < (t318.length : Int) := of_decide_eq_true (by first | (with_reducible assumption) | assumption)
                                obtain ⟨ad328, A328_3, c328_3, e328, hx328_0, hx328_1, hx328_2, hx328_3, hl328_3, hi328_3⟩ := at_T27 (Kd.N_reads' HO_12.out).2.2 x18_4 p328 q328
                                cases e328
                                obtain ⟨ce328, hce328, hMe328, hcc328⟩ := Kd.N_get HO_12.out z27 x18_4 p328 (by first | exact q328 | exact of_decide_eq_true (by first | (with_reducible assumption) | assumption) | (have e_ := (Kd.N_reads' HO_12.out).1; omega))
                                obtain ⟨ua328_3, uc328_3, rfl, ul328_3, ge328_3⟩ := k27_openF hMe328
                                have hv328_3 := hcc328 3 _ rfl
                                rw [add_field _ _ 3 (by omega)] at hv328_3
                                replace hv328_3 := Option.some.inj (hv328_3.symm.trans hx328_3)
                                injection hv328_3 with hva_ hvn_ hvc_
                                rw [hva_] at ge328_3
                                rw [hvc_] at ul328_3
                                have HL328_3 := Aside0.mk (show Kd.V (Kd.int .u8) 5 _ w.heap.size _ _ ((rd_T27 t318 x18_4).f3) from Kd.V_mk ul328_3 ge328_3)
                                clear hva_ hvn_ hvc_ ge328_3 ul328_3
                                clear hcc328 hce328
                                have HR328_3 := Aside0.mk hi328_3
                                have HC328_3 := Aside0.mk hl328_3
                                clear hi328_3 hl328_3
                                replace p328 := eq_true p328
                                replace q328 := eq_true q328
                                obtain ⟨Ao62, co62, eo62⟩ := Kd.N_slice HO_15.out
                                (first | subst eo62 | (injection eo62 with f1_ f2_ f3_; have f4_ := f1_.symm; have f5_ := f3_.symm; clear f1_ f2_ f3_; subst f4_; subst f5_))
                                have p335 : 0 ≤ (x18_4 : Int) := of_decide_eq_true (by first | (with_reducible assumption) | assumption)
                                have q335 : x18_4 < (t323.length : Int) := of_decide_eq_true (by first | (with_reducible assumption) | assumption)
                                obtain ⟨ad335, A335_3, c335_3, e335, hx335_0, hx335_1, hx335_2, hx335_3, hl335_3, hi335_3⟩ := at_T24 (Kd.N_reads' HO_15.out).2.2 x18_4 p335 q335
                                cases e335
                                obtain ⟨ce335, hce335, hMe335, hcc335⟩ := Kd.N_get HO_15.out z24 x18_4 p335 (by first | exact q335 | exact of_decide_eq_true (by first | (with_reducible assumption) | assumption) | (have e_ := (Kd.N_reads' HO_15.out).1; omega))
                                obtain ⟨ua335_3, uc335_3, rfl, ul335_3, ge335_3⟩ := k24_openF hMe335
                                have hv335_3 := hcc335 3 _ rfl
                                rw [add_field _ _ 3 (by omega)] at hv335_3
                                replace hv335_3 := Option.some.inj (hv335_3.symm.trans hx335_3)
                                injection hv335_3 with hva_ hvn_ hvc_
                                rw [hva_] at ge335_3
                                rw [hvc_] at ul335_3
                                have HL335_3 := Aside0.mk (show Kd.V (Kd.int .u8) 5 _ w.heap.size _ _ ((rd_T24 t323 x18_4).f3) from Kd.V_mk ul335_3 ge335_3)
                                clear hva_ hvn_ hvc_ ge335_3 ul335_3
                                clear hcc335 hce335
                                have HR335_3 := Aside0.mk hi335_3
                                have HC335_3 := Aside0.mk hl335_3
                                clear hi335_3 hl335_3
                                replace p335 := eq_true p335
                                replace q335 := eq_true q335
                                refine start_ (n := 11) (S := fun w' => w'.cell? (ad328.add ((x18_4).toNat * 4)) = some (.int .i64 ((rd_T27 t318 x18_4).f0)) ∧ w'.cell? ⟨(ad328.add ((x18_4).toNat * 4)).block, (ad328.add ((x18_4).toNat * 4)).off + 1, none⟩ = some (.int .i64 ((rd_T27 t318 x18_4).f1)) ∧ w'.cell? ⟨(ad328.add ((x18_4).toNat * 4)).block, (ad328.add ((x18_4).toNat * 4)).off + 2, none⟩ = some (.int .i64 ((rd_T27 t318 x18_4).f2)) ∧ w'.cell? ⟨(ad328.add ((x18_4).toNat * 4)).block, (ad328.add ((x18_4).toNat * 4)).off + 3, none⟩ = some (.slice A328_3 ((rd_T27 t318 x18_4).f3).length c328_3) ∧ w'.cell? (ad335.add ((x18_4).toNat * 4)) = some (.int .i64 ((rd_T24 t323 x18_4).f0)) ∧ w'.cell? ⟨(ad335.add ((x18_4).toNat * 4)).block, (ad335.add ((x18_4).toNat * 4)).off + 1, none⟩ = some (.int .i64 ((rd_T24 t323 x18_4).f1)) ∧ w'.cell? ⟨(ad335.add ((x18_4).toNat * 4)).block, (ad335.add ((x18_4).toNat * 4)).off + 2, none⟩ = some (.int .i64 ((rd_T24 t323 x18_4).f2)) ∧ w'.cell? ⟨(ad335.add ((x18_4).toNat * 4)).block, (ad335.add ((x18_4).toNat * 4)).off + 3, none⟩ = some (.slice A335_3 ((rd_T24 t323 x18_4).f3).length c335_3)) (ds := []) #[false, false, false, false, false, false, false, false, false, false, false] (by kernel_rfl) rfl rfl ⟨hx328_0, hx328_1, hx328_2, hx328_3, hx335_0, hx335_1, hx335_2, hx335_3⟩ (fun hHeld => ?_); refine with_tabW pentroughlaw23_ScriptIs.tab15 pentroughlaw23_ScriptIs.bits15 (fun HT_ HW_ => ?_)
                                generalize wr.drew = w61 at HO_12 HO_15 HO_302003 HO_311003 BK291 BK301 BK310 HB HL328_3 HL335_3 HR328_3 HR335_3 hx328_0 hx328_1 hx328_2 hx328_3 hx335_0 hx335_1 hx335_2 hx335_3 hHeld ⊢
                                refine pure_ (i := 0) (N := some 90) (v := ?_) (a' := ?_) #[true, false, false, false, false, false, false, false, false, false, false] rfl rfl (any_of HT_.out (by kernel_rfl)) (fun _ _ _ h => h) (Or.inl ⟨by rfl, ?_⟩) ?_ ?_
                                rotate_left
                                · intro w'
                                  go_simp
                                  with_reducible rfl
                                rotate_left
                                · simp only [Act.put, List.setIfInBounds_toArray, List.set_cons_zero, List.set_cons_succ, i64_w, i32_w]
                                  rfl
                                refine pure_ (i := 1) (N := some 91) (v := ?_) (a' := ?_) #[true, true, false, false, false, false, false, false, false, false, false] rfl rfl (any_of HT_.out (by kernel_rfl)) (fun _ _ _ h => h) (Or.inl ⟨by rfl, ?_⟩) ?_ ?_
                                rotate_left
                                · intro w'
                                  go_simp
                                  with_reducible rfl
                                rotate_left
                                · simp only [Act.put, List.setIfInBounds_toArray, List.set_cons_zero, List.set_cons_succ, i64_w, i32_w]
                                  rfl
                                refine pure_ (i := 2) (N := some 92) (v := ?_) (a' := ?_) #[true, true, true, false, false, false, false, false, false, false, false] rfl rfl (any_of HT_.out (by kernel_rfl)) (fun _ _ _ h => h) (Or.inl ⟨by rfl, ?_⟩) ?_ ?_
                                rotate_left
                                · intro w'
                                  go_simp
                                  with_reducible rfl
                                rotate_left
                                · simp only [Act.put, List.setIfInBounds_toArray, List.set_cons_zero, List.set_cons_succ, i64_w, i32_w]
                                  rfl
                                refine pure_ (i := 5) (N := some 95) (v := ?_) (a' := ?_) #[true, true, true, false, false, true, false, false, false, false, false] rfl rfl (any_of HT_.out (by kernel_rfl)) (fun _ _ _ h => h) (Or.inl ⟨by rfl, ?_⟩) ?_ ?_
                                rotate_left
                                · intro w'
                                  go_simp
                                  with_reducible rfl
                                rotate_left
                                · simp only [Act.put, List.setIfInBounds_toArray, List.set_cons_zero, List.set_cons_succ, i64_w, i32_w]
                                  rfl
                                refine pure_ (i := 6) (N := some 96) (v := ?_) (a' := ?_) #[true, true, true, false, false, true, true, false, false, false, false] rfl rfl (any_of HT_.out (by kernel_rfl)) (fun _ _ _ h => h) (Or.inl ⟨by rfl, ?_⟩) ?_ ?_
                                rotate_left
                                · intro w'
                                  go_simp
                                  with_reducible rfl
                                rotate_left
                                · simp only [Act.put, List.setIfInBounds_toArray, List.set_cons_zero, List.set_cons_succ, i64_w, i32_w]
                                  rfl
                                refine pure_ (i := 7) (N := some 97) (v := ?_) (a' := ?_) #[true, true, true, false, false, true, true, true, false, false, false] rfl rfl (any_of HT_.out (by kernel_rfl)) (fun _ _ _ h => h) (Or.inl ⟨by rfl, ?_⟩) ?_ ?_
                                rotate_left
                                · intro w'
                                  go_simp
                                  with_reducible rfl
                                rotate_left
                                · simp only [Act.put, List.setIfInBounds_toArray, List.set_cons_zero, List.set_cons_succ, i64_w, i32_w]
                                  rfl
                                refine take_ (i := 3) (N := some 93) (v := ?_) (a' := ?_) #[true, true, true, true, false, true, true, true, false, false, false] rfl rfl (take_ofW HT_.out HW_.out (by kernel_rfl)) (fun _ _ _ h => h) (Or.inl ⟨by rfl, ?_⟩) hHeld ?_ ?_
                                rotate_left
                                · rintro w' ⟨s0, s1, s2, s3, s4, s5, s6, s7⟩
                                  go_simp
                                  with_reducible rfl
                                rotate_left
                                · simp only [Act.put, List.setIfInBounds_toArray, List.set_cons_zero, List.set_cons_succ, i64_w, i32_w]
                                  rfl
                                refine take_ (i := 8) (N := some 98) (v := ?_) (a' := ?_) #[true, true, true, true, false, true, true, true, true, false, false] rfl rfl (take_ofW HT_.out HW_.out (by kernel_rfl)) (fun _ _ _ h => h) (Or.inl ⟨by rfl, ?_⟩) hHeld ?_ ?_
                                rotate_left
                                · rintro w' ⟨s0, s1, s2, s3, s4, s5, s6, s7⟩
                                  go_simp
                                  with_reducible rfl
                                rotate_left
                                · simp only [Act.put, List.setIfInBounds_toArray, List.set_cons_zero, List.set_cons_succ, i64_w, i32_w]
                                  rfl
                                refine one_ (i := 4) (N := some 94) #[true, true, true, true, true, true, true, true, true, false, false] rfl rfl (one_of HT_.out (by kernel_rfl)) (by decide) (fun K hK => ?_)
                                refine gs Try.func15 (by kernel_rfl) rfl #[.agg #[.int .i64 ((rd_T27 t318 x18_4).f0), .int .i64 ((rd_T27 t318 x18_4).f1), .int .i64 ((rd_T27 t318 x18_4).f2), .slice A328_3 ((rd_T27 t318 x18_4).f3).length c328_3]] (by rfl) rfl rfl ?_
                                with_reducible refine (pentroughlaw23_theirs.calls ((rd_T27 t318 x18_4).f0) ((rd_T27 t318 x18_4).f1) ((rd_T27 t318 x18_4).f2) (fun k_ => ((some k_ ≠ (.slice (some ad335) t323.length co62 : Value).ownBlock ∧ (k_ ≠ gb291 ∧ (k_ ≠ gb301 ∧ k_ ≠ gb310))) ∧ some k_ ≠ (.slice (some ad328) t318.length co60 : Value).ownBlock)) _ _ ((rd_T27 t318 x18_4).f3) t329 t330 t331 t332 _ ?side1 A56.out).mono ?_
                                (case side1 => exact HL328_3.out)
                                rintro e w63 ⟨v333, rfl, ho0, hb⟩
                                have HS0_ := (hb.cell (World.block_lt_of_cell? _ _ (hHeld.1))).trans (hHeld.1)
                                have HS1_ := (hb.cell (World.block_lt_of_cell? _ _ (hHeld.2.1))).trans (hHeld.2.1)
                                have HS2_ := (hb.cell (World.block_lt_of_cell? _ _ (hHeld.2.2.1))).trans (hHeld.2.2.1)
                                have HS3_ := (hb.cell (World.block_lt_of_cell? _ _ (hHeld.2.2.2.1))).trans (hHeld.2.2.2.1)
                                have HS4_ := (hb.cell (World.block_lt_of_cell? _ _ (hHeld.2.2.2.2.1))).trans (hHeld.2.2.2.2.1)
                                have HS5_ := (hb.cell (World.block_lt_of_cell? _ _ (hHeld.2.2.2.2.2.1))).trans (hHeld.2.2.2.2.2.1)
                                have HS6_ := (hb.cell (World.block_lt_of_cell? _ _ (hHeld.2.2.2.2.2.2.1))).trans (hHeld.2.2.2.2.2.2.1)
                                have HS7_ := (hb.cell (World.block_lt_of_cell? _ _ (hHeld.2.2.2.2.2.2.2))).trans (hHeld.2.2.2.2.2.2.2)
                                refine ⟨_, rfl, ?_⟩
                                replace HO_302003 := vB HO_302003 hb
                                replace HO_311003 := vB HO_311003 hb
                                replace HL328_3 := vB HL328_3 hb
                                replace HL335_3 := vB HL335_3 hb
                                have HO334 := Aside0.mk (Kd.V_lower (Kd.V_mono (ok' := fun k_ => some k_ ≠ (.slice (some ad328) t318.length co60 : Value).ownBlock ∧ some k_ ≠ (.slice (some ad335) t323.length co62 : Value).ownBlock ∧ k_ ≠ gb291 ∧ k_ ≠ gb301 ∧ k_ ≠ gb310) ho0 (fun k_ hk_ => ⟨Or.elim hk_ (fun hs_ => hs_.2) (fun hn_ => (Kd.fresh' (Kd.N_lt (by (with_reducible repeat (first | apply Kd.N_alloc | apply Kd.N_drewN | apply Kd.N_drew)); exact HO_12.out)) k_ hn_)), Or.elim hk_ (fun hs_ => hs_.1.1) (fun hn_ => (Kd.fresh' (Kd.N_lt (by (with_reducible repeat (first | apply Kd.N_alloc | apply Kd.N_drewN | apply Kd.N_drew)); exact HO_15.out)) k_ hn_)), o2 hk_ (fun h => h.1.2.1) (Kd.freshB (kk BK291) k_), o2 hk_ (fun h => h.1.2.2.1) (Kd.freshB (kk BK301) k_), o2 hk_ (fun h => h.1.2.2.2) (Kd.freshB (kk BK310) k_)⟩)) (below_size (bb HB)))
                                replace HO_12 := Aside0.mk (Kd.N_below (by (with_reducible repeat (first | apply Kd.N_alloc | apply Kd.N_drewN | apply Kd.N_drew)); exact HO_12.out) hb)
                                replace HO_15 := Aside0.mk (Kd.N_below (by (with_reducible repeat (first | apply Kd.N_alloc | apply Kd.N_drewN | apply Kd.N_drew)); exact HO_15.out) hb)
                                replace BK291 := kB BK291 hb
                                replace BK301 := kB BK301 hb
                                replace BK310 := kB BK310 hb
                                replace HR328_3 := Aside0.mk (Kd.C_below (by repeat (first | (with_reducible exact HR328_3.out) | (with_reducible refine Kd.C_alloc ?_ _) | (with_reducible refine Kd.C_drewN ?_ _) | (with_reducible refine Kd.C_drew ?_) | exact HR328_3.out)) hb)
                                replace HR335_3 := Aside0.mk (Kd.C_below (by repeat (first | (with_reducible exact HR335_3.out) | (with_reducible refine Kd.C_alloc ?_ _) | (with_reducible refine Kd.C_drewN ?_ _) | (with_reducible refine Kd.C_drew ?_) | exact HR335_3.out)) hb)
                                replace HB := hB HB hb
                                (try clear hb)
                                (try clear hb2)
                                (try clear hk)
                                (try clear hi)
                                (try clear ho0)
                                obtain ⟨Ao64, co64, eo64⟩ := Kd.V_slice HO334.out
                                (first | subst eo64 | (injection eo64 with f1_ f2_ f3_; have f4_ := f1_.symm; have f5_ := f3_.symm; clear f1_ f2_ f3_; subst f4_; subst f5_))
                                refine hK.out _ _ ⟨HS0_, HS1_, HS2_, HS3_, HS4_, HS5_, HS6_, HS7_⟩ (fun hHeld => ?_)
                                clear hK K
                                refine norm_ (a' := ?_) ?_ ?_
                                rotate_left
                                · show Act.put _ (some 94) _ = _
                                  simp only [Act.put, List.setIfInBounds_toArray, List.set_cons_zero, List.set_cons_succ, i64_w, i32_w]
                                  rfl
                                refine one_ (i := 9) (N := some 99) #[true, true, true, true, true, true, true, true, true, true, false] rfl rfl (one_of HT_.out (by kernel_rfl)) (by decide) (fun K hK => ?_)
                                refine gs Try.func14 (by kernel_rfl) rfl #[.agg #[.int .i64 t329, .int .i64 t330, .int .i64 t331, .slice Ao64 t332.length co64], .agg #[.int .i64 ((rd_T24 t323 x18_4).f0), .int .i64 ((rd_T24 t323 x18_4).f1), .int .i64 ((rd_T24 t323 x18_4).f2), .slice A335_3 ((rd_T24 t323 x18_4).f3).length c335_3]] (by rfl) rfl rfl ?_
                                with_reducible refine (pentroughref23_Same.calls t329 t330 t331 _ _ t332 ((rd_T24 t323 x18_4).f0) ((rd_T24 t323 x18_4).f1) ((rd_T24 t323 x18_4).f2) _ _ ((rd_T24 t323 x18_4).f3) true _ ?side1 ?side2 ?side3 ?side4 A58.out).mono ?_
                                (case side1 => exact (Kd.V_reads' (vv HO334)).2.2)
                                (case side2 => exact (Kd.V_reads' HO334.out).2.1)
                                (case side3 => repeat (first | exact (by repeat (first | (with_reducible exact HR335_3.out) | (with_reducible refine Kd.C_alloc ?_ _) | (with_reducible refine Kd.C_drewN ?_ _) | (with_reducible refine Kd.C_drew ?_) | exact HR335_3.out)) | (with_reducible refine Kd.C_alloc ?_ _) | (with_reducible refine Kd.C_drewN ?_ _) | (with_reducible refine Kd.C_drew ?_)))
                                (case side4 => exact HC335_3.out)
                                rintro e w65 ⟨rfl, hb⟩
                                have HS0_ := (hb.cell (World.block_lt_of_cell? _ _ (hHeld.1))).trans (hHeld.1)
                                have HS1_ := (hb.cell (World.block_lt_of_cell? _ _ (hHeld.2.1))).trans (hHeld.2.1)
                                have HS2_ := (hb.cell (World.block_lt_of_cell? _ _ (hHeld.2.2.1))).trans (hHeld.2.2.1)
                                have HS3_ := (hb.cell (World.block_lt_of_cell? _ _ (hHeld.2.2.2.1))).trans (hHeld.2.2.2.1)
                                have HS4_ := (hb.cell (World.block_lt_of_cell? _ _ (hHeld.2.2.2.2.1))).trans (hHeld.2.2.2.2.1)
                                have HS5_ := (hb.cell (World.block_lt_of_cell? _ _ (hHeld.2.2.2.2.2.1))).trans (hHeld.2.2.2.2.2.1)
                                have HS6_ := (hb.cell (World.block_lt_of_cell? _ _ (hHeld.2.2.2.2.2.2.1))).trans (hHeld.2.2.2.2.2.2.1)
                                have HS7_ := (hb.cell (World.block_lt_of_cell? _ _ (hHeld.2.2.2.2.2.2.2))).trans (hHeld.2.2.2.2.2.2.2)
                                refine ⟨_, rfl, ?_⟩
                                replace HO_12 := Aside0.mk (Kd.N_below (by (with_reducible repeat (first | apply Kd.N_alloc | apply Kd.N_drewN | apply Kd.N_drew)); exact HO_12.out) hb)
                                replace HO_15 := Aside0.mk (Kd.N_below (by (with_reducible repeat (first | apply Kd.N_alloc | apply Kd.N_drewN | apply Kd.N_drew)); exact HO_15.out) hb)
                                replace HO_302003 := vB HO_302003 hb
                                replace HO_311003 := vB HO_311003 hb
                                replace HL328_3 := vB HL328_3 hb
                                replace HL335_3 := vB HL335_3 hb
                                replace HO334 := vB HO334 hb
                                replace BK291 := kB BK291 hb
                                replace BK301 := kB BK301 hb
                                replace BK310 := kB BK310 hb
                                replace HR328_3 := Aside0.mk (Kd.C_below (by repeat (first | (with_reducible exact HR328_3.out) | (with_reducible refine Kd.C_alloc ?_ _) | (with_reducible refine Kd.C_drewN ?_ _) | (with_reducible refine Kd.C_drew ?_) | exact HR328_3.out)) hb)
                                replace HR335_3 := Aside0.mk (Kd.C_below (by repeat (first | (with_reducible exact HR335_3.out) | (with_reducible refine Kd.C_alloc ?_ _) | (with_reducible refine Kd.C_drewN ?_ _) | (with_reducible refine Kd.C_drew ?_) | exact HR335_3.out)) hb)
                                replace HB := hB HB hb
                                (try clear hb)
                                (try clear hb2)
                                (try clear hk)
                                (try clear hi)
                                refine hK.out _ _ ⟨HS0_, HS1_, HS2_, HS3_, HS4_, HS5_, HS6_, HS7_⟩ (fun hHeld => ?_)
                                clear hK K
                                refine norm_ (a' := ?_) ?_ ?_
                                rotate_left
                                · show Act.put _ (some 99) _ = _
                                  simp only [Act.put, List.setIfInBounds_toArray, List.set_cons_zero, List.set_cons_succ, i64_w, i32_w]
                                  rfl
                                refine pure_ (i := 10) (N := some 100) (v := ?_) (a' := ?_) #[true, true, true, true, true, true, true, true, true, true, true] rfl rfl (any_of HT_.out (by kernel_rfl)) (fun _ _ _ h => h) (Or.inl ⟨by rfl, ?_⟩) ?_ ?_
                                rotate_left
                                · intro w'
                                  go_simp
                                  with_reducible rfl
                                rotate_left
                                · simp only [Act.put, List.setIfInBounds_toArray, List.set_cons_zero, List.set_cons_succ, i64_w, i32_w]
                                  rfl
                                refine done_ (done_of HT_.out (by kernel_rfl)) ?_
                                try go_wp2
                                go_roundg k4
                                case measure => have := HJ3.out; have := HJ12.out; have := HJ41.out; have := HK4.out; omega
                                case rel => exact ⟨(wrap64 (x18_4 + 1)), (by first | rfl | (simp; done) | (simp [*]; done)), H', ⟨by have := HJ3.out; have := HJ12.out; have := HJ41.out; have := HK4.out; omega⟩, ⟨by (with_reducible repeat (first | apply Kd.N_alloc | apply Kd.N_drewN | apply Kd.N_drew)); exact HO_12.out⟩, ⟨by (with_reducible repeat (first | apply Kd.N_alloc | apply Kd.N_drewN | apply Kd.N_drew)); exact HO_15.out⟩, ⟨vM HO_302003⟩, ⟨vM HO_311003⟩, ⟨kk BK291⟩, ⟨kk BK301⟩, ⟨kk BK310⟩, ⟨bb HB⟩⟩
                              · replace c59 := Bool.eq_false_iff.mpr c59
                                subst c59
                                rw [if_neg nf] at H
                                cases H; exact absurd HRT.out (by decide)
                            · rw [if_neg c57] at H
                              exact absurd H (by simp)
                          · rw [if_neg c55] at H
                            exact absurd H (by simp)
                        · rw [if_neg c54] at H
                          have c54b0 : decide (x18_4 < (t318.length : Int)) = false := decide_eq_false c54
                          clear c54
                          by_cases c66 : t292 = true
                          · subst c66
                            rw [if_pos rfl] at H
                            obtain ⟨⟨t337, t338, t339, t340⟩, A67, H⟩ := ob H
                            (try dsimp only at H)
                            obtain ⟨t343, A68, H⟩ := ob H
                            obtain ⟨t344, A69, H⟩ := ob H
                            by_cases c70 : (t343 == t344) = true
                            · rw [if_pos c70] at H
                              have c70b0 : (t343 == t344) = true := c70
                              (try (have c70b1 : decide (t343 = t344) = true := by simpa using c70))
                              (try (have c70b2 : (t343 == t344) = true := by simpa using c70))
                              clear c70
                              obtain ⟨⟨t345, t346, t347, t348⟩, A71, H⟩ := ob H
                              (try dsimp only at H)
                              obtain ⟨t351, A72, H⟩ := ob H
                              obtain ⟨t354, A73, H⟩ := ob H
                              obtain rfl := Option.some.inj H
                              obtain ⟨Ao74, co74, eo74⟩ := Kd.N_slice HO_12.out
                              subst eo74
                              try go_wp2
                              replace HO_12 := Aside0.mk (Kd.N_drew HO_12.out)
                              replace HO_15 := Aside0.mk (Kd.N_drew HO_15.out)
                              replace HO_302003 := Aside0.mk (Kd.V_drew HO_302003.out)
                              replace HO_311003 := Aside0.mk (Kd.V_drew HO_311003.out)
                              replace BK291 := Aside0.mk (blk_drew BK291.out)
                              replace BK301 := Aside0.mk (blk_drew BK301.out)
                              replace BK310 := Aside0.mk (blk_drew BK310.out)
                              replace HB := Aside0.mk (below_drew1 HB.out)
                              refine start_ (n := 20) (S := fun w' => w'.cell? ⟨gb291, 0, none⟩ = some (.int .i64 a0_0) ∧ w'.cell? ⟨gb291, 1, none⟩ = some (.int .i64 a0_1) ∧ w'.cell? ⟨gb291, 2, none⟩ = some (.int .i64 a0_2) ∧ w'.cell? ⟨gb291, 3, none⟩ = some (.slice A0_3 l0_3.length c0_3)) (ds := []) #[false, false, false, false, false, false, false, false, false, false, false, false, false, false, false, false, false, false, false, false] (by kernel_rfl) rfl rfl ⟨cx BK291 0, cx BK291 1, cx BK291 2, cx BK291 3⟩ (fun hHeld => ?_); refine with_tabW pentroughlaw23_ScriptIs.tab17 pentroughlaw23_ScriptIs.bits17 (fun HT_ HW_ => ?_)
                              generalize wr.drew = w75 at HO_12 HO_15 HO_302003 HO_311003 BK291 BK301 BK310 HB hHeld ⊢
                              refine pure_ (i := 0) (N := some 101) (v := ?_) (a' := ?_) #[true, false, false, false, false, false, false, false, false, false, false, false, false, false, false, false, false, false, false, false] rfl rfl (any_of HT_.out (by kernel_rfl)) (fun _ _ _ h => h) (Or.inl ⟨by rfl, ?_⟩) ?_ ?_
                              rotate_left
                              · intro w'
                                go_simp
                                with_reducible rfl
                              rotate_left
                              · simp only [Act.put, List.setIfInBounds_toArray, List.set_cons_zero, List.set_cons_succ, i64_w, i32_w]
                                rfl
                              refine pure_ (i := 1) (N := some 102) (v := ?_) (a' := ?_) #[true, true, false, false, false, false, false, false, false, false, false, false, false, false, false, false, false, false, false, false] rfl rfl (any_of HT_.out (by kernel_rfl)) (fun _ _ _ h => h) (Or.inl ⟨by rfl, ?_⟩) ?_ ?_
                              rotate_left
                              · intro w'
                                go_simp
                                with_reducible rfl
                              rotate_left
                              · simp only [Act.put, List.setIfInBounds_toArray, List.set_cons_zero, List.set_cons_succ, i64_w, i32_w]
                                rfl
                              refine take_ (i := 2) (N := some 103) (v := ?_) (a' := ?_) #[true, true, true, false, false, false, false, false, false, false, false, false, false, false, false, false, false, false, false, false] rfl rfl (take_ofW HT_.out HW_.out (by kernel_rfl)) (fun _ _ _ h => h) (Or.inl ⟨by rfl, ?_⟩) hHeld ?_ ?_
                              rotate_left
                              · rintro w' ⟨s0, s1, s2, s3⟩
                                go_simp
                                with_reducible rfl
                              rotate_left
                              · simp only [Act.put, List.setIfInBounds_toArray, List.set_cons_zero, List.set_cons_succ, i64_w, i32_w]
                                rfl
                              refine take_ (i := 5) (N := some 106) (v := ?_) (a' := ?_) #[true, true, true, false, false, true, false, false, false, false, false, false, false, false, false, false, false, false, false, false] rfl rfl (take_ofW HT_.out HW_.out (by kernel_rfl)) (fun _ _ _ h => h) (Or.inl ⟨by rfl, ?_⟩) hHeld ?_ ?_
                              rotate_left
                              · rintro w' ⟨s0, s1, s2, s3⟩
                                go_simp
                                with_reducible rfl
                              rotate_left
                              · simp only [Act.put, List.setIfInBounds_toArray, List.set_cons_zero, List.set_cons_succ, i64_w, i32_w]
                                rfl
                              refine one_ (i := 3) (N := some 104) #[true, true, true, true, false, true, false, false, false, false, false, false, false, false, false, false, false, false, false, false] rfl rfl (one_of HT_.out (by kernel_rfl)) (by decide) (fun K hK => ?_)
                              refine gs Try.func11 (by kernel_rfl) rfl #[.agg #[.int .i64 a0_0, .int .i64 a0_1, .int .i64 a0_2, .slice A0_3 l0_3.length c0_3]] (by rfl) rfl rfl ?_
                              with_reducible refine (pentroughlaw23_ours.calls a0_0 a0_1 a0_2 (fun k_ => k_ < w.heap.size) _ _ l0_3 t337 t338 t339 t340 _ ?side1 A67.out).mono ?_
                              (case side1 => exact Kd.V_mk HC0_3.out (Kd.F_below (Kd.C_F (Kd.heap_int .u8) HR0_3.out) (bb HB)))
                              rintro e w76 ⟨v341, rfl, ho0, hb⟩
                              refine ⟨_, rfl, ?_⟩
                              replace HO_302003 := vB HO_302003 hb
                              replace HO_311003 := vB HO_311003 hb
                              have HO342 := Aside0.mk (Kd.V_lower (Kd.V_mono (ok' := fun k_ => some k_ ≠ (.slice Ao74 t318.length co74 : Value).ownBlock ∧ some k_ ≠ (v324 : Value).ownBlock ∧ k_ ≠ gb291 ∧ k_ ≠ gb301 ∧ k_ ≠ gb310) ho0 (fun k_ hk_ => ⟨Or.elim hk_ (fun hs_ => fun e_ => Nat.not_le.2 hs_ (Kd.N_base HO_12.out k_ e_.symm)) (fun hn_ => (Kd.fresh' (Kd.N_lt (by (with_reducible repeat (first | apply Kd.N_alloc | apply Kd.N_drewN | apply Kd.N_drew)); exact HO_12.out)) k_ hn_)), Or.elim hk_ (fun hs_ => fun e_ => Nat.not_le.2 hs_ (Kd.N_base HO_15.out k_ e_.symm)) (fun hn_ => (Kd.fresh' (Kd.N_lt (by (with_reducible repeat (first | apply Kd.N_alloc | apply Kd.N_drewN | apply Kd.N_drew)); exact HO_15.out)) k_ hn_)), o2 hk_ (gw GW291) (Kd.freshB (kk BK291) k_), o2 hk_ (gw GW301) (Kd.freshB (kk BK301) k_), o2 hk_ (gw GW310) (Kd.freshB (kk BK310) k_)⟩)) (below_size (bb HB)))
                              replace HO_12 := Aside0.mk (Kd.N_below (by (with_reducible repeat (first | apply Kd.N_alloc | apply Kd.N_drewN | apply Kd.N_drew)); exact HO_12.out) hb)
                              replace HO_15 := Aside0.mk (Kd.N_below (by (with_reducible repeat (first | apply Kd.N_alloc | apply Kd.N_drewN | apply Kd.N_drew)); exact HO_15.out) hb)
                              replace BK291 := kB BK291 hb
                              replace BK301 := kB BK301 hb
                              replace BK310 := kB BK310 hb
                              replace HB := hB HB hb
                              (try clear hb)
                              (try clear hb2)
                              (try clear hk)
                              (try clear hi)
                              (try clear ho0)
                              obtain ⟨Ao77, co77, eo77⟩ := Kd.V_slice HO342.out
                              (first | subst eo77 | (injection eo77 with f1_ f2_ f3_; have f4_ := f1_.symm; have f5_ := f3_.symm; clear f1_ f2_ f3_; subst f4_; subst f5_))
                              refine hK.out _ _ ⟨cx BK291 0, cx BK291 1, cx BK291 2, cx BK291 3⟩ (fun hHeld => ?_)
                              clear hK K
                              refine norm_ (a' := ?_) ?_ ?_
                              rotate_left
                              · show Act.put _ (some 104) _ = _
                                simp only [Act.put, List.setIfInBounds_toArray, List.set_cons_zero, List.set_cons_succ, i64_w, i32_w]
                                rfl
                              refine one_ (i := 4) (N := some 105) #[true, true, true, true, true, true, false, false, false, false, false, false, false, false, false, false, false, false, false, false] rfl rfl (one_of HT_.out (by kernel_rfl)) (by decide) (fun K hK => ?_)
                              refine gs Try.func12 (by kernel_rfl) rfl #[.agg #[.int .i64 t337, .int .i64 t338, .int .i64 t339, .slice Ao77 t340.length co77]] (by rfl) rfl rfl ?_
                              with_reducible refine (script_Sane.calls k4 t337 t338 t339 _ _ t340 t343 _ ?side1 ?side2 A68.out).mono ?_
                              (case side1 => exact (Kd.V_reads' (vv HO342)).2.2)
                              (case side2 => exact (Kd.V_reads' HO342.out).2.1)
                              rintro e w78 ⟨rfl, hb⟩
                              refine ⟨_, rfl, ?_⟩
                              replace HO_12 := Aside0.mk (Kd.N_below (by (with_reducible repeat (first | apply Kd.N_alloc | apply Kd.N_drewN | apply Kd.N_drew)); exact HO_12.out) hb)
                              replace HO_15 := Aside0.mk (Kd.N_below (by (with_reducible repeat (first | apply Kd.N_alloc | apply Kd.N_drewN | apply Kd.N_drew)); exact HO_15.out) hb)
                              replace HO_302003 := vB HO_302003 hb
                              replace HO_311003 := vB HO_311003 hb
                              replace HO342 := vB HO342 hb
                              replace BK291 := kB BK291 hb
                              replace BK301 := kB BK301 hb
                              replace BK310 := kB BK310 hb
                              replace HB := hB HB hb
                              (try clear hb)
                              (try clear hb2)
                              (try clear hk)
                              (try clear hi)
                              refine hK.out _ _ ⟨cx BK291 0, cx BK291 1, cx BK291 2, cx BK291 3⟩ (fun hHeld => ?_)
                              clear hK K
                              refine norm_ (a' := ?_) ?_ ?_
                              rotate_left
                              · show Act.put _ (some 105) _ = _
                                simp only [Act.put, List.setIfInBounds_toArray, List.set_cons_zero, List.set_cons_succ, i64_w, i32_w]
                                rfl
                              refine one_ (i := 6) (N := some 107) #[true, true, true, true, true, true, true, false, false, false, false, false, false, false, false, false, false, false, false, false] rfl rfl (one_of HT_.out (by kernel_rfl)) (by decide) (fun K hK => ?_)
                              refine gs Try.func20 (by kernel_rfl) rfl #[.agg #[.int .i64 a0_0, .int .i64 a0_1, .int .i64 a0_2, .slice A0_3 l0_3.length c0_3]] (by rfl) rfl rfl ?_
                              with_reducible refine (pentroughref23_Sane.calls k4 a0_0 a0_1 a0_2 _ _ l0_3 t344 _ ?side1 ?side2 A69.out).mono ?_
                              (case side1 => exact Kd.C_below HR0_3.out (bb HB))
                              (case side2 => exact HC0_3.out)
                              rintro e w79 ⟨rfl, hb⟩
                              refine ⟨_, rfl, ?_⟩
                              replace HO_12 := Aside0.mk (Kd.N_below (by (with_reducible repeat (first | apply Kd.N_alloc | apply Kd.N_drewN | apply Kd.N_drew)); exact HO_12.out) hb)
                              replace HO_15 := Aside0.mk (Kd.N_below (by (with_reducible repeat (first | apply Kd.N_alloc | apply Kd.N_drewN | apply Kd.N_drew)); exact HO_15.out) hb)
                              replace HO_302003 := vB HO_302003 hb
                              replace HO_311003 := vB HO_311003 hb
                              replace HO342 := vB HO342 hb
                              replace BK291 := kB BK291 hb
                              replace BK301 := kB BK301 hb
                              replace BK310 := kB BK310 hb
                              replace HB := hB HB hb
                              (try clear hb)
                              (try clear hb2)
                              (try clear hk)
                              (try clear hi)
                              refine hK.out _ _ ⟨cx BK291 0, cx BK291 1, cx BK291 2, cx BK291 3⟩ (fun hHeld => ?_)
                              clear hK K
                              refine norm_ (a' := ?_) ?_ ?_
                              rotate_left
                              · show Act.put _ (some 107) _ = _
                                simp only [Act.put, List.setIfInBounds_toArray, List.set_cons_zero, List.set_cons_succ, i64_w, i32_w]
                                rfl
                              refine pure_ (i := 7) (N := some 108) (v := ?_) (a' := ?_) #[true, true, true, true, true, true, true, true, false, false, false, false, false, false, false, false, false, false, false, false] rfl rfl (any_of HT_.out (by kernel_rfl)) (fun _ _ _ h => h) (Or.inl ⟨by rfl, ?_⟩) ?_ ?_
                              rotate_left
                              · intro w'
                                go_simp
                                with_reducible rfl
                              rotate_left
                              · simp only [Act.put, List.setIfInBounds_toArray, List.set_cons_zero, List.set_cons_succ, i64_w, i32_w]
                                rfl
                              refine pure_ (i := 8) (N := some 109) (v := ?_) (a' := ?_) #[true, true, true, true, true, true, true, true, true, false, false, false, false, false, false, false, false, false, false, false] rfl rfl (any_of HT_.out (by kernel_rfl)) (fun _ _ _ h => h) (Or.inl ⟨by rfl, ?_⟩) ?_ ?_
                              rotate_left
                              · intro w'
                                go_simp
                                with_reducible rfl
                              rotate_left
                              · simp only [Act.put, List.setIfInBounds_toArray, List.set_cons_zero, List.set_cons_succ, i64_w, i32_w]
                                rfl
                              refine pure_ (i := 9) (N := some 110) (v := ?_) (a' := ?_) #[true, true, true, true, true, true, true, true, true, true, false, false, false, false, false, false, false, false, false, false] rfl rfl (any_of HT_.out (by kernel_rfl)) (fun _ _ _ h => h) (Or.inl ⟨by rfl, ?_⟩) ?_ ?_
                              rotate_left
                              · intro w'
                                go_simp
                                with_reducible rfl
                              rotate_left
                              · simp only [Act.put, List.setIfInBounds_toArray, List.set_cons_zero, List.set_cons_succ, i64_w, i32_w]
                                rfl
                              refine take_ (i := 10) (N := some 111) (v := ?_) (a' := ?_) #[true, true, true, true, true, true, true, true, true, true, true, false, false, false, false, false, false, false, false, false] rfl rfl (take_ofW HT_.out HW_.out (by kernel_rfl)) (fun _ _ _ h => h) (Or.inl ⟨by rfl, ?_⟩) hHeld ?_ ?_
                              rotate_left
                              · rintro w' ⟨s0, s1, s2, s3⟩
                                go_simp
                                with_reducible rfl
                              rotate_left
                              · simp only [Act.put, List.setIfInBounds_toArray, List.set_cons_zero, List.set_cons_succ, i64_w, i32_w]
                                rfl
                              refine take_ (i := 14) (N := some 115) (v := ?_) (a' := ?_) #[true, true, true, true, true, true, true, true, true, true, true, false, false, false, true, false, false, false, false, false] rfl rfl (take_ofW HT_.out HW_.out (by kernel_rfl)) (fun _ _ _ h => h) (Or.inl ⟨by rfl, ?_⟩) hHeld ?_ ?_
                              rotate_left
                              · rintro w' ⟨s0, s1, s2, s3⟩
                                go_simp
                                with_reducible rfl
                              rotate_left
                              · simp only [Act.put, List.setIfInBounds_toArray, List.set_cons_zero, List.set_cons_succ, i64_w, i32_w]
                                rfl
                              refine one_ (i := 11) (N := some 112) #[true, true, true, true, true, true, true, true, true, true, true, true, false, false, true, false, false, false, false, false] rfl rfl (one_of HT_.out (by kernel_rfl)) (by decide) (fun K hK => ?_)
                              refine gs Try.func11 (by kernel_rfl) rfl #[.agg #[.int .i64 a0_0, .int .i64 a0_1, .int .i64 a0_2, .slice A0_3 l0_3.length c0_3]] (by rfl) rfl rfl ?_
                              with_reducible refine (pentroughlaw23_ours.calls a0_0 a0_1 a0_2 (fun k_ => k_ < w.heap.size) _ _ l0_3 t345 t346 t347 t348 _ ?side1 A71.out).mono ?_
                              (case side1 => exact Kd.V_mk HC0_3.out (Kd.F_below (Kd.C_F (Kd.heap_int .u8) HR0_3.out) (bb HB)))
                              rintro e w80 ⟨v349, rfl, ho0, hb⟩
                              refine ⟨_, rfl, ?_⟩
                              replace HO_302003 := vB HO_302003 hb
                              replace HO_311003 := vB HO_311003 hb
                              replace HO342 := vB HO342 hb
                              have HO350 := Aside0.mk (Kd.V_lower (Kd.V_mono (ok' := fun k_ => some k_ ≠ (.slice Ao74 t318.length co74 : Value).ownBlock ∧ some k_ ≠ (v324 : Value).ownBlock ∧ k_ ≠ gb291 ∧ k_ ≠ gb301 ∧ k_ ≠ gb310) ho0 (fun k_ hk_ => ⟨Or.elim hk_ (fun hs_ => fun e_ => Nat.not_le.2 hs_ (Kd.N_base HO_12.out k_ e_.symm)) (fun hn_ => (Kd.fresh' (Kd.N_lt (by (with_reducible repeat (first | apply Kd.N_alloc | apply Kd.N_drewN | apply Kd.N_drew)); exact HO_12.out)) k_ hn_)), Or.elim hk_ (fun hs_ => fun e_ => Nat.not_le.2 hs_ (Kd.N_base HO_15.out k_ e_.symm)) (fun hn_ => (Kd.fresh' (Kd.N_lt (by (with_reducible repeat (first | apply Kd.N_alloc | apply Kd.N_drewN | apply Kd.N_drew)); exact HO_15.out)) k_ hn_)), o2 hk_ (gw GW291) (Kd.freshB (kk BK291) k_), o2 hk_ (gw GW301) (Kd.freshB (kk BK301) k_), o2 hk_ (gw GW310) (Kd.freshB (kk BK310) k_)⟩)) (below_size (bb HB)))
                              replace HO_12 := Aside0.mk (Kd.N_below (by (with_reducible repeat (first | apply Kd.N_alloc | apply Kd.N_drewN | apply Kd.N_drew)); exact HO_12.out) hb)
                              replace HO_15 := Aside0.mk (Kd.N_below (by (with_reducible repeat (first | apply Kd.N_alloc | apply Kd.N_drewN | apply Kd.N_drew)); exact HO_15.out) hb)
                              replace BK291 := kB BK291 hb
                              replace BK301 := kB BK301 hb
                              replace BK310 := kB BK310 hb
                              replace HB := hB HB hb
                              (try clear hb)
                              (try clear hb2)
                              (try clear hk)
                              (try clear hi)
                              (try clear ho0)
                              obtain ⟨Ao81, co81, eo81⟩ := Kd.V_slice HO350.out
                              (first | subst eo81 | (injection eo81 with f1_ f2_ f3_; have f4_ := f1_.symm; have f5_ := f3_.symm; clear f1_ f2_ f3_; subst f4_; subst f5_))
                              refine hK.out _ _ ⟨cx BK291 0, cx BK291 1, cx BK291 2, cx BK291 3⟩ (fun hHeld => ?_)
                              clear hK K
                              refine norm_ (a' := ?_) ?_ ?_
                              rotate_left
                              · show Act.put _ (some 112) _ = _
                                simp only [Act.put, List.setIfInBounds_toArray, List.set_cons_zero, List.set_cons_succ, i64_w, i32_w]
                                rfl
                              refine one_ (i := 12) (N := some 113) #[true, true, true, true, true, true, true, true, true, true, true, true, true, false, true, false, false, false, false, false] rfl rfl (one_of HT_.out (by kernel_rfl)) (by decide) (fun K hK => ?_)
                              refine gs Try.func10 (by kernel_rfl) rfl #[.agg #[.int .i64 t345, .int .i64 t346, .int .i64 t347, .slice Ao81 t348.length co81]] (by rfl) rfl rfl ?_
                              with_reducible refine (script_Put.calls k4 t345 t346 t347 _ _ t348 t351 _ ?side1 ?side2 A72.out).mono ?_
                              (case side1 => exact (Kd.V_reads' (vv HO350)).2.2)
                              (case side2 => exact (Kd.V_reads' HO350.out).2.1)
                              rintro e w82 ⟨v352, rfl, ho0, hb⟩
                              refine ⟨_, rfl, ?_⟩
                              replace HO_12 := Aside0.mk (Kd.N_elder' (by (with_reducible repeat (first | apply Kd.N_alloc | apply Kd.N_drewN | apply Kd.N_drew)); exact HO_12.out) (Kd.R_base ho0) hb)
                              replace HO_15 := Aside0.mk (Kd.N_elder' (by (with_reducible repeat (first | apply Kd.N_alloc | apply Kd.N_drewN | apply Kd.N_drew)); exact HO_15.out) (Kd.R_base ho0) hb)
                              replace HO_302003 := Aside0.mk (Kd.V_elder' (vv HO_302003) (Kd.R_base ho0) hb)
                              replace HO_311003 := Aside0.mk (Kd.V_elder' (vv HO_311003) (Kd.R_base ho0) hb)
                              replace HO342 := Aside0.mk (Kd.V_elder' (vv HO342) (Kd.R_base ho0) hb)
                              replace HO350 := Aside0.mk (Kd.V_elder' (vv HO350) (Kd.R_base ho0) hb)
                              have HO353 := Aside0.mk (Kd.R_lower ho0 (below_size (bb HB)))
                              replace BK291 := kB BK291 hb
                              replace BK301 := kB BK301 hb
                              replace BK310 := kB BK310 hb
                              replace HB := hB HB hb
                              (try clear hb)
                              (try clear hb2)
                              (try clear hk)
                              (try clear hi)
                              (try clear ho0)
                              refine hK.out _ _ ⟨cx BK291 0, cx BK291 1, cx BK291 2, cx BK291 3⟩ (fun hHeld => ?_)
                              clear hK K
                              refine norm_ (a' := ?_) ?_ ?_
                              rotate_left
                              · show Act.put _ (some 113) _ = _
                                simp only [Act.put, List.setIfInBounds_toArray, List.set_cons_zero, List.set_cons_succ, i64_w, i32_w]
                                rfl
                              refine join_ (σ := Value) 3 #[true, true, true, true, true, true, true, true, true, true, true, true, true, true, true, true, true, false, false, false] (fun s_ => [(114, .string (strOfNums t351)), (116, s_), (117, .string (strOfNums t354))]) (fun s_ w' => (w'.cell? ⟨gb291, 0, none⟩ = some (.int .i64 a0_0) ∧ w'.cell? ⟨gb291, 1, none⟩ = some (.int .i64 a0_1) ∧ w'.cell? ⟨gb291, 2, none⟩ = some (.int .i64 a0_2) ∧ w'.cell? ⟨gb291, 3, none⟩ = some (.slice A0_3 l0_3.length c0_3)) ∧ (Kd.V (Kd.int .u8) 5 w' w.heap.size (fun k_ => some k_ ≠ (v352 : Value).ownBlock ∧ some k_ ≠ (s_ : Value).ownBlock ∧ some k_ ≠ (.slice Ao74 t318.length co74 : Value).ownBlock ∧ some k_ ≠ (v324 : Value).ownBlock ∧ k_ ≠ gb291 ∧ k_ ≠ gb301 ∧ k_ ≠ gb310) (.slice Ao77 t340.length co77) t340) ∧ (Kd.V (Kd.int .u8) 5 w' w.heap.size (fun k_ => some k_ ≠ (v352 : Value).ownBlock ∧ some k_ ≠ (s_ : Value).ownBlock ∧ some k_ ≠ (.slice Ao74 t318.length co74 : Value).ownBlock ∧ some k_ ≠ (v324 : Value).ownBlock ∧ k_ ≠ gb291 ∧ k_ ≠ gb301 ∧ k_ ≠ gb310) (.slice Ao81 t348.length co81) t348) ∧ (Kd.R (Kd.int .u8) 5 w' w.heap.size (fun k_ => some k_ ≠ (s_ : Value).ownBlock) v352 t351) ∧ (Kd.R (Kd.int .u8) 5 w' w.heap.size (fun k_ => some k_ ≠ (v352 : Value).ownBlock) s_ t354) ∧ (Kd.N k27 27 w' w.heap.size (fun k_ => some k_ ≠ (v352 : Value).ownBlock ∧ some k_ ≠ (s_ : Value).ownBlock ∧ some k_ ≠ (v324 : Value).ownBlock ∧ k_ ≠ gb291 ∧ k_ ≠ gb301 ∧ k_ ≠ gb310) (.slice Ao74 t318.length co74) t318) ∧ (Kd.N k24 24 w' w.heap.size (fun k_ => some k_ ≠ (v352 : Value).ownBlock ∧ some k_ ≠ (s_ : Value).ownBlock ∧ some k_ ≠ (.slice Ao74 t318.length co74 : Value).ownBlock ∧ k_ ≠ gb291 ∧ k_ ≠ gb301 ∧ k_ ≠ gb310) v324 t323) ∧ (Kd.V (Kd.int .u8) 5 w' w.heap.size (fun k_ => some k_ ≠ (v352 : Value).ownBlock ∧ some k_ ≠ (s_ : Value).ownBlock ∧ some k_ ≠ (.slice Ao74 t318.length co74 : Value).ownBlock ∧ some k_ ≠ (v324 : Value).ownBlock ∧ k_ ≠ gb291 ∧ k_ ≠ gb301 ∧ k_ ≠ gb310) (.slice Ao18 t296.length co18) t296) ∧ (Kd.V (Kd.int .u8) 5 w' w.heap.size (fun k_ => some k_ ≠ (v352 : Value).ownBlock ∧ some k_ ≠ (s_ : Value).ownBlock ∧ some k_ ≠ (.slice Ao74 t318.length co74 : Value).ownBlock ∧ some k_ ≠ (v324 : Value).ownBlock ∧ k_ ≠ gb291 ∧ k_ ≠ gb301 ∧ k_ ≠ gb310) (.slice Ao25 t305.length co25) t305) ∧ (w'.heap[gb291]? = some (.cells #[.int .i64 a0_0, .int .i64 a0_1, .int .i64 a0_2, .slice A0_3 l0_3.length c0_3] 24 (0, 0))) ∧ (w'.heap[gb301]? = some (.cells #[.int .i64 t293, .int .i64 t294, .int .i64 t295, .slice Ao18 t296.length co18] 27 (0, 0))) ∧ (w'.heap[gb310]? = some (.cells #[.int .i64 t302, .int .i64 t303, .int .i64 t304, .slice Ao25 t305.length co25] 24 (0, 0))) ∧ (Below w.heap.size w w')) ?_ ?_
                              rotate_left
                              · intro hCont
                                refine two_ (i := 13) (j := 15) (Ni := some 114) (Nj := some 116) #[true, true, true, true, true, true, true, true, true, true, true, true, true, true, true, false, false, false, false, false] #[true, true, true, true, true, true, true, true, true, true, true, true, true, false, true, true, false, false, false, false] rfl rfl rfl rfl (two_of HT_.out (by kernel_rfl)) (by decide) (by decide) (fun K hK => ?_) (fun K hK => ?_)
                                · skip
                                  have hcv83 := own_string (P := Try.prog) Try.underlying22 Try.underlying5 Try.underlying9 (Kd.own_of_R HO353.out)
                                  refine value_ (w1 := ?_) (v := ?_) (by rfl) rfl ?_ ?_
                                  rotate_left 2
                                  · go_simp
                                    constructor
                                    · rfl
                                    · rfl
                                  clear hcv83
                                  refine hK.out _ _ ⟨cx BK291 0, cx BK291 1, cx BK291 2, cx BK291 3⟩ (fun hHeld => ?_)
                                  clear hK K
                                  refine norm_ (a' := ?_) ?_ ?_
                                  rotate_left
                                  · show Act.put _ (some 114) _ = _
                                    simp only [Act.put, List.setIfInBounds_toArray, List.set_cons_zero, List.set_cons_succ, i64_w, i32_w]
                                    rfl
                                  refine one_ (i := 15) (N := some 116) #[true, true, true, true, true, true, true, true, true, true, true, true, true, true, true, true, false, false, false, false] rfl rfl (one_of HT_.out (by kernel_rfl)) (by decide) (fun K hK => ?_)
                                  refine gs Try.func21 (by kernel_rfl) rfl #[.agg #[.int .i64 a0_0, .int .i64 a0_1, .int .i64 a0_2, .slice A0_3 l0_3.length c0_3]] (by rfl) rfl rfl ?_
                                  with_reducible refine (pentroughref23_Put.calls k4 a0_0 a0_1 a0_2 _ _ l0_3 t354 _ ?side1 ?side2 A73.out).mono ?_
                                  (case side1 => exact Kd.C_below HR0_3.out (bb HB))
                                  (case side2 => exact HC0_3.out)
                                  rintro e w84 ⟨v355, rfl, ho0, hb⟩
                                  refine ⟨_, rfl, ?_⟩
                                  replace HO_12 := Aside0.mk (Kd.N_elder' (by (with_reducible repeat (first | apply Kd.N_alloc | apply Kd.N_drewN | apply Kd.N_drew)); exact HO_12.out) (Kd.R_base ho0) hb)
                                  replace HO_15 := Aside0.mk (Kd.N_elder' (by (with_reducible repeat (first | apply Kd.N_alloc | apply Kd.N_drewN | apply Kd.N_drew)); exact HO_15.out) (Kd.R_base ho0) hb)
                                  replace HO_302003 := Aside0.mk (Kd.V_elder' (vv HO_302003) (Kd.R_base ho0) hb)
                                  replace HO_311003 := Aside0.mk (Kd.V_elder' (vv HO_311003) (Kd.R_base ho0) hb)
                                  replace HO342 := Aside0.mk (Kd.V_elder' (vv HO342) (Kd.R_base ho0) hb)
                                  replace HO350 := Aside0.mk (Kd.V_elder' (vv HO350) (Kd.R_base ho0) hb)
                                  have HO356 := Aside0.mk (Kd.R_lower (Kd.R_new' ho0 (Kd.R_lt (by (with_reducible repeat (first | apply Kd.R_alloc | apply Kd.R_drewN | apply Kd.R_drew)); exact HO353.out))) (below_size (bb HB)))
                                  replace HO353 := Aside0.mk (Kd.R_elder' (by (with_reducible repeat (first | apply Kd.R_alloc | apply Kd.R_drewN | apply Kd.R_drew)); exact HO353.out) (Kd.R_base ho0) hb)
                                  replace BK291 := kB BK291 hb
                                  replace BK301 := kB BK301 hb
                                  replace BK310 := kB BK310 hb
                                  replace HB := hB HB hb
                                  (try clear hb)
                                  (try clear hb2)
                                  (try clear hk)
                                  (try clear hi)
                                  (try clear ho0)
                                  refine hK.out _ _ ⟨cx BK291 0, cx BK291 1, cx BK291 2, cx BK291 3⟩ (fun hHeld => ?_)
                                  clear hK K
                                  refine norm_ (a' := ?_) ?_ ?_
                                  rotate_left
                                  · show Act.put _ (some 116) _ = _
                                    simp only [Act.put, List.setIfInBounds_toArray, List.set_cons_zero, List.set_cons_succ, i64_w, i32_w]
                                    rfl
                                  refine one_ (i := 16) (N := some 117) #[true, true, true, true, true, true, true, true, true, true, true, true, true, true, true, true, true, false, false, false] rfl rfl (one_of HT_.out (by kernel_rfl)) (by decide) (fun K hK => ?_)
                                  have hcv85 := own_string (P := Try.prog) Try.underlying22 Try.underlying5 Try.underlying9 (Kd.own_of_R HO356.out)
                                  refine value_ (w1 := ?_) (v := ?_) (by rfl) rfl ?_ ?_
                                  rotate_left 2
                                  · go_simp
                                    constructor
                                    · rfl
                                    · rfl
                                  clear hcv85
                                  refine hK.out _ _ ⟨cx BK291 0, cx BK291 1, cx BK291 2, cx BK291 3⟩ (fun hHeld => ?_)
                                  clear hK K
                                  refine norm_ (a' := ?_) ?_ ?_
                                  rotate_left
                                  · show Act.put _ (some 117) _ = _
                                    simp only [Act.put, List.setIfInBounds_toArray, List.set_cons_zero, List.set_cons_succ, i64_w, i32_w]
                                    rfl
                                  exact norm_ (by simp only [putAll, Act.put, List.setIfInBounds_toArray, List.set_cons_zero, List.set_cons_succ]) (hCont (v355) _ ⟨hHeld, (vM HO342), (vM HO350), (by (with_reducible repeat (first | apply Kd.R_alloc | apply Kd.R_drewN | apply Kd.R_drew)); exact Kd.R_mono HO353.out (fun _ hk => hk.2)), (by (with_reducible repeat (first | apply Kd.R_alloc | apply Kd.R_drewN | apply Kd.R_drew)); exact Kd.R_mono HO356.out (fun _ hk => hk.2)), (by (with_reducible repeat (first | apply Kd.N_alloc | apply Kd.N_drewN | apply Kd.N_drew)); exact Kd.N_mono HO_12.out (fun _ hk => ⟨hk.1.2, ⟨hk.2, ⟨hk.1.1.1, ⟨hk.1.1.2.1, ⟨hk.1.1.2.2.1, hk.1.1.2.2.2⟩⟩⟩⟩⟩)), (by (with_reducible repeat (first | apply Kd.N_alloc | apply Kd.N_drewN | apply Kd.N_drew)); exact Kd.N_mono HO_15.out (fun _ hk => ⟨hk.1.2, ⟨hk.2, ⟨hk.1.1.1, ⟨hk.1.1.2.1, ⟨hk.1.1.2.2.1, hk.1.1.2.2.2⟩⟩⟩⟩⟩)), (vM HO_302003), (vM HO_311003), (kk BK291), (kk BK301), (kk BK310), (bb HB)⟩)
                                · skip
                                  refine gs Try.func21 (by kernel_rfl) rfl #[.agg #[.int .i64 a0_0, .int .i64 a0_1, .int .i64 a0_2, .slice A0_3 l0_3.length c0_3]] (by rfl) rfl rfl ?_
                                  with_reducible refine (pentroughref23_Put.calls k4 a0_0 a0_1 a0_2 _ _ l0_3 t354 _ ?side1 ?side2 A73.out).mono ?_
                                  (case side1 => exact Kd.C_below HR0_3.out (bb HB))
                                  (case side2 => exact HC0_3.out)
                                  rintro e w83 ⟨v355, rfl, ho0, hb⟩
                                  refine ⟨_, rfl, ?_⟩
                                  replace HO_12 := Aside0.mk (Kd.N_elder' (by (with_reducible repeat (first | apply Kd.N_alloc | apply Kd.N_drewN | apply Kd.N_drew)); exact HO_12.out) (Kd.R_base ho0) hb)
                                  replace HO_15 := Aside0.mk (Kd.N_elder' (by (with_reducible repeat (first | apply Kd.N_alloc | apply Kd.N_drewN | apply Kd.N_drew)); exact HO_15.out) (Kd.R_base ho0) hb)
                                  replace HO_302003 := Aside0.mk (Kd.V_elder' (vv HO_302003) (Kd.R_base ho0) hb)
                                  replace HO_311003 := Aside0.mk (Kd.V_elder' (vv HO_311003) (Kd.R_base ho0) hb)
                                  replace HO342 := Aside0.mk (Kd.V_elder' (vv HO342) (Kd.R_base ho0) hb)
                                  replace HO350 := Aside0.mk (Kd.V_elder' (vv HO350) (Kd.R_base ho0) hb)
                                  have HO356 := Aside0.mk (Kd.R_lower (Kd.R_new' ho0 (Kd.R_lt (by (with_reducible repeat (first | apply Kd.R_alloc | apply Kd.R_drewN | apply Kd.R_drew)); exact HO353.out))) (below_size (bb HB)))
                                  replace HO353 := Aside0.mk (Kd.R_elder' (by (with_reducible repeat (first | apply Kd.R_alloc | apply Kd.R_drewN | apply Kd.R_drew)); exact HO353.out) (Kd.R_base ho0) hb)
                                  replace BK291 := kB BK291 hb
                                  replace BK301 := kB BK301 hb
                                  replace BK310 := kB BK310 hb
                                  replace HB := hB HB hb
                                  (try clear hb)
                                  (try clear hb2)
                                  (try clear hk)
                                  (try clear hi)
                                  (try clear ho0)
                                  refine hK.out _ _ ⟨cx BK291 0, cx BK291 1, cx BK291 2, cx BK291 3⟩ (fun hHeld => ?_)
                                  clear hK K
                                  refine norm_ (a' := ?_) ?_ ?_
                                  rotate_left
                                  · show Act.put _ (some 116) _ = _
                                    simp only [Act.put, List.setIfInBounds_toArray, List.set_cons_zero, List.set_cons_succ, i64_w, i32_w]
                                    rfl
                                  refine two_ (i := 13) (j := 16) (Ni := some 114) (Nj := some 117) #[true, true, true, true, true, true, true, true, true, true, true, true, true, true, true, true, false, false, false, false] #[true, true, true, true, true, true, true, true, true, true, true, true, true, false, true, true, true, false, false, false] rfl rfl rfl rfl (two_of HT_.out (by kernel_rfl)) (by decide) (by decide) (fun K hK => ?_) (fun K hK => ?_)
                                  · skip
                                    have hcv84 := own_string (P := Try.prog) Try.underlying22 Try.underlying5 Try.underlying9 (Kd.own_of_R HO353.out)
                                    refine value_ (w1 := ?_) (v := ?_) (by rfl) rfl ?_ ?_
                                    rotate_left 2
                                    · go_simp
                                      constructor
                                      · rfl
                                      · rfl
                                    clear hcv84
                                    refine hK.out _ _ ⟨cx BK291 0, cx BK291 1, cx BK291 2, cx BK291 3⟩ (fun hHeld => ?_)
                                    clear hK K
                                    refine norm_ (a' := ?_) ?_ ?_
                                    rotate_left
                                    · show Act.put _ (some 114) _ = _
                                      simp only [Act.put, List.setIfInBounds_toArray, List.set_cons_zero, List.set_cons_succ, i64_w, i32_w]
                                      rfl
                                    refine one_ (i := 16) (N := some 117) #[true, true, true, true, true, true, true, true, true, true, true, true, true, true, true, true, true, false, false, false] rfl rfl (one_of HT_.out (by kernel_rfl)) (by decide) (fun K hK => ?_)
                                    have hcv85 := own_string (P := Try.prog) Try.underlying22 Try.underlying5 Try.underlying9 (Kd.own_of_R HO356.out)
                                    refine value_ (w1 := ?_) (v := ?_) (by rfl) rfl ?_ ?_
                                    rotate_left 2
                                    · go_simp
                                      constructor
                                      · rfl
                                      · rfl
                                    clear hcv85
                                    refine hK.out _ _ ⟨cx BK291 0, cx BK291 1, cx BK291 2, cx BK291 3⟩ (fun hHeld => ?_)
                                    clear hK K
                                    refine norm_ (a' := ?_) ?_ ?_
                                    rotate_left
                                    · show Act.put _ (some 117) _ = _
                                      simp only [Act.put, List.setIfInBounds_toArray, List.set_cons_zero, List.set_cons_succ, i64_w, i32_w]
                                      rfl
                                    exact norm_ (by simp only [putAll, Act.put, List.setIfInBounds_toArray, List.set_cons_zero, List.set_cons_succ]) (hCont (v355) _ ⟨hHeld, (vM HO342), (vM HO350), (by (with_reducible repeat (first | apply Kd.R_alloc | apply Kd.R_drewN | apply Kd.R_drew)); exact Kd.R_mono HO353.out (fun _ hk => hk.2)), (by (with_reducible repeat (first | apply Kd.R_alloc | apply Kd.R_drewN | apply Kd.R_drew)); exact Kd.R_mono HO356.out (fun _ hk => hk.2)), (by (with_reducible repeat (first | apply Kd.N_alloc | apply Kd.N_drewN | apply Kd.N_drew)); exact Kd.N_mono HO_12.out (fun _ hk => ⟨hk.1.2, ⟨hk.2, ⟨hk.1.1.1, ⟨hk.1.1.2.1, ⟨hk.1.1.2.2.1, hk.1.1.2.2.2⟩⟩⟩⟩⟩)), (by (with_reducible repeat (first | apply Kd.N_alloc | apply Kd.N_drewN | apply Kd.N_drew)); exact Kd.N_mono HO_15.out (fun _ hk => ⟨hk.1.2, ⟨hk.2, ⟨hk.1.1.1, ⟨hk.1.1.2.1, ⟨hk.1.1.2.2.1, hk.1.1.2.2.2⟩⟩⟩⟩⟩)), (vM HO_302003), (vM HO_311003), (kk BK291), (kk BK301), (kk BK310), (bb HB)⟩)
                                  · skip
                                    have hcv84 := own_string (P := Try.prog) Try.underlying22 Try.underlying5 Try.underlying9 (Kd.own_of_R HO356.out)
                                    refine value_ (w1 := ?_) (v := ?_) (by rfl) rfl ?_ ?_
                                    rotate_left 2
                                    · go_simp
                                      constructor
                                      · rfl
                                      · rfl
                                    clear hcv84
                                    refine hK.out _ _ ⟨cx BK291 0, cx BK291 1, cx BK291 2, cx BK291 3⟩ (fun hHeld => ?_)
                                    clear hK K
                                    refine norm_ (a' := ?_) ?_ ?_
                                    rotate_left
                                    · show Act.put _ (some 117) _ = _
                                      simp only [Act.put, List.setIfInBounds_toArray, List.set_cons_zero, List.set_cons_succ, i64_w, i32_w]
                                      rfl
                                    refine one_ (i := 13) (N := some 114) #[true, true, true, true, true, true, true, true, true, true, true, true, true, true, true, true, true, false, false, false] rfl rfl (one_of HT_.out (by kernel_rfl)) (by decide) (fun K hK => ?_)
                                    have hcv85 := own_string (P := Try.prog) Try.underlying22 Try.underlying5 Try.underlying9 (Kd.own_of_R HO353.out)
                                    refine value_ (w1 := ?_) (v := ?_) (by rfl) rfl ?_ ?_
                                    rotate_left 2
                                    · go_simp
                                      constructor
                                      · rfl
                                      · rfl
                                    clear hcv85
                                    refine hK.out _ _ ⟨cx BK291 0, cx BK291 1, cx BK291 2, cx BK291 3⟩ (fun hHeld => ?_)
                                    clear hK K
                                    refine norm_ (a' := ?_) ?_ ?_
                                    rotate_left
                                    · show Act.put _ (some 114) _ = _
                                      simp only [Act.put, List.setIfInBounds_toArray, List.set_cons_zero, List.set_cons_succ, i64_w, i32_w]
                                      rfl
                                    exact norm_ (by simp only [putAll, Act.put, List.setIfInBounds_toArray, List.set_cons_zero, List.set_cons_succ]) (hCont (v355) _ ⟨hHeld, (vM HO342), (vM HO350), (by (with_reducible repeat (first | apply Kd.R_alloc | apply Kd.R_drewN | apply Kd.R_drew)); exact Kd.R_mono HO353.out (fun _ hk => hk.2)), (by (with_reducible repeat (first | apply Kd.R_alloc | apply Kd.R_drewN | apply Kd.R_drew)); exact Kd.R_mono HO356.out (fun _ hk => hk.2)), (by (with_reducible repeat (first | apply Kd.N_alloc | apply Kd.N_drewN | apply Kd.N_drew)); exact Kd.N_mono HO_12.out (fun _ hk => ⟨hk.1.2, ⟨hk.2, ⟨hk.1.1.1, ⟨hk.1.1.2.1, ⟨hk.1.1.2.2.1, hk.1.1.2.2.2⟩⟩⟩⟩⟩)), (by (with_reducible repeat (first | apply Kd.N_alloc | apply Kd.N_drewN | apply Kd.N_drew)); exact Kd.N_mono HO_15.out (fun _ hk => ⟨hk.1.2, ⟨hk.2, ⟨hk.1.1.1, ⟨hk.1.1.2.1, ⟨hk.1.1.2.2.1, hk.1.1.2.2.2⟩⟩⟩⟩⟩)), (vM HO_302003), (vM HO_311003), (kk BK291), (kk BK301), (kk BK310), (bb HB)⟩)
                              clear HO_12 HO_15 HO_302003 HO_311003 BK291 BK301 BK310 HB
                              rintro v355 w86 hS_
                              (try dsimp only at hS_)
                              obtain ⟨hHeld, h0_, h1_, h2_, h3_, h4_, h5_, h6_, h7_, h8_, h9_, h10_, h11_⟩ := hS_
                              have HO342 := Aside0.mk h0_
                              have HO350 := Aside0.mk h1_
                              have HO353 := Aside0.mk h2_
                              have HO356 := Aside0.mk h3_
                              have HO_12 := Aside0.mk h4_
                              have HO_15 := Aside0.mk h5_
                              have HO_302003 := Aside0.mk h6_
                              have HO_311003 := Aside0.mk h7_
                              have BK291 := Aside0.mk h8_
                              have BK301 := Aside0.mk h9_
                              have BK310 := Aside0.mk h10_
                              have HB := Aside0.mk h11_
                              clear h0_ h1_ h2_ h3_ h4_ h5_ h6_ h7_ h8_ h9_ h10_ h11_
                              refine norm_ (a' := ?_) ?_ ?_
                              rotate_left
                              · simp only [putAll, Act.put, List.setIfInBounds_toArray, List.set_cons_zero, List.set_cons_succ]
                                rfl
                              refine pure_ (i := 17) (N := some 118) (v := ?_) (a' := ?_) #[true, true, true, true, true, true, true, true, true, true, true, true, true, true, true, true, true, true, false, false] rfl rfl (any_of HT_.out (by kernel_rfl)) (fun _ _ _ h => h) (Or.inl ⟨by rfl, ?_⟩) ?_ ?_
                              rotate_left
                              · intro w'
                                go_simp
                                with_reducible rfl
                              rotate_left
                              · simp only [Act.put, List.setIfInBounds_toArray, List.set_cons_zero, List.set_cons_succ, i64_w, i32_w]
                                rfl
                              refine pure_ (i := 18) (N := some 119) (v := ?_) (a' := ?_) #[true, true, true, true, true, true, true, true, true, true, true, true, true, true, true, true, true, true, true, false] rfl rfl (any_of HT_.out (by kernel_rfl)) (fun _ _ _ h => h) (Or.inl ⟨by rfl, ?_⟩) ?_ ?_
                              rotate_left
                              · intro w'
                                go_simp
                                with_reducible rfl
                              rotate_left
                              · simp only [Act.put, List.setIfInBounds_toArray, List.set_cons_zero, List.set_cons_succ, i64_w, i32_w]
                                rfl
                              refine pure_ (i := 19) (N := some 4) (v := ?_) (a' := ?_) #[true, true, true, true, true, true, true, true, true, true, true, true, true, true, true, true, true, true, true, true] rfl rfl (any_of HT_.out (by kernel_rfl)) (fun _ _ _ h => h) (Or.inl ⟨by rfl, ?_⟩) ?_ ?_
                              rotate_left
                              · intro w'
                                go_simp
                                with_reducible rfl
                              rotate_left
                              · simp only [Act.put, List.setIfInBounds_toArray, List.set_cons_zero, List.set_cons_succ, i64_w, i32_w]
                                rfl
                              refine done_ (done_of HT_.out (by kernel_rfl)) ?_
                              try go_wp2
                              go_ret
                              exact ⟨by first | rfl | (simp [errW_none, errW_some] <;> rfl) | (simp [*, errW_none, errW_some] <;> rfl), by repeat (first | (with_reducible first | exact HB.out | apply below_alloc | apply pw_below_drewN | apply below_drew1 | refine below_set ?_ GE291.out | refine below_set ?_ GE301.out | refine below_set ?_ GE310.out) | exact HB.out)⟩
                            · rw [if_neg c70] at H
                              have c70b0 : (t343 == t344) = false := by simpa using c70
                              (try (have c70b1 : decide (t343 = t344) = false := by simpa using c70))
                              (try (have c70b2 : (t343 == t344) = false := by simpa using c70))
                              (try (have c70b3 : ¬ (t343 = t344) := by simpa using c70))
                              clear c70
                              cases H; exact absurd HRT.out (by decide)
                          · replace c66 := Bool.eq_false_iff.mpr c66
                            subst c66
                            rw [if_neg nf] at H
                            cases H; exact absurd HRT.out (by decide)

end Go.Proofs.Ytdnglfodlhhikaa.Q
