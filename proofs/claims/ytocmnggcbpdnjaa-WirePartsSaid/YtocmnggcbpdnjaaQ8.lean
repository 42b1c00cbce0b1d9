-- Laid by mix.py, a program of this session, with the kit's print.py; walks by hand come out of wip/over.
import Derived.Test.YtocmnggcbpdnjaaShort
import Derived.Test.YtocmnggcbpdnjaaQ0
import Derived.Test.YtocmnggcbpdnjaaQ1
import Derived.Test.YtocmnggcbpdnjaaQ2
import Derived.Test.YtocmnggcbpdnjaaQ3
import Derived.Test.YtocmnggcbpdnjaaQ4
import Derived.Test.YtocmnggcbpdnjaaQ6
namespace Go.Proofs.Ytocmnggcbpdnjaa.Q
open Go.RowKit Go.Proofs.YtocmnggcbpdnjaaW.PrintWords Go.Proofs.YtocmnggcbpdnjaaW.PrintLast Go.Proofs.YtocmnggcbpdnjaaW.PrintMore Go.Proofs.YtocmnggcbpdnjaaW.Sh
attribute [local go_sem] max2_int min2_int max_two min_two max_three min_three max_four min_four   -- for this text's walks alone
set_option linter.unusedVariables false
set_option linter.unusedSimpArgs false

/-! ### pentroughlaw19_WireParts: function 5 -/
mutual
def pentroughlaw19_WireParts.j0 : Nat → List Int → Int → Int → Bool → Bool → List Int → Bool → Int → List Int → Option (Bool)
 | 0, _, _, _, _, _, _, _, _, _ => none
 | k + 1, x1, x2, x3, x9, x53, x341000, x341001, x341002, x341003 => if x53 = true then (some x9) else ((pentroughlaw19_ours.f x341000 x341001 x341002 x341003).bind fun bt352 => ((wire_Read.f bt352.1 bt352.2.1 bt352.2.2.1 bt352.2.2.2 x2).bind fun bt360 => ((wire_Read.f bt360.1 bt360.2.1 bt360.2.2.1 bt360.2.2.2.1 x3).bind fun bt372 => ((pentroughlaw19_ours.f x341000 x341001 x341002 x341003).bind fun bt384 => ((wire_Read.f bt384.1 bt384.2.1 bt384.2.2.1 bt384.2.2.2 (wrap64 (x2 + x3))).bind fun bt392 => (if (strOfNums bt360.2.2.2.2).size + (strOfNums bt372.2.2.2.2).size ≤ 9223372036854775807 then (if ((strOfNums bt360.2.2.2.2) ++ (strOfNums bt372.2.2.2.2)).toList = (strOfNums bt392.2.2.2.2).toList then (pentroughlaw19_WireParts.j1 k x1 x2 x9 ((strOfNums bt372.1).toList != (strOfNums bt392.1).toList) x341000 x341001 x341002 x341003) else (pentroughlaw19_WireParts.j1 k x1 x2 x9 true x341000 x341001 x341002 x341003)) else (none)))))))
def pentroughlaw19_WireParts.j1 : Nat → List Int → Int → Bool → Bool → List Int → Bool → Int → List Int → Option (Bool)
 | 0, _, _, _, _, _, _, _, _ => none
 | k + 1, x1, x2, x9, x93, x341000, x341001, x341002, x341003 => if x93 = true then (some false) else (if (x1.length : Int) > x2 then (pentroughlaw19_WireParts.j2 k x1 x9 x2 x341000 x341001 x341002 x341003) else (pentroughlaw19_WireParts.j2 k x1 x9 (x1.length : Int) x341000 x341001 x341002 x341003))
def pentroughlaw19_WireParts.j2 : Nat → List Int → Bool → Int → List Int → Bool → Int → List Int → Option (Bool)
 | 0, _, _, _, _, _, _, _ => none
 | k + 1, x1, x9, x16, x341000, x341001, x341002, x341003 => (pentroughlaw19_ours.f x341000 x341001 x341002 x341003).bind fun bt404 => (if 0 ≤ x16 then (if x16 ≤ (x1.length : Int) then ((wire_Write.f bt404.1 bt404.2.1 bt404.2.2.1 bt404.2.2.2 (x1.take (x16 : Int).toNat)).bind fun bt413 => ((wire_Write.f bt413.1 bt413.2.1 bt413.2.2.1 bt413.2.2.2.1 (x1.drop (x16 : Int).toNat)).bind fun bt424 => ((pentroughlaw19_ours.f x341000 x341001 x341002 x341003).bind fun bt434 => ((wire_Write.f bt434.1 bt434.2.1 bt434.2.2.1 bt434.2.2.2 x1).bind fun bt442 => (if bt413.2.2.2.2 < x16 then (if x9 = true then (if bt424.2.2.2.2 = 0 then (if bt442.2.2.2.2 = bt413.2.2.2.2 then (some ((strOfNums bt413.2.2.2.1).toList == (strOfNums bt442.2.2.2.1).toList)) else (some false)) else (some false)) else (some false)) else (if x9 = true then (if (wrap64 (bt413.2.2.2.2 + bt424.2.2.2.2)) = bt442.2.2.2.2 then (if (strOfNums bt424.2.2.2.1).toList = (strOfNums bt442.2.2.2.1).toList then (some (bt424.2.2.1 == bt442.2.2.1)) else (some false)) else (some false)) else (some false))))))) else (none)) else (none))
end
def pentroughlaw19_WireParts.f (k : Nat) (l0_0 : List Int) (a0_1 : Bool) (a0_2 : Int) (l0_3 : List Int) (l1 : List Int) (a2 : Int) (a3 : Int) : Option (Bool) := (pentroughlaw19_awake.f).bind fun t341 => ((pentroughref19_Few.f l0_0 a0_1 a0_2 l0_3).bind fun t342 => (if t342 = true then (if (l1.length : Int) > 5000 then (pentroughlaw19_WireParts.j0 k l1 a2 a3 t341 true l0_0 a0_1 a0_2 l0_3) else ((pentroughlaw19_ours.f l0_0 a0_1 a0_2 l0_3).bind fun bt343 => ((wire_Sane.f bt343.1 bt343.2.1 bt343.2.2.1 bt343.2.2.2).bind fun t351 => (if t351 = true then (if a2 < 0 then (pentroughlaw19_WireParts.j0 k l1 a2 a3 t341 true l0_0 a0_1 a0_2 l0_3) else (if a2 > 4096 then (pentroughlaw19_WireParts.j0 k l1 a2 a3 t341 true l0_0 a0_1 a0_2 l0_3) else (if a3 < 0 then (pentroughlaw19_WireParts.j0 k l1 a2 a3 t341 true l0_0 a0_1 a0_2 l0_3) else (pentroughlaw19_WireParts.j0 k l1 a2 a3 t341 (decide (a3 > 4096)) l0_0 a0_1 a0_2 l0_3)))) else (pentroughlaw19_WireParts.j0 k l1 a2 a3 t341 true l0_0 a0_1 a0_2 l0_3))))) else (pentroughlaw19_WireParts.j0 k l1 a2 a3 t341 true l0_0 a0_1 a0_2 l0_3)))
theorem pentroughlaw19_WireParts.mono_l : ∀ k, (∀ y0 y1 y2 y3 y4 y5 y6 y7 y8, LeO (pentroughlaw19_WireParts.j0 k y0 y1 y2 y3 y4 y5 y6 y7 y8) (pentroughlaw19_WireParts.j0 (k + 1) y0 y1 y2 y3 y4 y5 y6 y7 y8)) ∧ (∀ y0 y1 y2 y3 y4 y5 y6 y7, LeO (pentroughlaw19_WireParts.j1 k y0 y1 y2 y3 y4 y5 y6 y7) (pentroughlaw19_WireParts.j1 (k + 1) y0 y1 y2 y3 y4 y5 y6 y7)) ∧ (∀ y0 y1 y2 y3 y4 y5 y6, LeO (pentroughlaw19_WireParts.j2 k y0 y1 y2 y3 y4 y5 y6) (pentroughlaw19_WireParts.j2 (k + 1) y0 y1 y2 y3 y4 y5 y6))
 | 0 => ⟨fun _ _ _ _ _ _ _ _ _ r h => by simp [pentroughlaw19_WireParts.j0] at h, fun _ _ _ _ _ _ _ _ r h => by simp [pentroughlaw19_WireParts.j1] at h, fun _ _ _ _ _ _ _ r h => by simp [pentroughlaw19_WireParts.j2] at h⟩
 | k + 1 => by
  obtain ⟨ih0, ih1, ih2⟩ := pentroughlaw19_WireParts.mono_l k
  refine ⟨?_, ?_, ?_⟩
  ·
   intro y0 y1 y2 y3 y4 y5 y6 y7 y8
   unfold pentroughlaw19_WireParts.j0
   repeat' first
   | (with_reducible exact ih0 _ _ _ _ _ _ _ _ _)
   | (with_reducible exact ih1 _ _ _ _ _ _ _ _)
   | (with_reducible exact ih2 _ _ _ _ _ _ _)
   | (with_reducible exact LeO.refl _)
   | (with_reducible exact LeO.none _)
   | (with_reducible refine LeO.ite ?_ ?_)
   | (with_reducible refine LeO.bind ?_ (fun _ => ?_))
   | exact ih0 _ _ _ _ _ _ _ _ _
   | exact ih1 _ _ _ _ _ _ _ _
   | exact ih2 _ _ _ _ _ _ _
   | exact LeO.none _
   | refine LeO.ite ?_ ?_
   | refine LeO.bind ?_ (fun _ => ?_)
  ·
   intro y0 y1 y2 y3 y4 y5 y6 y7
   unfold pentroughlaw19_WireParts.j1
   repeat' first
   | (with_reducible exact ih0 _ _ _ _ _ _ _ _ _)
   | (with_reducible exact ih1 _ _ _ _ _ _ _ _)
   | (with_reducible exact ih2 _ _ _ _ _ _ _)
   | (with_reducible exact LeO.refl _)
   | (with_reducible exact LeO.none _)
   | (with_reducible refine LeO.ite ?_ ?_)
   | (with_reducible refine LeO.bind ?_ (fun _ => ?_))
   | exact ih0 _ _ _ _ _ _ _ _ _
   | exact ih1 _ _ _ _ _ _ _ _
   | exact ih2 _ _ _ _ _ _ _
   | exact LeO.none _
   | refine LeO.ite ?_ ?_
   | refine LeO.bind ?_ (fun _ => ?_)
  ·
   intro y0 y1 y2 y3 y4 y5 y6
   unfold pentroughlaw19_WireParts.j2
   repeat' first
   | (with_reducible exact ih0 _ _ _ _ _ _ _ _ _)
   | (with_reducible exact ih1 _ _ _ _ _ _ _ _)
   | (with_reducible exact ih2 _ _ _ _ _ _ _)
   | (with_reducible exact LeO.refl _)
   | (with_reducible exact LeO.none _)
   | (with_reducible refine LeO.ite ?_ ?_)
   | (with_reducible refine LeO.bind ?_ (fun _ => ?_))
   | exact ih0 _ _ _ _ _ _ _ _ _
   | exact ih1 _ _ _ _ _ _ _ _
   | exact ih2 _ _ _ _ _ _ _
   | exact LeO.none _
   | refine LeO.ite ?_ ?_
   | refine LeO.bind ?_ (fun _ => ?_)
theorem pentroughlaw19_WireParts.mono : ∀ a0 a1 a2 a3 a4 a5 a6 k, LeO (pentroughlaw19_WireParts.f k a0 a1 a2 a3 a4 a5 a6) (pentroughlaw19_WireParts.f (k + 1) a0 a1 a2 a3 a4 a5 a6) := by
 intro a0 a1 a2 a3 a4 a5 a6 k
 obtain ⟨ih0, ih1, ih2⟩ := pentroughlaw19_WireParts.mono_l k
 unfold pentroughlaw19_WireParts.f
 repeat' first
   | (with_reducible exact ih0 _ _ _ _ _ _ _ _ _)
   | (with_reducible exact ih1 _ _ _ _ _ _ _ _)
   | (with_reducible exact ih2 _ _ _ _ _ _ _)
   | (with_reducible exact LeO.refl _)
   | (with_reducible exact LeO.none _)
   | (with_reducible refine LeO.ite ?_ ?_)
   | (with_reducible refine LeO.bind ?_ (fun _ => ?_))
   | exact ih0 _ _ _ _ _ _ _ _ _
   | exact ih1 _ _ _ _ _ _ _ _
   | exact ih2 _ _ _ _ _ _ _
   | exact LeO.none _
   | refine LeO.ite ?_ ?_
   | refine LeO.bind ?_ (fun _ => ?_)
def pentroughlaw19_WireParts.T12 : Bool × List (List Nat × List Nat) := (true, [([], []), ([0], [0]), ([], []), ([], []), ([2, 3], [2, 3]), ([1, 4, 1], [1, 4]), ([5], [5]), ([6], [6]), ([6], [6]), ([], []), ([9, 7, 5, 0, 1, 2, 3, 4, 5, 6, 7, 9], [7, 9]), ([8, 10, 0, 1, 2, 3, 4, 5, 6, 7, 8, 9, 10], [8])])
def pentroughlaw19_WireParts.B12 : List Nat := [0, 1, 0, 0, 12, 31, 63, 127, 127, 0, 767, 2047]
theorem pentroughlaw19_WireParts.tab12 : rtab .any (opsOf Try.f5 12) = pentroughlaw19_WireParts.T12 := by kernel_rfl
theorem pentroughlaw19_WireParts.bits12 : waitsOk pentroughlaw19_WireParts.T12.2 pentroughlaw19_WireParts.B12 = true := by kernel_rfl
def pentroughlaw19_WireParts.T13 : Bool × List (List Nat × List Nat) := (true, [([], []), ([], []), ([], []), ([1, 2], [1, 2]), ([0, 3], [0, 3]), ([4], [4]), ([5], [5]), ([5], [5]), ([], []), ([8, 6, 4, 0, 1, 2, 3, 4, 5, 6, 8], [6, 8]), ([7, 9, 0, 1, 2, 3, 4, 5, 6, 7, 8, 9], [7])])
def pentroughlaw19_WireParts.B13 : List Nat := [0, 0, 0, 6, 15, 31, 63, 63, 0, 383, 1023]
theorem pentroughlaw19_WireParts.tab13 : rtab .any (opsOf Try.f5 13) = pentroughlaw19_WireParts.T13 := by kernel_rfl
theorem pentroughlaw19_WireParts.bits13 : waitsOk pentroughlaw19_WireParts.T13.2 pentroughlaw19_WireParts.B13 = true := by kernel_rfl
set_option maxHeartbeats 8000000 in
set_option maxRecDepth 100000 in
theorem pentroughlaw19_WireParts.calls (k : Nat) (A0_0 : Option Addr) (c0_0 : Nat) (l0_0 : List Int) (a0_1 : Bool) (a0_2 : Int) (A0_3 : Option Addr) (c0_3 : Nat) (l0_3 : List Int) (A1 : Option Addr) (c1 : Nat) (l1 : List Int) (a2 : Int) (a3 : Int) (r : Bool) (w : World) (hr0_0 : Kd.C (Kd.int .u8) w A0_0 l0_0.length l0_0) (hc0_0 : l0_0.length ≤ c0_0) (hr0_3 : Kd.C (Kd.int .u8) w A0_3 l0_3.length l0_3) (hc0_3 : l0_3.length ≤ c0_3) (hr1 : Kd.C (Kd.int .u8) w A1 l1.length l1) (hc1 : l1.length ≤ c1) (h : pentroughlaw19_WireParts.f k l0_0 a0_1 a0_2 l0_3 l1 a2 a3 = some r) (HRT : Aside0 (r = true)) :
  Calls Try.prog 5 #[.agg #[.slice A0_0 l0_0.length c0_0, .bool a0_1, .int .i64 a0_2, .slice A0_3 l0_3.length c0_3], .slice A1 l1.length c1, .int .i64 a2, .int .i64 a3] w fun e w' => e = .returned (.bool r) ∧ Below w.heap.size w w' := by
 have hu36 := Try.underlying36
 have hu27 := Try.underlying27
 have HR0_0 := Aside0.mk hr0_0
 have HC0_0 := Aside0.mk hc0_0
 clear hr0_0 hc0_0
 have HR0_3 := Aside0.mk hr0_3
 have HC0_3 := Aside0.mk hc0_3
 clear hr0_3 hc0_3
 have HR1 := Aside0.mk hr1
 have HC1 := Aside0.mk hc1
 clear hr1 hc1
 have HB := Aside0.mk (Below.refl w.heap.size w)
 have H : ((pentroughlaw19_awake.f).bind fun t341 => ((pentroughref19_Few.f l0_0 a0_1 a0_2 l0_3).bind fun t342 => (if t342 = true then (if (l1.length : Int) > 5000 then (pentroughlaw19_WireParts.j0 k l1 a2 a3 t341 true l0_0 a0_1 a0_2 l0_3) else ((pentroughlaw19_ours.f l0_0 a0_1 a0_2 l0_3).bind fun bt343 => ((wire_Sane.f bt343.1 bt343.2.1 bt343.2.2.1 bt343.2.2.2).bind fun t351 => (if t351 = true then (if a2 < 0 then (pentroughlaw19_WireParts.j0 k l1 a2 a3 t341 true l0_0 a0_1 a0_2 l0_3) else (if a2 > 4096 then (pentroughlaw19_WireParts.j0 k l1 a2 a3 t341 true l0_0 a0_1 a0_2 l0_3) else (if a3 < 0 then (pentroughlaw19_WireParts.j0 k l1 a2 a3 t341 true l0_0 a0_1 a0_2 l0_3) else (pentroughlaw19_WireParts.j0 k l1 a2 a3 t341 (decide (a3 > 4096)) l0_0 a0_1 a0_2 l0_3)))) else (pentroughlaw19_WireParts.j0 k l1 a2 a3 t341 true l0_0 a0_1 a0_2 l0_3))))) else (pentroughlaw19_WireParts.j0 k l1 a2 a3 t341 true l0_0 a0_1 a0_2 l0_3)))) = some r := h
 clear h
 obtain ⟨t341, A5, H⟩ := ob H
 have HC6 := Aside0.mk H
 clear H
 go_enter Try.func5, Try.ntmps5
 go_upto_region 2 with (first | ((with_reducible refine gate_dst (N := 4) rfl ?_); (try (refine gate_guard (by rfl) ?_; dsimp only)); refine box_event ?hg (N := 4) ?hd (cs := #[.slice A0_0 l0_0.length c0_0, .bool a0_1, .int .i64 a0_2, .slice A0_3 l0_3.length c0_3]) (t := 36) ?hr ?_; (case hd => rfl); (case hg => rfl); (case hr => first | (go_simp; done) | (go_simp; rfl)); intro gb340 hg w7 hbox hb; have BK340 := Aside0.mk hbox; have GW340 := gE HB hg; have GE340 := gE HB hg; replace HB := hB HB hb; clear hb hbox hg) | ((with_reducible refine gate_callee (f := 9) rfl ?_); refine gL (some 23) rfl rfl Try.func9 (by kernel_rfl) rfl #[] rfl ?_; (with_reducible refine (pentroughlaw19_awake.calls  t341 _ A5.out).mono ?_); rintro e w8 ⟨rfl, hb⟩; refine ⟨_, rfl, ?_⟩; replace BK340 := kB BK340 hb; replace HB := hB HB hb; (try clear hb); (try clear hb2); (try clear hk); (try clear hi)))
 (try simp only [Act.put, List.setIfInBounds_toArray, List.set_cons_zero, List.set_cons_succ])
 go_cut [53] (fun v53 wc => ∃ (kq : Nat) (x53_5 : Bool), v53 = .bool x53_5 ∧ Aside0 (pentroughlaw19_WireParts.j0 kq l1 a2 a3 t341 x53_5 l0_0 a0_1 a0_2 l0_3 = some r) ∧ Aside0 (kq ≤ k) ∧ Aside0 (wc.heap[gb340]? = some (.cells #[(.slice A0_0 l0_0.length c0_0), .bool a0_1, .int .i64 a0_2, (.slice A0_3 l0_3.length c0_3)] 36 (0, 0))) ∧ Aside0 (Below w.heap.size w wc))
 case first =>
  have H := HC6.out
  clear HC6
  obtain ⟨t342, A9, H⟩ := ob H
  by_cases c10 : t342 = true
  ·
   subst c10
   rw [if_pos rfl] at H
   by_cases c11 : (l1.length : Int) > 5000
   ·
    rw [if_pos c11] at H
    have c11b0 : decide (5000 < (l1.length : Int)) = true := decide_eq_true c11
    have c11b1 : decide (5000 < l1.length) = true := decide_eq_true (by omega)
    clear c11
    (first | rw [c11b0] | (simp only [i64_w, i32_w]; rw [c11b0]) | skip)
    have H' := Aside0.mk H
    clear H
    obtain ⟨hcz12_0, hcz12_1, hcz12_2, hcz12_3, hfz12_0, hfz12_1, hfz12_2, hfz12_3⟩ := bc4 BK340
    go_wp2_with (first | ((with_reducible refine gate_callee (f := 14) rfl ?_); refine gL (some 25) rfl rfl Try.func14 (by kernel_rfl) rfl #[.agg #[.slice A0_0 l0_0.length c0_0, .bool a0_1, .int .i64 a0_2, .slice A0_3 l0_3.length c0_3]] rfl ?_; (with_reducible refine (pentroughref19_Few.calls _ _ l0_0 a0_1 a0_2 _ _ l0_3 true _ ?side1 ?side2 ?side3 ?side4 A9.out).mono ?_); (case side1 => exact Kd.C_below HR0_0.out (bb HB)); (case side2 => exact HC0_0.out); (case side3 => exact Kd.C_below HR0_3.out (bb HB)); (case side4 => exact HC0_3.out); rintro e w13 ⟨rfl, hb⟩; refine ⟨_, rfl, ?_⟩; replace BK340 := kB BK340 hb; replace HB := hB HB hb; (try clear hb); (try clear hb2); (try clear hk); (try clear hi)))
    go_meet
    case rel => exact ⟨_, (true), (by first | rfl | (simp; done) | (simp [*]; done)), H', ⟨by first | omega | exact Nat.le_refl _⟩, ⟨kk BK340⟩, ⟨bb HB⟩⟩
   ·
    rw [if_neg c11] at H
    have c11b0 : decide (5000 < (l1.length : Int)) = false := decide_eq_false c11
    have c11b1 : decide (5000 < l1.length) = false := decide_eq_false (by omega)
    clear c11
    (first | rw [c11b0] | (simp only [i64_w, i32_w]; rw [c11b0]) | skip)
    obtain ⟨⟨t343, t346, t347, t348⟩, A14, H⟩ := ob H
    dsimp only at H
    obtain ⟨t351, A15, H⟩ := ob H
    by_cases c16 : t351 = true
    ·
     subst c16
     rw [if_pos rfl] at H
     by_cases c17 : a2 < 0
     ·
      rw [if_pos c17] at H
      have c17b0 : decide (a2 < 0) = true := decide_eq_true c17
      clear c17
      have H' := Aside0.mk H
      clear H
      obtain ⟨hcz18_0, hcz18_1, hcz18_2, hcz18_3, hfz18_0, hfz18_1, hfz18_2, hfz18_3⟩ := bc4 BK340
      go_wp2_with (first | ((with_reducible refine gate_callee (f := 14) rfl ?_); refine gL (some 25) rfl rfl Try.func14 (by kernel_rfl) rfl #[.agg #[.slice A0_0 l0_0.length c0_0, .bool a0_1, .int .i64 a0_2, .slice A0_3 l0_3.length c0_3]] rfl ?_; (with_reducible refine (pentroughref19_Few.calls _ _ l0_0 a0_1 a0_2 _ _ l0_3 true _ ?side1 ?side2 ?side3 ?side4 A9.out).mono ?_); (case side1 => exact Kd.C_below HR0_0.out (bb HB)); (case side2 => exact HC0_0.out); (case side3 => exact Kd.C_below HR0_3.out (bb HB)); (case side4 => exact HC0_3.out); rintro e w19 ⟨rfl, hb⟩; refine ⟨_, rfl, ?_⟩; replace BK340 := kB BK340 hb; replace HB := hB HB hb; (try clear hb); (try clear hb2); (try clear hk); (try clear hi); obtain ⟨hcz20_0, hcz20_1, hcz20_2, hcz20_3, hfz20_0, hfz20_1, hfz20_2, hfz20_3⟩ := bc4 BK340) | (go_at_call 16; (with_reducible refine (pentroughlaw19_ours.calls (fun k_ => k_ < w.heap.size) _ _ l0_0 a0_1 a0_2 (fun k_ => k_ < w.heap.size) _ _ l0_3 t343 t346 t347 t348 _ ?side1 ?side2 A14.out).mono ?_); (case side1 => exact Kd.V_mk HC0_0.out (Kd.F_below (Kd.C_F (Kd.heap_int .u8) HR0_0.out) (bb HB))); (case side2 => exact Kd.V_mk HC0_3.out (Kd.F_below (Kd.C_F (Kd.heap_int .u8) HR0_3.out) (bb HB))); rintro e w21 ⟨v344, v349, rfl, ho0, ho1, hb⟩; have HO345 := Aside0.mk (Kd.V_lower (Kd.V_mono (ok' := fun k_ => k_ ≠ gb340) ho0 (fun k_ hk_ => oe hk_ (gw GW340) (gw GW340) (Kd.freshB (kk BK340) k_))) (below_size (bb HB))); have HO350 := Aside0.mk (Kd.V_lower (Kd.V_mono (ok' := fun k_ => k_ ≠ gb340) ho1 (fun k_ hk_ => oe hk_ (gw GW340) (gw GW340) (Kd.freshB (kk BK340) k_))) (below_size (bb HB))); replace BK340 := kB BK340 hb; replace HB := hB HB hb; (try clear hb); (try clear hb2); (try clear hk); (try clear hi); (try clear ho0); (try clear ho1); obtain ⟨Ao22, co22, eo22⟩ := Kd.V_slice HO345.out; subst eo22; obtain ⟨Ao23, co23, eo23⟩ := Kd.V_slice HO350.out; subst eo23) | (go_at_call 15; (with_reducible refine (wire_Sane.calls _ _ t343 t346 t347 _ _ t348 true _ ?side1 ?side2 ?side3 ?side4 A15.out).mono ?_); (case side1 => exact (Kd.V_reads' (vv HO345)).2.2); (case side2 => exact (Kd.V_reads' HO345.out).2.1); (case side3 => exact (Kd.V_reads' (vv HO350)).2.2); (case side4 => exact (Kd.V_reads' HO350.out).2.1); rintro e w24 ⟨rfl, hb⟩; replace HO345 := vB HO345 hb; replace HO350 := vB HO350 hb; replace BK340 := kB BK340 hb; replace HB := hB HB hb; (try clear hb); (try clear hb2); (try clear hk); (try clear hi)))
      go_meet
      case rel => exact ⟨_, (true), (by first | rfl | (simp; done) | (simp [*]; done)), H', ⟨by first | omega | exact Nat.le_refl _⟩, ⟨kk BK340⟩, ⟨bb HB⟩⟩
     ·
      rw [if_neg c17] at H
      have c17b0 : decide (a2 < 0) = false := decide_eq_false c17
      clear c17
      by_cases c25 : a2 > 4096
      ·
       rw [if_pos c25] at H
       have c25b0 : decide (4096 < a2) = true := decide_eq_true c25
       clear c25
       have H' := Aside0.mk H
       clear H
       obtain ⟨hcz26_0, hcz26_1, hcz26_2, hcz26_3, hfz26_0, hfz26_1, hfz26_2, hfz26_3⟩ := bc4 BK340
       go_wp2_with (first | ((with_reducible refine gate_callee (f := 14) rfl ?_); refine gL (some 25) rfl rfl Try.func14 (by kernel_rfl) rfl #[.agg #[.slice A0_0 l0_0.length c0_0, .bool a0_1, .int .i64 a0_2, .slice A0_3 l0_3.length c0_3]] rfl ?_; (with_reducible refine (pentroughref19_Few.calls _ _ l0_0 a0_1 a0_2 _ _ l0_3 true _ ?side1 ?side2 ?side3 ?side4 A9.out).mono ?_); (case side1 => exact Kd.C_below HR0_0.out (bb HB)); (case side2 => exact HC0_0.out); (case side3 => exact Kd.C_below HR0_3.out (bb HB)); (case side4 => exact HC0_3.out); rintro e w27 ⟨rfl, hb⟩; refine ⟨_, rfl, ?_⟩; replace BK340 := kB BK340 hb; replace HB := hB HB hb; (try clear hb); (try clear hb2); (try clear hk); (try clear hi); obtain ⟨hcz28_0, hcz28_1, hcz28_2, hcz28_3, hfz28_0, hfz28_1, hfz28_2, hfz28_3⟩ := bc4 BK340) | (go_at_call 16; (with_reducible refine (pentroughlaw19_ours.calls (fun k_ => k_ < w.heap.size) _ _ l0_0 a0_1 a0_2 (fun k_ => k_ < w.heap.size) _ _ l0_3 t343 t346 t347 t348 _ ?side1 ?side2 A14.out).mono ?_); (case side1 => exact Kd.V_mk HC0_0.out (Kd.F_below (Kd.C_F (Kd.heap_int .u8) HR0_0.out) (bb HB))); (case side2 => exact Kd.V_mk HC0_3.out (Kd.F_below (Kd.C_F (Kd.heap_int .u8) HR0_3.out) (bb HB))); rintro e w29 ⟨v344, v349, rfl, ho0, ho1, hb⟩; have HO345 := Aside0.mk (Kd.V_lower (Kd.V_mono (ok' := fun k_ => k_ ≠ gb340) ho0 (fun k_ hk_ => oe hk_ (gw GW340) (gw GW340) (Kd.freshB (kk BK340) k_))) (below_size (bb HB))); have HO350 := Aside0.mk (Kd.V_lower (Kd.V_mono (ok' := fun k_ => k_ ≠ gb340) ho1 (fun k_ hk_ => oe hk_ (gw GW340) (gw GW340) (Kd.freshB (kk BK340) k_))) (below_size (bb HB))); replace BK340 := kB BK340 hb; replace HB := hB HB hb; (try clear hb); (try clear hb2); (try clear hk); (try clear hi); (try clear ho0); (try clear ho1); obtain ⟨Ao30, co30, eo30⟩ := Kd.V_slice HO345.out; subst eo30; obtain ⟨Ao31, co31, eo31⟩ := Kd.V_slice HO350.out; subst eo31) | (go_at_call 15; (with_reducible refine (wire_Sane.calls _ _ t343 t346 t347 _ _ t348 true _ ?side1 ?side2 ?side3 ?side4 A15.out).mono ?_); (case side1 => exact (Kd.V_reads' (vv HO345)).2.2); (case side2 => exact (Kd.V_reads' HO345.out).2.1); (case side3 => exact (Kd.V_reads' (vv HO350)).2.2); (case side4 => exact (Kd.V_reads' HO350.out).2.1); rintro e w32 ⟨rfl, hb⟩; replace HO345 := vB HO345 hb; replace HO350 := vB HO350 hb; replace BK340 := kB BK340 hb; replace HB := hB HB hb; (try clear hb); (try clear hb2); (try clear hk); (try clear hi)))
       go_meet
       case rel => exact ⟨_, (true), (by first | rfl | (simp; done) | (simp [*]; done)), H', ⟨by first | omega | exact Nat.le_refl _⟩, ⟨kk BK340⟩, ⟨bb HB⟩⟩
      ·
       rw [if_neg c25] at H
       have c25b0 : decide (4096 < a2) = false := decide_eq_false c25
       clear c25
       by_cases c33 : a3 < 0
       ·
        rw [if_pos c33] at H
        have c33b0 : decide (a3 < 0) = true := decide_eq_true c33
        clear c33
        have H' := Aside0.mk H
        clear H
        obtain ⟨hcz34_0, hcz34_1, hcz34_2, hcz34_3, hfz34_0, hfz34_1, hfz34_2, hfz34_3⟩ := bc4 BK340
        go_wp2_with (first | ((with_reducible refine gate_callee (f := 14) rfl ?_); refine gL (some 25) rfl rfl Try.func14 (by kernel_rfl) rfl #[.agg #[.slice A0_0 l0_0.length c0_0, .bool a0_1, .int .i64 a0_2, .slice A0_3 l0_3.length c0_3]] rfl ?_; (with_reducible refine (pentroughref19_Few.calls _ _ l0_0 a0_1 a0_2 _ _ l0_3 true _ ?side1 ?side2 ?side3 ?side4 A9.out).mono ?_); (case side1 => exact Kd.C_below HR0_0.out (bb HB)); (case side2 => exact HC0_0.out); (case side3 => exact Kd.C_below HR0_3.out (bb HB)); (case side4 => exact HC0_3.out); rintro e w35 ⟨rfl, hb⟩; refine ⟨_, rfl, ?_⟩; replace BK340 := kB BK340 hb; replace HB := hB HB hb; (try clear hb); (try clear hb2); (try clear hk); (try clear hi); obtain ⟨hcz36_0, hcz36_1, hcz36_2, hcz36_3, hfz36_0, hfz36_1, hfz36_2, hfz36_3⟩ := bc4 BK340) | (go_at_call 16; (with_reducible refine (pentroughlaw19_ours.calls (fun k_ => k_ < w.heap.size) _ _ l0_0 a0_1 a0_2 (fun k_ => k_ < w.heap.size) _ _ l0_3 t343 t346 t347 t348 _ ?side1 ?side2 A14.out).mono ?_); (case side1 => exact Kd.V_mk HC0_0.out (Kd.F_below (Kd.C_F (Kd.heap_int .u8) HR0_0.out) (bb HB))); (case side2 => exact Kd.V_mk HC0_3.out (Kd.F_below (Kd.C_F (Kd.heap_int .u8) HR0_3.out) (bb HB))); rintro e w37 ⟨v344, v349, rfl, ho0, ho1, hb⟩; have HO345 := Aside0.mk (Kd.V_lower (Kd.V_mono (ok' := fun k_ => k_ ≠ gb340) ho0 (fun k_ hk_ => oe hk_ (gw GW340) (gw GW340) (Kd.freshB (kk BK340) k_))) (below_size (bb HB))); have HO350 := Aside0.mk (Kd.V_lower (Kd.V_mono (ok' := fun k_ => k_ ≠ gb340) ho1 (fun k_ hk_ => oe hk_ (gw GW340) (gw GW340) (Kd.freshB (kk BK340) k_))) (below_size (bb HB))); replace BK340 := kB BK340 hb; replace HB := hB HB hb; (try clear hb); (try clear hb2); (try clear hk); (try clear hi); (try clear ho0); (try clear ho1); obtain ⟨Ao38, co38, eo38⟩ := Kd.V_slice HO345.out; subst eo38; obtain ⟨Ao39, co39, eo39⟩ := Kd.V_slice HO350.out; subst eo39) | (go_at_call 15; (with_reducible refine (wire_Sane.calls _ _ t343 t346 t347 _ _ t348 true _ ?side1 ?side2 ?side3 ?side4 A15.out).mono ?_); (case side1 => exact (Kd.V_reads' (vv HO345)).2.2); (case side2 => exact (Kd.V_reads' HO345.out).2.1); (case side3 => exact (Kd.V_reads' (vv HO350)).2.2); (case side4 => exact (Kd.V_reads' HO350.out).2.1); rintro e w40 ⟨rfl, hb⟩; replace HO345 := vB HO345 hb; replace HO350 := vB HO350 hb; replace BK340 := kB BK340 hb; replace HB := hB HB hb; (try clear hb); (try clear hb2); (try clear hk); (try clear hi)))
        go_meet
        case rel => exact ⟨_, (true), (by first | rfl | (simp; done) | (simp [*]; done)), H', ⟨by first | omega | exact Nat.le_refl _⟩, ⟨kk BK340⟩, ⟨bb HB⟩⟩
       ·
        rw [if_neg c33] at H
        have c33b0 : decide (a3 < 0) = false := decide_eq_false c33
        clear c33
        have H' := Aside0.mk H
        clear H
        obtain ⟨hcz41_0, hcz41_1, hcz41_2, hcz41_3, hfz41_0, hfz41_1, hfz41_2, hfz41_3⟩ := bc4 BK340
        go_wp2_with (first | ((with_reducible refine gate_callee (f := 14) rfl ?_); refine gL (some 25) rfl rfl Try.func14 (by kernel_rfl) rfl #[.agg #[.slice A0_0 l0_0.length c0_0, .bool a0_1, .int .i64 a0_2, .slice A0_3 l0_3.length c0_3]] rfl ?_; (with_reducible refine (pentroughref19_Few.calls _ _ l0_0 a0_1 a0_2 _ _ l0_3 true _ ?side1 ?side2 ?side3 ?side4 A9.out).mono ?_); (case side1 => exact Kd.C_below HR0_0.out (bb HB)); (case side2 => exact HC0_0.out); (case side3 => exact Kd.C_below HR0_3.out (bb HB)); (case side4 => exact HC0_3.out); rintro e w42 ⟨rfl, hb⟩; refine ⟨_, rfl, ?_⟩; replace BK340 := kB BK340 hb; replace HB := hB HB hb; (try clear hb); (try clear hb2); (try clear hk); (try clear hi); obtain ⟨hcz43_0, hcz43_1, hcz43_2, hcz43_3, hfz43_0, hfz43_1, hfz43_2, hfz43_3⟩ := bc4 BK340) | (go_at_call 16; (with_reducible refine (pentroughlaw19_ours.calls (fun k_ => k_ < w.heap.size) _ _ l0_0 a0_1 a0_2 (fun k_ => k_ < w.heap.size) _ _ l0_3 t343 t346 t347 t348 _ ?side1 ?side2 A14.out).mono ?_); (case side1 => exact Kd.V_mk HC0_0.out (Kd.F_below (Kd.C_F (Kd.heap_int .u8) HR0_0.out) (bb HB))); (case side2 => exact Kd.V_mk HC0_3.out (Kd.F_below (Kd.C_F (Kd.heap_int .u8) HR0_3.out) (bb HB))); rintro e w44 ⟨v344, v349, rfl, ho0, ho1, hb⟩; have HO345 := Aside0.mk (Kd.V_lower (Kd.V_mono (ok' := fun k_ => k_ ≠ gb340) ho0 (fun k_ hk_ => oe hk_ (gw GW340) (gw GW340) (Kd.freshB (kk BK340) k_))) (below_size (bb HB))); have HO350 := Aside0.mk (Kd.V_lower (Kd.V_mono (ok' := fun k_ => k_ ≠ gb340) ho1 (fun k_ hk_ => oe hk_ (gw GW340) (gw GW340) (Kd.freshB (kk BK340) k_))) (below_size (bb HB))); replace BK340 := kB BK340 hb; replace HB := hB HB hb; (try clear hb); (try clear hb2); (try clear hk); (try clear hi); (try clear ho0); (try clear ho1); obtain ⟨Ao45, co45, eo45⟩ := Kd.V_slice HO345.out; subst eo45; obtain ⟨Ao46, co46, eo46⟩ := Kd.V_slice HO350.out; subst eo46) | (go_at_call 15; (with_reducible refine (wire_Sane.calls _ _ t343 t346 t347 _ _ t348 true _ ?side1 ?side2 ?side3 ?side4 A15.out).mono ?_); (case side1 => exact (Kd.V_reads' (vv HO345)).2.2); (case side2 => exact (Kd.V_reads' HO345.out).2.1); (case side3 => exact (Kd.V_reads' (vv HO350)).2.2); (case side4 => exact (Kd.V_reads' HO350.out).2.1); rintro e w47 ⟨rfl, hb⟩; replace HO345 := vB HO345 hb; replace HO350 := vB HO350 hb; replace BK340 := kB BK340 hb; replace HB := hB HB hb; (try clear hb); (try clear hb2); (try clear hk); (try clear hi)))
        go_meet
        case rel => exact ⟨_, (decide (a3 > 4096)), (by first | rfl | (simp; done) | (simp [*]; done)), H', ⟨by first | omega | exact Nat.le_refl _⟩, ⟨kk BK340⟩, ⟨bb HB⟩⟩
    ·
     replace c16 := Bool.eq_false_iff.mpr c16
     subst c16
     rw [if_neg nf] at H
     have H' := Aside0.mk H
     clear H
     obtain ⟨hcz48_0, hcz48_1, hcz48_2, hcz48_3, hfz48_0, hfz48_1, hfz48_2, hfz48_3⟩ := bc4 BK340
     go_wp2_with (first | ((with_reducible refine gate_callee (f := 14) rfl ?_); refine gL (some 25) rfl rfl Try.func14 (by kernel_rfl) rfl #[.agg #[.slice A0_0 l0_0.length c0_0, .bool a0_1, .int .i64 a0_2, .slice A0_3 l0_3.length c0_3]] rfl ?_; (with_reducible refine (pentroughref19_Few.calls _ _ l0_0 a0_1 a0_2 _ _ l0_3 true _ ?side1 ?side2 ?side3 ?side4 A9.out).mono ?_); (case side1 => exact Kd.C_below HR0_0.out (bb HB)); (case side2 => exact HC0_0.out); (case side3 => exact Kd.C_below HR0_3.out (bb HB)); (case side4 => exact HC0_3.out); rintro e w49 ⟨rfl, hb⟩; refine ⟨_, rfl, ?_⟩; replace BK340 := kB BK340 hb; replace HB := hB HB hb; (try clear hb); (try clear hb2); (try clear hk); (try clear hi); obtain ⟨hcz50_0, hcz50_1, hcz50_2, hcz50_3, hfz50_0, hfz50_1, hfz50_2, hfz50_3⟩ := bc4 BK340) | (go_at_call 16; (with_reducible refine (pentroughlaw19_ours.calls (fun k_ => k_ < w.heap.size) _ _ l0_0 a0_1 a0_2 (fun k_ => k_ < w.heap.size) _ _ l0_3 t343 t346 t347 t348 _ ?side1 ?side2 A14.out).mono ?_); (case side1 => exact Kd.V_mk HC0_0.out (Kd.F_below (Kd.C_F (Kd.heap_int .u8) HR0_0.out) (bb HB))); (case side2 => exact Kd.V_mk HC0_3.out (Kd.F_below (Kd.C_F (Kd.heap_int .u8) HR0_3.out) (bb HB))); rintro e w51 ⟨v344, v349, rfl, ho0, ho1, hb⟩; have HO345 := Aside0.mk (Kd.V_lower (Kd.V_mono (ok' := fun k_ => k_ ≠ gb340) ho0 (fun k_ hk_ => oe hk_ (gw GW340) (gw GW340) (Kd.freshB (kk BK340) k_))) (below_size (bb HB))); have HO350 := Aside0.mk (Kd.V_lower (Kd.V_mono (ok' := fun k_ => k_ ≠ gb340) ho1 (fun k_ hk_ => oe hk_ (gw GW340) (gw GW340) (Kd.freshB (kk BK340) k_))) (below_size (bb HB))); replace BK340 := kB BK340 hb; replace HB := hB HB hb; (try clear hb); (try clear hb2); (try clear hk); (try clear hi); (try clear ho0); (try clear ho1); obtain ⟨Ao52, co52, eo52⟩ := Kd.V_slice HO345.out; subst eo52; obtain ⟨Ao53, co53, eo53⟩ := Kd.V_slice HO350.out; subst eo53) | (go_at_call 15; (with_reducible refine (wire_Sane.calls _ _ t343 t346 t347 _ _ t348 false _ ?side1 ?side2 ?side3 ?side4 A15.out).mono ?_); (case side1 => exact (Kd.V_reads' (vv HO345)).2.2); (case side2 => exact (Kd.V_reads' HO345.out).2.1); (case side3 => exact (Kd.V_reads' (vv HO350)).2.2); (case side4 => exact (Kd.V_reads' HO350.out).2.1); rintro e w54 ⟨rfl, hb⟩; replace HO345 := vB HO345 hb; replace HO350 := vB HO350 hb; replace BK340 := kB BK340 hb; replace HB := hB HB hb; (try clear hb); (try clear hb2); (try clear hk); (try clear hi)))
     go_meet
     case rel => exact ⟨_, (true), (by first | rfl | (simp; done) | (simp [*]; done)), H', ⟨by first | omega | exact Nat.le_refl _⟩, ⟨kk BK340⟩, ⟨bb HB⟩⟩
  ·
   replace c10 := Bool.eq_false_iff.mpr c10
   subst c10
   rw [if_neg nf] at H
   have H' := Aside0.mk H
   clear H
   obtain ⟨hcz55_0, hcz55_1, hcz55_2, hcz55_3, hfz55_0, hfz55_1, hfz55_2, hfz55_3⟩ := bc4 BK340
   go_wp2_with (first | ((with_reducible refine gate_callee (f := 14) rfl ?_); refine gL (some 25) rfl rfl Try.func14 (by kernel_rfl) rfl #[.agg #[.slice A0_0 l0_0.length c0_0, .bool a0_1, .int .i64 a0_2, .slice A0_3 l0_3.length c0_3]] rfl ?_; (with_reducible refine (pentroughref19_Few.calls _ _ l0_0 a0_1 a0_2 _ _ l0_3 false _ ?side1 ?side2 ?side3 ?side4 A9.out).mono ?_); (case side1 => exact Kd.C_below HR0_0.out (bb HB)); (case side2 => exact HC0_0.out); (case side3 => exact Kd.C_below HR0_3.out (bb HB)); (case side4 => exact HC0_3.out); rintro e w56 ⟨rfl, hb⟩; refine ⟨_, rfl, ?_⟩; replace BK340 := kB BK340 hb; replace HB := hB HB hb; (try clear hb); (try clear hb2); (try clear hk); (try clear hi)))
   go_meet
   case rel => exact ⟨_, (true), (by first | rfl | (simp; done) | (simp [*]; done)), H', ⟨by first | omega | exact Nat.le_refl _⟩, ⟨kk BK340⟩, ⟨bb HB⟩⟩
 case rest =>
  clear HC6
  try clear c1
  try clear c2
  try clear p2
  try clear c3
  try clear c5
  try clear c9
  try clear c10
  try clear c11
  try clear c11b0
  try clear c11b1
  try clear c14
  try clear c16
  try clear c17
  try clear c17b0
  try clear c25
  try clear c25b0
  try clear c33
  try clear c33b0
  try clear hcz12_0
  try clear hcz12_1
  try clear hcz12_2
  try clear hcz12_3
  try clear hcz18_0
  try clear hcz18_1
  try clear hcz18_2
  try clear hcz18_3
  try clear hcz20_0
  try clear hcz20_1
  try clear hcz20_2
  try clear hcz20_3
  try clear hcz26_0
  try clear hcz26_1
  try clear hcz26_2
  try clear hcz26_3
  try clear hcz28_0
  try clear hcz28_1
  try clear hcz28_2
  try clear hcz28_3
  try clear hcz34_0
  try clear hcz34_1
  try clear hcz34_2
  try clear hcz34_3
  try clear hcz36_0
  try clear hcz36_1
  try clear hcz36_2
  try clear hcz36_3
  try clear hcz41_0
  try clear hcz41_1
  try clear hcz41_2
  try clear hcz41_3
  try clear hcz43_0
  try clear hcz43_1
  try clear hcz43_2
  try clear hcz43_3
  try clear hcz48_0
  try clear hcz48_1
  try clear hcz48_2
  try clear hcz48_3
  try clear hcz50_0
  try clear hcz50_1
  try clear hcz50_2
  try clear hcz50_3
  try clear hcz55_0
  try clear hcz55_1
  try clear hcz55_2
  try clear hcz55_3
  try clear hfz12_0
  try clear hfz12_1
  try clear hfz12_2
  try clear hfz12_3
  try clear hfz18_0
  try clear hfz18_1
  try clear hfz18_2
  try clear hfz18_3
  try clear hfz20_0
  try clear hfz20_1
  try clear hfz20_2
  try clear hfz20_3
  try clear hfz26_0
  try clear hfz26_1
  try clear hfz26_2
  try clear hfz26_3
  try clear hfz28_0
  try clear hfz28_1
  try clear hfz28_2
  try clear hfz28_3
  try clear hfz34_0
  try clear hfz34_1
  try clear hfz34_2
  try clear hfz34_3
  try clear hfz36_0
  try clear hfz36_1
  try clear hfz36_2
  try clear hfz36_3
  try clear hfz41_0
  try clear hfz41_1
  try clear hfz41_2
  try clear hfz41_3
  try clear hfz43_0
  try clear hfz43_1
  try clear hfz43_2
  try clear hfz43_3
  try clear hfz48_0
  try clear hfz48_1
  try clear hfz48_2
  try clear hfz48_3
  try clear hfz50_0
  try clear hfz50_1
  try clear hfz50_2
  try clear hfz50_3
  try clear hfz55_0
  try clear hfz55_1
  try clear hfz55_2
  try clear hfz55_3
  obtain ⟨kq, x53_5, rfl, HA, HJ5, BK340, HB⟩ := hcut
  cases kq with
  | zero => exact absurd HA.out (by simp [pentroughlaw19_WireParts.j0])
  | succ kj5 =>
   have H := HA.out
   clear HA
   simp only [pentroughlaw19_WireParts.j0] at H
   by_cases c57 : x53_5 = true
   ·
    subst c57
    rw [if_pos rfl] at H
    obtain rfl := Option.some.inj H
    go_wp2
    go_ret
    exact ⟨by first | rfl | (simp [errW_none, errW_some] <;> rfl) | (simp [*, errW_none, errW_some] <;> rfl), by repeat (first | (with_reducible first | exact HB.out | apply below_alloc | apply pw_below_drewN | apply below_drew1 | refine below_set ?_ GE340.out) | exact HB.out)⟩
   ·
    replace c57 := Bool.eq_false_iff.mpr c57
    subst c57
    rw [if_neg nf] at H
    obtain ⟨⟨t352, t355, t356, t357⟩, A58, H⟩ := ob H
    dsimp only at H
    obtain ⟨⟨t360, t363, t364, t365, t368⟩, A59, H⟩ := ob H
    dsimp only at H
    obtain ⟨⟨t372, t375, t376, t377, t380⟩, A60, H⟩ := ob H
    dsimp only at H
    obtain ⟨⟨t384, t387, t388, t389⟩, A61, H⟩ := ob H
    dsimp only at H
    obtain ⟨⟨t392, t395, t396, t397, t400⟩, A62, H⟩ := ob H
    dsimp only at H
    have HC63 := Aside0.mk H
    clear H
    obtain ⟨hcz64_0, hcz64_1, hcz64_2, hcz64_3, hfz64_0, hfz64_1, hfz64_2, hfz64_3⟩ := bc4 BK340
    go_upto_region 7 with (first | ((with_reducible refine gate_callee (f := 16) rfl ?_); refine gL (some 57) rfl rfl Try.func16 (by kernel_rfl) rfl #[.agg #[.slice A0_0 l0_0.length c0_0, .bool a0_1, .int .i64 a0_2, .slice A0_3 l0_3.length c0_3]] rfl ?_; (with_reducible refine (pentroughlaw19_ours.calls (fun k_ => k_ < w.heap.size) _ _ l0_0 a0_1 a0_2 (fun k_ => k_ < w.heap.size) _ _ l0_3 t352 t355 t356 t357 _ ?side1 ?side2 A58.out).mono ?_); (case side1 => exact Kd.V_mk HC0_0.out (Kd.F_below (Kd.C_F (Kd.heap_int .u8) HR0_0.out) (bb HB))); (case side2 => exact Kd.V_mk HC0_3.out (Kd.F_below (Kd.C_F (Kd.heap_int .u8) HR0_3.out) (bb HB))); rintro e w65 ⟨v353, v358, rfl, ho0, ho1, hb⟩; refine ⟨_, rfl, ?_⟩; have HO354 := Aside0.mk (Kd.V_lower (Kd.V_mono (ok' := fun k_ => k_ ≠ gb340) ho0 (fun k_ hk_ => oe hk_ (gw GW340) (gw GW340) (Kd.freshB (kk BK340) k_))) (below_size (bb HB))); have HO359 := Aside0.mk (Kd.V_lower (Kd.V_mono (ok' := fun k_ => k_ ≠ gb340) ho1 (fun k_ hk_ => oe hk_ (gw GW340) (gw GW340) (Kd.freshB (kk BK340) k_))) (below_size (bb HB))); replace BK340 := kB BK340 hb; replace HB := hB HB hb; (try clear hb); (try clear hb2); (try clear hk); (try clear hi); (try clear ho0); (try clear ho1); obtain ⟨Ao66, co66, eo66⟩ := Kd.V_slice HO354.out; subst eo66; obtain ⟨Ao67, co67, eo67⟩ := Kd.V_slice HO359.out; subst eo67) | ((with_reducible refine gate_callee (f := 17) rfl ?_); refine gL (some 59) rfl rfl Try.func17 (by kernel_rfl) rfl #[.agg #[.slice Ao66 t352.length co66, .bool t355, .int .i64 t356, .slice Ao67 t357.length co67], .int .i64 a2] rfl ?_; (with_reducible refine (wire_Read.calls (fun k_ => k_ ≠ gb340) _ _ t352 t355 t356 (fun k_ => k_ ≠ gb340) _ _ t357 a2 t360 t363 t364 t365 t368 _ ?side1 ?side2 A59.out).mono ?_); (case side1 => exact HO354.out); (case side2 => exact HO359.out); rintro e w68 ⟨v361, v366, v369, rfl, ho0, ho1, ho2, hb⟩; refine ⟨_, rfl, ?_⟩; replace HO354 := vB HO354 hb; replace HO359 := vB HO359 hb; have HO362 := Aside0.mk (Kd.V_lower (Kd.V_mono (ok' := fun k_ => k_ ≠ gb340) ho0 (fun k_ hk_ => oe hk_ (fun h => h) (fun h => h) (Kd.freshB (kk BK340) k_))) (below_size (bb HB))); have HO367 := Aside0.mk (Kd.V_lower (Kd.V_mono (ok' := fun k_ => k_ ≠ gb340) ho1 (fun k_ hk_ => oe hk_ (fun h => h) (fun h => h) (Kd.freshB (kk BK340) k_))) (below_size (bb HB))); have HO370 := Aside0.mk (Kd.V_lower (Kd.V_mono (ok' := fun k_ => k_ ≠ gb340) ho2 (fun k_ hk_ => oe hk_ (fun h => h) (fun h => h) (Kd.freshB (kk BK340) k_))) (below_size (bb HB))); replace BK340 := kB BK340 hb; replace HB := hB HB hb; (try clear hb); (try clear hb2); (try clear hk); (try clear hi); (try clear ho0); (try clear ho1); (try clear ho2)) | ((with_reducible refine gate_dst (N := 10) rfl ?_); (try (refine gate_guard (by rfl) ?_; dsimp only)); refine box_event ?hg (N := 10) ?hd (cs := #[.slice none 0 0, .bool false, .int .i64 0, .slice none 0 0]) (t := 27) ?hr ?_; (case hd => rfl); (case hg => rfl); (case hr => first | (go_simp; done) | (go_simp; rfl)); intro gb371 hg w69 hbox hb; replace HO354 := vE HO354 hg hb; replace HO359 := vE HO359 hg hb; replace HO362 := vE HO362 hg hb; replace HO367 := vE HO367 hg hb; replace HO370 := vE HO370 hg hb; have BK371 := Aside0.mk hbox; have GW371 := gE HB hg; have GE371 := gE HB hg; replace HB := hB HB hb; have NB340_371 := nL BK340 hg; have NB371_340 := nG BK340 hg; replace BK340 := kB BK340 hb; clear hb hbox hg; obtain ⟨Ao70, co70, eo70⟩ := Kd.V_slice HO362.out; subst eo70; have hnb71 := NB371_340.out; have hnc71 := NB340_371.out; obtain ⟨hcz72_0, hcz72_1, hcz72_2, hcz72_3, hfz72_0, hfz72_1, hfz72_2, hfz72_3⟩ := bc4 BK371; obtain ⟨Ao73, co73, eo73⟩ := Kd.V_slice HO367.out; subst eo73) | ((with_reducible refine gate_store (t := 27) (p := 10) rfl ?_); refine store_event (t := 27) (p := 10) (v := ?vo_w74) (w1 := ((((w69.setCell ⟨gb371, 0, none⟩ (.slice Ao70 t360.length co70)).setCell ⟨gb371, 1, none⟩ (.bool t363)).setCell ⟨gb371, 2, none⟩ (.int .i64 t364)).setCell ⟨gb371, 3, none⟩ (.slice Ao73 t365.length co73))) ?hg ?ho ?hn ?hr ?_; (case ho => rfl); (case hg => rfl); (case hn => rfl); (case hr => first | (go_simp; done) | (go_simp; rfl)); intro w74 hw; replace HO354 := vS (fun k_ => k_ ≠ gb340 ∧ k_ ≠ gb371) HO354 hw; replace HO359 := vS (fun k_ => k_ ≠ gb340 ∧ k_ ≠ gb371) HO359 hw; replace HO362 := vS (fun k_ => k_ ≠ gb340 ∧ k_ ≠ gb371) HO362 hw; replace HO367 := vS (fun k_ => k_ ≠ gb340 ∧ k_ ≠ gb371) HO367 hw; replace HO370 := vS (fun k_ => k_ ≠ gb340 ∧ k_ ≠ gb371) HO370 hw; replace BK340 := kS BK340 hw; replace BK371 := kP4 BK371 hw; replace HB : Aside0 (Below w.heap.size w w74) := ⟨(by rw [hw]; exact (bb HB))⟩; clear hw; obtain ⟨hcz75_0, hcz75_1, hcz75_2, hcz75_3, hfz75_0, hfz75_1, hfz75_2, hfz75_3⟩ := bc4 BK371) | ((with_reducible refine gate_callee (f := 17) rfl ?_); refine gL (some 65) rfl rfl Try.func17 (by kernel_rfl) rfl #[.agg #[.slice Ao70 t360.length co70, .bool t363, .int .i64 t364, .slice Ao73 t365.length co73], .int .i64 a3] rfl ?_; (with_reducible refine (wire_Read.calls (fun k_ => (k_ ≠ gb340 ∧ k_ ≠ gb371)) _ _ t360 t363 t364 (fun k_ => (k_ ≠ gb340 ∧ k_ ≠ gb371)) _ _ t365 a3 t372 t375 t376 t377 t380 _ ?side1 ?side2 A60.out).mono ?_); (case side1 => exact HO362.out); (case side2 => exact HO367.out); rintro e w76 ⟨v373, v378, v381, rfl, ho0, ho1, ho2, hb⟩; refine ⟨_, rfl, ?_⟩; replace HO354 := vB HO354 hb; replace HO359 := vB HO359 hb; replace HO362 := vB HO362 hb; replace HO367 := vB HO367 hb; replace HO370 := vB HO370 hb; have HO374 := Aside0.mk (Kd.V_lower (Kd.V_mono (ok' := fun k_ => k_ ≠ gb340 ∧ k_ ≠ gb371) ho0 (fun k_ hk_ => ⟨oe hk_ (fun h => h.1) (fun h => h.1) (Kd.freshB (kk BK340) k_), oe hk_ (fun h => h.2) (fun h => h.2) (Kd.freshB (kk BK371) k_)⟩)) (below_size (bb HB))); have HO379 := Aside0.mk (Kd.V_lower (Kd.V_mono (ok' := fun k_ => k_ ≠ gb340 ∧ k_ ≠ gb371) ho1 (fun k_ hk_ => ⟨oe hk_ (fun h => h.1) (fun h => h.1) (Kd.freshB (kk BK340) k_), oe hk_ (fun h => h.2) (fun h => h.2) (Kd.freshB (kk BK371) k_)⟩)) (below_size (bb HB))); have HO382 := Aside0.mk (Kd.V_lower (Kd.V_mono (ok' := fun k_ => k_ ≠ gb340 ∧ k_ ≠ gb371) ho2 (fun k_ hk_ => ⟨oe hk_ (fun h => h.1) (fun h => h.1) (Kd.freshB (kk BK340) k_), oe hk_ (fun h => h.2) (fun h => h.2) (Kd.freshB (kk BK371) k_)⟩)) (below_size (bb HB))); replace BK340 := kB BK340 hb; replace BK371 := kB BK371 hb; replace HB := hB HB hb; (try clear hb); (try clear hb2); (try clear hk); (try clear hi); (try clear ho0); (try clear ho1); (try clear ho2)) | ((with_reducible refine gate_dst (N := 12) rfl ?_); (try (refine gate_guard (by rfl) ?_; dsimp only)); refine box_event ?hg (N := 12) ?hd (cs := #[.slice none 0 0, .bool false, .int .i64 0, .slice none 0 0]) (t := 27) ?hr ?_; (case hd => rfl); (case hg => rfl); (case hr => first | (go_simp; done) | (go_simp; rfl)); intro gb383 hg w77 hbox hb; replace HO354 := vE HO354 hg hb; replace HO359 := vE HO359 hg hb; replace HO362 := vE HO362 hg hb; replace HO367 := vE HO367 hg hb; replace HO370 := vE HO370 hg hb; replace HO374 := vE HO374 hg hb; replace HO379 := vE HO379 hg hb; replace HO382 := vE HO382 hg hb; have BK383 := Aside0.mk hbox; have GW383 := gE HB hg; have GE383 := gE HB hg; replace HB := hB HB hb; have NB340_383 := nL BK340 hg; have NB383_340 := nG BK340 hg; replace BK340 := kB BK340 hb; have NB371_383 := nL BK371 hg; have NB383_371 := nG BK371 hg; replace BK371 := kB BK371 hb; clear hb hbox hg; obtain ⟨Ao78, co78, eo78⟩ := Kd.V_slice HO374.out; subst eo78; have hnb79 := NB383_340.out; have hnc79 := NB340_383.out; have hnb80 := NB383_371.out; have hnc80 := NB371_383.out; obtain ⟨hcz81_0, hcz81_1, hcz81_2, hcz81_3, hfz81_0, hfz81_1, hfz81_2, hfz81_3⟩ := bc4 BK383; obtain ⟨Ao82, co82, eo82⟩ := Kd.V_slice HO379.out; subst eo82) | ((with_reducible refine gate_store (t := 27) (p := 12) rfl ?_); refine store_event (t := 27) (p := 12) (v := ?vo_w83) (w1 := ((((w77.setCell ⟨gb383, 0, none⟩ (.slice Ao78 t372.length co78)).setCell ⟨gb383, 1, none⟩ (.bool t375)).setCell ⟨gb383, 2, none⟩ (.int .i64 t376)).setCell ⟨gb383, 3, none⟩ (.slice Ao82 t377.length co82))) ?hg ?ho ?hn ?hr ?_; (case ho => rfl); (case hg => rfl); (case hn => rfl); (case hr => first | (go_simp; done) | (go_simp; rfl)); intro w83 hw; replace HO354 := vS (fun k_ => k_ ≠ gb340 ∧ k_ ≠ gb371 ∧ k_ ≠ gb383) HO354 hw; replace HO359 := vS (fun k_ => k_ ≠ gb340 ∧ k_ ≠ gb371 ∧ k_ ≠ gb383) HO359 hw; replace HO362 := vS (fun k_ => k_ ≠ gb340 ∧ k_ ≠ gb371 ∧ k_ ≠ gb383) HO362 hw; replace HO367 := vS (fun k_ => k_ ≠ gb340 ∧ k_ ≠ gb371 ∧ k_ ≠ gb383) HO367 hw; replace HO370 := vS (fun k_ => k_ ≠ gb340 ∧ k_ ≠ gb371 ∧ k_ ≠ gb383) HO370 hw; replace HO374 := vS (fun k_ => k_ ≠ gb340 ∧ k_ ≠ gb371 ∧ k_ ≠ gb383) HO374 hw; replace HO379 := vS (fun k_ => k_ ≠ gb340 ∧ k_ ≠ gb371 ∧ k_ ≠ gb383) HO379 hw; replace HO382 := vS (fun k_ => k_ ≠ gb340 ∧ k_ ≠ gb371 ∧ k_ ≠ gb383) HO382 hw; replace BK340 := kS BK340 hw; replace BK371 := kS BK371 hw; replace BK383 := kP4 BK383 hw; replace HB : Aside0 (Below w.heap.size w w83) := ⟨(by rw [hw]; exact (bb HB))⟩; clear hw; obtain ⟨hcz84_0, hcz84_1, hcz84_2, hcz84_3, hfz84_0, hfz84_1, hfz84_2, hfz84_3⟩ := bc4 BK340) | ((with_reducible refine gate_callee (f := 16) rfl ?_); refine gL (some 70) rfl rfl Try.func16 (by kernel_rfl) rfl #[.agg #[.slice A0_0 l0_0.length c0_0, .bool a0_1, .int .i64 a0_2, .slice A0_3 l0_3.length c0_3]] rfl ?_; (with_reducible refine (pentroughlaw19_ours.calls (fun k_ => k_ < w.heap.size) _ _ l0_0 a0_1 a0_2 (fun k_ => k_ < w.heap.size) _ _ l0_3 t384 t387 t388 t389 _ ?side1 ?side2 A61.out).mono ?_); (case side1 => exact Kd.V_mk HC0_0.out (Kd.F_below (Kd.C_F (Kd.heap_int .u8) HR0_0.out) (bb HB))); (case side2 => exact Kd.V_mk HC0_3.out (Kd.F_below (Kd.C_F (Kd.heap_int .u8) HR0_3.out) (bb HB))); rintro e w85 ⟨v385, v390, rfl, ho0, ho1, hb⟩; refine ⟨_, rfl, ?_⟩; replace HO354 := vB HO354 hb; replace HO359 := vB HO359 hb; replace HO362 := vB HO362 hb; replace HO367 := vB HO367 hb; replace HO370 := vB HO370 hb; replace HO374 := vB HO374 hb; replace HO379 := vB HO379 hb; replace HO382 := vB HO382 hb; have HO386 := Aside0.mk (Kd.V_lower (Kd.V_mono (ok' := fun k_ => k_ ≠ gb340 ∧ k_ ≠ gb371 ∧ k_ ≠ gb383) ho0 (fun k_ hk_ => ⟨oe hk_ (gw GW340) (gw GW340) (Kd.freshB (kk BK340) k_), oe hk_ (gw GW371) (gw GW371) (Kd.freshB (kk BK371) k_), oe hk_ (gw GW383) (gw GW383) (Kd.freshB (kk BK383) k_)⟩)) (below_size (bb HB))); have HO391 := Aside0.mk (Kd.V_lower (Kd.V_mono (ok' := fun k_ => k_ ≠ gb340 ∧ k_ ≠ gb371 ∧ k_ ≠ gb383) ho1 (fun k_ hk_ => ⟨oe hk_ (gw GW340) (gw GW340) (Kd.freshB (kk BK340) k_), oe hk_ (gw GW371) (gw GW371) (Kd.freshB (kk BK371) k_), oe hk_ (gw GW383) (gw GW383) (Kd.freshB (kk BK383) k_)⟩)) (below_size (bb HB))); replace BK340 := kB BK340 hb; replace BK371 := kB BK371 hb; replace BK383 := kB BK383 hb; replace HB := hB HB hb; (try clear hb); (try clear hb2); (try clear hk); (try clear hi); (try clear ho0); (try clear ho1); obtain ⟨Ao86, co86, eo86⟩ := Kd.V_slice HO386.out; subst eo86; obtain ⟨Ao87, co87, eo87⟩ := Kd.V_slice HO391.out; subst eo87) | ((with_reducible refine gate_callee (f := 17) rfl ?_); refine gL (some 74) rfl rfl Try.func17 (by kernel_rfl) rfl #[.agg #[.slice Ao86 t384.length co86, .bool t387, .int .i64 t388, .slice Ao87 t389.length co87], .int .i64 (wrap64 (a2 + a3))] rfl ?_; (with_reducible refine (wire_Read.calls (fun k_ => (k_ ≠ gb340 ∧ (k_ ≠ gb371 ∧ k_ ≠ gb383))) _ _ t384 t387 t388 (fun k_ => (k_ ≠ gb340 ∧ (k_ ≠ gb371 ∧ k_ ≠ gb383))) _ _ t389 (wrap64 (a2 + a3)) t392 t395 t396 t397 t400 _ ?side1 ?side2 A62.out).mono ?_); (case side1 => exact HO386.out); (case side2 => exact HO391.out); rintro e w88 ⟨v393, v398, v401, rfl, ho0, ho1, ho2, hb⟩; refine ⟨_, rfl, ?_⟩; replace HO354 := vB HO354 hb; replace HO359 := vB HO359 hb; replace HO362 := vB HO362 hb; replace HO367 := vB HO367 hb; replace HO370 := vB HO370 hb; replace HO374 := vB HO374 hb; replace HO379 := vB HO379 hb; replace HO382 := vB HO382 hb; replace HO386 := vB HO386 hb; replace HO391 := vB HO391 hb; have HO394 := Aside0.mk (Kd.V_lower (Kd.V_mono (ok' := fun k_ => k_ ≠ gb340 ∧ k_ ≠ gb371 ∧ k_ ≠ gb383) ho0 (fun k_ hk_ => ⟨oe hk_ (fun h => h.1) (fun h => h.1) (Kd.freshB (kk BK340) k_), oe hk_ (fun h => h.2.1) (fun h => h.2.1) (Kd.freshB (kk BK371) k_), oe hk_ (fun h => h.2.2) (fun h => h.2.2) (Kd.freshB (kk BK383) k_)⟩)) (below_size (bb HB))); have HO399 := Aside0.mk (Kd.V_lower (Kd.V_mono (ok' := fun k_ => k_ ≠ gb340 ∧ k_ ≠ gb371 ∧ k_ ≠ gb383) ho1 (fun k_ hk_ => ⟨oe hk_ (fun h => h.1) (fun h => h.1) (Kd.freshB (kk BK340) k_), oe hk_ (fun h => h.2.1) (fun h => h.2.1) (Kd.freshB (kk BK371) k_), oe hk_ (fun h => h.2.2) (fun h => h.2.2) (Kd.freshB (kk BK383) k_)⟩)) (below_size (bb HB))); have HO402 := Aside0.mk (Kd.V_lower (Kd.V_mono (ok' := fun k_ => k_ ≠ gb340 ∧ k_ ≠ gb371 ∧ k_ ≠ gb383) ho2 (fun k_ hk_ => ⟨oe hk_ (fun h => h.1) (fun h => h.1) (Kd.freshB (kk BK340) k_), oe hk_ (fun h => h.2.1) (fun h => h.2.1) (Kd.freshB (kk BK371) k_), oe hk_ (fun h => h.2.2) (fun h => h.2.2) (Kd.freshB (kk BK383) k_)⟩)) (below_size (bb HB))); replace BK340 := kB BK340 hb; replace BK371 := kB BK371 hb; replace BK383 := kB BK383 hb; replace HB := hB HB hb; (try clear hb); (try clear hb2); (try clear hk); (try clear hi); (try clear ho0); (try clear ho1); (try clear ho2)) | ((with_reducible refine gate_dst (N := 14) rfl ?_); (try (refine gate_guard (by rfl) ?_; dsimp only)); refine box_event ?hg (N := 14) ?hd (cs := #[.slice none 0 0, .bool false, .int .i64 0, .slice none 0 0]) (t := 27) ?hr ?_; (case hd => rfl); (case hg => rfl); (case hr => first | (go_simp; done) | (go_simp; rfl)); intro gb403 hg w89 hbox hb; replace HO354 := vE HO354 hg hb; replace HO359 := vE HO359 hg hb; replace HO362 := vE HO362 hg hb; replace HO367 := vE HO367 hg hb; replace HO370 := vE HO370 hg hb; replace HO374 := vE HO374 hg hb; replace HO379 := vE HO379 hg hb; replace HO382 := vE HO382 hg hb; replace HO386 := vE HO386 hg hb; replace HO391 := vE HO391 hg hb; replace HO394 := vE HO394 hg hb; replace HO399 := vE HO399 hg hb; replace HO402 := vE HO402 hg hb; have BK403 := Aside0.mk hbox; have GW403 := gE HB hg; have GE403 := gE HB hg; replace HB := hB HB hb; have NB340_403 := nL BK340 hg; have NB403_340 := nG BK340 hg; replace BK340 := kB BK340 hb; have NB371_403 := nL BK371 hg; have NB403_371 := nG BK371 hg; replace BK371 := kB BK371 hb; have NB383_403 := nL BK383 hg; have NB403_383 := nG BK383 hg; replace BK383 := kB BK383 hb; clear hb hbox hg; obtain ⟨Ao90, co90, eo90⟩ := Kd.V_slice HO394.out; subst eo90; have hnb91 := NB403_340.out; have hnc91 := NB340_403.out; have hnb92 := NB403_371.out; have hnc92 := NB371_403.out; have hnb93 := NB403_383.out; have hnc93 := NB383_403.out; obtain ⟨hcz94_0, hcz94_1, hcz94_2, hcz94_3, hfz94_0, hfz94_1, hfz94_2, hfz94_3⟩ := bc4 BK403; obtain ⟨Ao95, co95, eo95⟩ := Kd.V_slice HO399.out; subst eo95) | ((with_reducible refine gate_store (t := 27) (p := 14) rfl ?_); refine store_event (t := 27) (p := 14) (v := ?vo_w96) (w1 := ((((w89.setCell ⟨gb403, 0, none⟩ (.slice Ao90 t392.length co90)).setCell ⟨gb403, 1, none⟩ (.bool t395)).setCell ⟨gb403, 2, none⟩ (.int .i64 t396)).setCell ⟨gb403, 3, none⟩ (.slice Ao95 t397.length co95))) ?hg ?ho ?hn ?hr ?_; (case ho => rfl); (case hg => rfl); (case hn => rfl); (case hr => first | (go_simp; done) | (go_simp; rfl)); intro w96 hw; replace HO354 := vS (fun k_ => k_ ≠ gb340 ∧ k_ ≠ gb371 ∧ k_ ≠ gb383 ∧ k_ ≠ gb403) HO354 hw; replace HO359 := vS (fun k_ => k_ ≠ gb340 ∧ k_ ≠ gb371 ∧ k_ ≠ gb383 ∧ k_ ≠ gb403) HO359 hw; replace HO362 := vS (fun k_ => k_ ≠ gb340 ∧ k_ ≠ gb371 ∧ k_ ≠ gb383 ∧ k_ ≠ gb403) HO362 hw; replace HO367 := vS (fun k_ => k_ ≠ gb340 ∧ k_ ≠ gb371 ∧ k_ ≠ gb383 ∧ k_ ≠ gb403) HO367 hw; replace HO370 := vS (fun k_ => k_ ≠ gb340 ∧ k_ ≠ gb371 ∧ k_ ≠ gb383 ∧ k_ ≠ gb403) HO370 hw; replace HO374 := vS (fun k_ => k_ ≠ gb340 ∧ k_ ≠ gb371 ∧ k_ ≠ gb383 ∧ k_ ≠ gb403) HO374 hw; replace HO379 := vS (fun k_ => k_ ≠ gb340 ∧ k_ ≠ gb371 ∧ k_ ≠ gb383 ∧ k_ ≠ gb403) HO379 hw; replace HO382 := vS (fun k_ => k_ ≠ gb340 ∧ k_ ≠ gb371 ∧ k_ ≠ gb383 ∧ k_ ≠ gb403) HO382 hw; replace HO386 := vS (fun k_ => k_ ≠ gb340 ∧ k_ ≠ gb371 ∧ k_ ≠ gb383 ∧ k_ ≠ gb403) HO386 hw; replace HO391 := vS (fun k_ => k_ ≠ gb340 ∧ k_ ≠ gb371 ∧ k_ ≠ gb383 ∧ k_ ≠ gb403) HO391 hw; replace HO394 := vS (fun k_ => k_ ≠ gb340 ∧ k_ ≠ gb371 ∧ k_ ≠ gb383 ∧ k_ ≠ gb403) HO394 hw; replace HO399 := vS (fun k_ => k_ ≠ gb340 ∧ k_ ≠ gb371 ∧ k_ ≠ gb383 ∧ k_ ≠ gb403) HO399 hw; replace HO402 := vS (fun k_ => k_ ≠ gb340 ∧ k_ ≠ gb371 ∧ k_ ≠ gb383 ∧ k_ ≠ gb403) HO402 hw; replace BK340 := kS BK340 hw; replace BK371 := kS BK371 hw; replace BK383 := kS BK383 hw; replace BK403 := kP4 BK403 hw; replace HB : Aside0 (Below w.heap.size w w96) := ⟨(by rw [hw]; exact (bb HB))⟩; clear hw))
    (try simp only [Act.put, List.setIfInBounds_toArray, List.set_cons_zero, List.set_cons_succ])
    go_cut [93] (fun v93 wc => ∃ (kq : Nat) (x93_62 : Bool), v93 = .bool x93_62 ∧ Aside0 (pentroughlaw19_WireParts.j1 kq l1 a2 t341 x93_62 l0_0 a0_1 a0_2 l0_3 = some r) ∧ Aside0 (kq ≤ kj5) ∧ Aside0 (Kd.V (Kd.int .u8) 5 wc w.heap.size (fun k_ => k_ ≠ gb340 ∧ k_ ≠ gb371 ∧ k_ ≠ gb383 ∧ k_ ≠ gb403) (.slice Ao70 t360.length co70) t360) ∧ Aside0 (Kd.V (Kd.int .u8) 5 wc w.heap.size (fun k_ => k_ ≠ gb340 ∧ k_ ≠ gb371 ∧ k_ ≠ gb383 ∧ k_ ≠ gb403) (.slice Ao73 t365.length co73) t365) ∧ Aside0 (Kd.V (Kd.int .u8) 5 wc w.heap.size (fun k_ => k_ ≠ gb340 ∧ k_ ≠ gb371 ∧ k_ ≠ gb383 ∧ k_ ≠ gb403) (.slice Ao78 t372.length co78) t372) ∧ Aside0 (Kd.V (Kd.int .u8) 5 wc w.heap.size (fun k_ => k_ ≠ gb340 ∧ k_ ≠ gb371 ∧ k_ ≠ gb383 ∧ k_ ≠ gb403) (.slice Ao82 t377.length co82) t377) ∧ Aside0 (Kd.V (Kd.int .u8) 5 wc w.heap.size (fun k_ => k_ ≠ gb340 ∧ k_ ≠ gb371 ∧ k_ ≠ gb383 ∧ k_ ≠ gb403) (.slice Ao90 t392.length co90) t392) ∧ Aside0 (Kd.V (Kd.int .u8) 5 wc w.heap.size (fun k_ => k_ ≠ gb340 ∧ k_ ≠ gb371 ∧ k_ ≠ gb383 ∧ k_ ≠ gb403) (.slice Ao95 t397.length co95) t397) ∧ Aside0 (wc.heap[gb340]? = some (.cells #[(.slice A0_0 l0_0.length c0_0), .bool a0_1, .int .i64 a0_2, (.slice A0_3 l0_3.length c0_3)] 36 (0, 0))) ∧ Aside0 (wc.heap[gb371]? = some (.cells #[(.slice Ao70 t360.length co70), .bool t363, .int .i64 t364, (.slice Ao73 t365.length co73)] 27 (0, 0))) ∧ Aside0 (wc.heap[gb383]? = some (.cells #[(.slice Ao78 t372.length co78), .bool t375, .int .i64 t376, (.slice Ao82 t377.length co82)] 27 (0, 0))) ∧ Aside0 (wc.heap[gb403]? = some (.cells #[(.slice Ao90 t392.length co90), .bool t395, .int .i64 t396, (.slice Ao95 t397.length co95)] 27 (0, 0))) ∧ Aside0 (Below w.heap.size w wc))
    case first =>
     have H := HC63.out
     clear HC63
     by_cases c97 : (strOfNums t368).size + (strOfNums t380).size ≤ 9223372036854775807
     ·
      rw [if_pos c97] at H
      have c97b0 := eq_true c97
      have c97b1 : decide ((strOfNums t368).size + (strOfNums t380).size ≤ 9223372036854775807) = true := decide_eq_true c97
      try have c97b2 : (9223372036854775807 < (strOfNums t368).size + (strOfNums t380).size) = False := eq_false (Nat.not_lt.2 c97)
      by_cases c98 : ((strOfNums t368) ++ (strOfNums t380)).toList = (strOfNums t400).toList
      ·
       rw [if_pos c98] at H
       have c98b0 : (((strOfNums t368) ++ (strOfNums t380)).toList == (strOfNums t400).toList) = true := beq_iff_eq.mpr c98
       have c98b1 : (((strOfNums t368) ++ (strOfNums t380)).toList != (strOfNums t400).toList) = false := bne_eq_false_iff_eq.mpr c98
       clear c98
       (first | rw [c98b0] | (simp only [i64_w, i32_w]; rw [c98b0]) | skip)
       have H' := Aside0.mk H
       clear H
       have hcv99 := v_string (P := Try.prog) Try.underlying25 Try.underlying5 Try.underlying9 HO370.out
       have hcv100 := v_string (P := Try.prog) Try.underlying25 Try.underlying5 Try.underlying9 HO382.out
       have hcv101 := v_string (P := Try.prog) Try.underlying25 Try.underlying5 Try.underlying9 HO402.out
       have hnb102 := NB383_340.out
       have hnc102 := NB340_383.out
       have hnb103 := NB383_371.out
       have hnc103 := NB371_383.out
       have hnb104 := NB383_403.out
       have hnc104 := NB403_383.out
       obtain ⟨hcz105_0, hcz105_1, hcz105_2, hcz105_3, hfz105_0, hfz105_1, hfz105_2, hfz105_3⟩ := bc4 BK383
       have hcv106 := v_string (P := Try.prog) Try.underlying25 Try.underlying5 Try.underlying9 HO374.out
       have hnb107 := NB403_340.out
       have hnc107 := NB340_403.out
       have hnb108 := NB403_371.out
       have hnc108 := NB371_403.out
       obtain ⟨hcz109_0, hcz109_1, hcz109_2, hcz109_3, hfz109_0, hfz109_1, hfz109_2, hfz109_3⟩ := bc4 BK403
       have hcv110 := v_string (P := Try.prog) Try.underlying25 Try.underlying5 Try.underlying9 HO394.out
       go_wp2
       go_meet
       case rel => exact ⟨_, (((strOfNums t372).toList != (strOfNums t392).toList)), (by first | rfl | (simp; done) | (simp [*]; done)), H', ⟨by have := HJ5.out; first | omega | exact Nat.le_refl _⟩, ⟨vM HO362⟩, ⟨vM HO367⟩, ⟨vM HO374⟩, ⟨vM HO379⟩, ⟨vM HO394⟩, ⟨vM HO399⟩, ⟨kk BK340⟩, ⟨kk BK371⟩, ⟨kk BK383⟩, ⟨kk BK403⟩, ⟨bb HB⟩⟩
      ·
       rw [if_neg c98] at H
       have c98b0 : (((strOfNums t368) ++ (strOfNums t380)).toList == (strOfNums t400).toList) = false := beq_eq_false_iff_ne.mpr c98
       have c98b1 : (((strOfNums t368) ++ (strOfNums t380)).toList != (strOfNums t400).toList) = true := bne_iff_ne.mpr c98
       (first | rw [c98b0] | (simp only [i64_w, i32_w]; rw [c98b0]) | skip)
       have H' := Aside0.mk H
       clear H
       have hcv111 := v_string (P := Try.prog) Try.underlying25 Try.underlying5 Try.underlying9 HO370.out
       have hcv112 := v_string (P := Try.prog) Try.underlying25 Try.underlying5 Try.underlying9 HO382.out
       have hcv113 := v_string (P := Try.prog) Try.underlying25 Try.underlying5 Try.underlying9 HO402.out
       go_wp2
       go_meet
       case rel => exact ⟨_, (true), (by first | rfl | (simp; done) | (simp [*]; done)), H', ⟨by have := HJ5.out; first | omega | exact Nat.le_refl _⟩, ⟨vM HO362⟩, ⟨vM HO367⟩, ⟨vM HO374⟩, ⟨vM HO379⟩, ⟨vM HO394⟩, ⟨vM HO399⟩, ⟨kk BK340⟩, ⟨kk BK371⟩, ⟨kk BK383⟩, ⟨kk BK403⟩, ⟨bb HB⟩⟩
     ·
      rw [if_neg c97] at H
      exact absurd H (by simp)
    case rest =>
     clear HC63
     try clear c1
     try clear hcv1
     try clear c2
     try clear p2
     try clear c3
     try clear c5
     try clear p6
     try clear c7
     try clear c8
     try clear c9
     try clear hcv9
     try clear c10
     try clear hcv10
     try clear c11
     try clear c11b0
     try clear c11b1
     try clear hcv11
     try clear c14
     try clear c16
     try clear c17
     try clear c17b0
     try clear c25
     try clear c25b0
     try clear c33
     try clear c33b0
     try clear c57
     try clear p64
     try clear c71
     try clear c79
     try clear c80
     try clear c91
     try clear c92
     try clear c93
     try clear c97
     try clear c97b0
     try clear c97b1
     try clear c97b2
     try clear c98
     try clear c98b0
     try clear c98b1
     try clear hcv99
     try clear hcv100
     try clear hcv101
     try clear c102
     try clear c103
     try clear c104
     try clear hcv106
     try clear c107
     try clear c108
     try clear hcv110
     try clear hcv111
     try clear hcv112
     try clear hcv113
     try clear hcz105_0
     try clear hcz105_1
     try clear hcz105_2
     try clear hcz105_3
     try clear hcz109_0
     try clear hcz109_1
     try clear hcz109_2
     try clear hcz109_3
     try clear hcz12_0
     try clear hcz12_1
     try clear hcz12_2
     try clear hcz12_3
     try clear hcz18_0
     try clear hcz18_1
     try clear hcz18_2
     try clear hcz18_3
     try clear hcz20_0
     try clear hcz20_1
     try clear hcz20_2
     try clear hcz20_3
     try clear hcz26_0
     try clear hcz26_1
     try clear hcz26_2
     try clear hcz26_3
     try clear hcz28_0
     try clear hcz28_1
     try clear hcz28_2
     try clear hcz28_3
     try clear hcz34_0
     try clear hcz34_1
     try clear hcz34_2
     try clear hcz34_3
     try clear hcz36_0
     try clear hcz36_1
     try clear hcz36_2
     try clear hcz36_3
     try clear hcz41_0
     try clear hcz41_1
     try clear hcz41_2
     try clear hcz41_3
     try clear hcz43_0
     try clear hcz43_1
     try clear hcz43_2
     try clear hcz43_3
     try clear hcz48_0
     try clear hcz48_1
     try clear hcz48_2
     try clear hcz48_3
     try clear hcz50_0
     try clear hcz50_1
     try clear hcz50_2
     try clear hcz50_3
     try clear hcz55_0
     try clear hcz55_1
     try clear hcz55_2
     try clear hcz55_3
     try clear hcz64_0
     try clear hcz64_1
     try clear hcz64_2
     try clear hcz64_3
     try clear hcz72_0
     try clear hcz72_1
     try clear hcz72_2
     try clear hcz72_3
     try clear hcz75_0
     try clear hcz75_1
     try clear hcz75_2
     try clear hcz75_3
     try clear hcz81_0
     try clear hcz81_1
     try clear hcz81_2
     try clear hcz81_3
     try clear hcz84_0
     try clear hcz84_1
     try clear hcz84_2
     try clear hcz84_3
     try clear hcz94_0
     try clear hcz94_1
     try clear hcz94_2
     try clear hcz94_3
     try clear hfz105_0
     try clear hfz105_1
     try clear hfz105_2
     try clear hfz105_3
     try clear hfz109_0
     try clear hfz109_1
     try clear hfz109_2
     try clear hfz109_3
     try clear hfz12_0
     try clear hfz12_1
     try clear hfz12_2
     try clear hfz12_3
     try clear hfz18_0
     try clear hfz18_1
     try clear hfz18_2
     try clear hfz18_3
     try clear hfz20_0
     try clear hfz20_1
     try clear hfz20_2
     try clear hfz20_3
     try clear hfz26_0
     try clear hfz26_1
     try clear hfz26_2
     try clear hfz26_3
     try clear hfz28_0
     try clear hfz28_1
     try clear hfz28_2
     try clear hfz28_3
     try clear hfz34_0
     try clear hfz34_1
     try clear hfz34_2
     try clear hfz34_3
     try clear hfz36_0
     try clear hfz36_1
     try clear hfz36_2
     try clear hfz36_3
     try clear hfz41_0
     try clear hfz41_1
     try clear hfz41_2
     try clear hfz41_3
     try clear hfz43_0
     try clear hfz43_1
     try clear hfz43_2
     try clear hfz43_3
     try clear hfz48_0
     try clear hfz48_1
     try clear hfz48_2
     try clear hfz48_3
     try clear hfz50_0
     try clear hfz50_1
     try clear hfz50_2
     try clear hfz50_3
     try clear hfz55_0
     try clear hfz55_1
     try clear hfz55_2
     try clear hfz55_3
     try clear hfz64_0
     try clear hfz64_1
     try clear hfz64_2
     try clear hfz64_3
     try clear hfz72_0
     try clear hfz72_1
     try clear hfz72_2
     try clear hfz72_3
     try clear hfz75_0
     try clear hfz75_1
     try clear hfz75_2
     try clear hfz75_3
     try clear hfz81_0
     try clear hfz81_1
     try clear hfz81_2
     try clear hfz81_3
     try clear hfz84_0
     try clear hfz84_1
     try clear hfz84_2
     try clear hfz84_3
     try clear hfz94_0
     try clear hfz94_1
     try clear hfz94_2
     try clear hfz94_3
     try clear p2
     obtain ⟨kq, x93_62, rfl, HA, HJ62, HO_372000, HO_372003, HO_384000, HO_384003, HO_404000, HO_404003, BK340, BK371, BK383, BK403, HB⟩ := hcut
     cases kq with
     | zero => exact absurd HA.out (by simp [pentroughlaw19_WireParts.j1])
     | succ kj62 =>
      have H := HA.out
      clear HA
      simp only [pentroughlaw19_WireParts.j1] at H
      by_cases c114 : x93_62 = true
      ·
       subst c114
       rw [if_pos rfl] at H
       cases H; exact absurd HRT.out (by decide)
      ·
       replace c114 := Bool.eq_false_iff.mpr c114
       subst c114
       rw [if_neg nf] at H
       have HC115 := Aside0.mk H
       clear H
       go_upto_if 98 with (fail)
       go_cut [16] (fun v16 wc => ∃ (kq : Nat) (x16_114 : Int), v16 = .int .i64 x16_114 ∧ Aside0 (pentroughlaw19_WireParts.j2 kq l1 t341 x16_114 l0_0 a0_1 a0_2 l0_3 = some r) ∧ Aside0 (kq ≤ kj62) ∧ Aside0 (Kd.V (Kd.int .u8) 5 wc w.heap.size (fun k_ => k_ ≠ gb340 ∧ k_ ≠ gb371 ∧ k_ ≠ gb383 ∧ k_ ≠ gb403) (.slice Ao70 t360.length co70) t360) ∧ Aside0 (Kd.V (Kd.int .u8) 5 wc w.heap.size (fun k_ => k_ ≠ gb340 ∧ k_ ≠ gb371 ∧ k_ ≠ gb383 ∧ k_ ≠ gb403) (.slice Ao73 t365.length co73) t365) ∧ Aside0 (Kd.V (Kd.int .u8) 5 wc w.heap.size (fun k_ => k_ ≠ gb340 ∧ k_ ≠ gb371 ∧ k_ ≠ gb383 ∧ k_ ≠ gb403) (.slice Ao78 t372.length co78) t372) ∧ Aside0 (Kd.V (Kd.int .u8) 5 wc w.heap.size (fun k_ => k_ ≠ gb340 ∧ k_ ≠ gb371 ∧ k_ ≠ gb383 ∧ k_ ≠ gb403) (.slice Ao82 t377.length co82) t377) ∧ Aside0 (Kd.V (Kd.int .u8) 5 wc w.heap.size (fun k_ => k_ ≠ gb340 ∧ k_ ≠ gb371 ∧ k_ ≠ gb383 ∧ k_ ≠ gb403) (.slice Ao90 t392.length co90) t392) ∧ Aside0 (Kd.V (Kd.int .u8) 5 wc w.heap.size (fun k_ => k_ ≠ gb340 ∧ k_ ≠ gb371 ∧ k_ ≠ gb383 ∧ k_ ≠ gb403) (.slice Ao95 t397.length co95) t397) ∧ Aside0 (wc.heap[gb340]? = some (.cells #[(.slice A0_0 l0_0.length c0_0), .bool a0_1, .int .i64 a0_2, (.slice A0_3 l0_3.length c0_3)] 36 (0, 0))) ∧ Aside0 (wc.heap[gb371]? = some (.cells #[(.slice Ao70 t360.length co70), .bool t363, .int .i64 t364, (.slice Ao73 t365.length co73)] 27 (0, 0))) ∧ Aside0 (wc.heap[gb383]? = some (.cells #[(.slice Ao78 t372.length co78), .bool t375, .int .i64 t376, (.slice Ao82 t377.length co82)] 27 (0, 0))) ∧ Aside0 (wc.heap[gb403]? = some (.cells #[(.slice Ao90 t392.length co90), .bool t395, .int .i64 t396, (.slice Ao95 t397.length co95)] 27 (0, 0))) ∧ Aside0 (Below w.heap.size w wc))
       case first =>
        have H := HC115.out
        clear HC115
        by_cases c116 : (l1.length : Int) > a2
        ·
         rw [if_pos c116] at H
         have c116b0 : decide (a2 < (l1.length : Int)) = true := decide_eq_true c116
         clear c116
         (first | rw [c116b0] | (simp only [i64_w, i32_w]; rw [c116b0]) | skip)
         have H' := Aside0.mk H
         clear H
         go_wp2
         go_meet
         case rel => exact ⟨_, (a2), (by first | rfl | (simp; done) | (simp [*]; done)), H', ⟨by have := HJ5.out; have := HJ62.out; first | omega | exact Nat.le_refl _⟩, ⟨vM HO_372000⟩, ⟨vM HO_372003⟩, ⟨vM HO_384000⟩, ⟨vM HO_384003⟩, ⟨vM HO_404000⟩, ⟨vM HO_404003⟩, ⟨kk BK340⟩, ⟨kk BK371⟩, ⟨kk BK383⟩, ⟨kk BK403⟩, ⟨bb HB⟩⟩
        ·
         rw [if_neg c116] at H
         have c116b0 : decide (a2 < (l1.length : Int)) = false := decide_eq_false c116
         clear c116
         (first | rw [c116b0] | (simp only [i64_w, i32_w]; rw [c116b0]) | skip)
         have H' := Aside0.mk H
         clear H
         go_wp2
         go_meet
         case rel => exact ⟨_, ((l1.length : Int)), (by first | rfl | (simp; done) | (simp [*]; done)), H', ⟨by have := HJ5.out; have := HJ62.out; first | omega | exact Nat.le_refl _⟩, ⟨vM HO_372000⟩, ⟨vM HO_372003⟩, ⟨vM HO_384000⟩, ⟨vM HO_384003⟩, ⟨vM HO_404000⟩, ⟨vM HO_404003⟩, ⟨kk BK340⟩, ⟨kk BK371⟩, ⟨kk BK383⟩, ⟨kk BK403⟩, ⟨bb HB⟩⟩
       case rest =>
        clear HC115
        try clear c1
        try clear hcv1
        try clear c2
        try clear p2
        try clear c3
        try clear c5
        try clear p6
        try clear c7
        try clear c8
        try clear c9
        try clear hcv9
        try clear c10
        try clear hcv10
        try clear c11
        try clear c11b0
        try clear c11b1
        try clear hcv11
        try clear c14
        try clear c16
        try clear c17
        try clear c17b0
        try clear c25
        try clear c25b0
        try clear c33
        try clear c33b0
        try clear c57
        try clear p64
        try clear c71
        try clear c79
        try clear c80
        try clear c91
        try clear c92
        try clear c93
        try clear c97
        try clear c97b0
        try clear c97b1
        try clear c97b2
        try clear c98
        try clear c98b0
        try clear c98b1
        try clear hcv99
        try clear hcv100
        try clear hcv101
        try clear c102
        try clear c103
        try clear c104
        try clear hcv106
        try clear c107
        try clear c108
        try clear hcv110
        try clear hcv111
        try clear hcv112
        try clear hcv113
        try clear c114
        try clear c116
        try clear c116b0
        try clear hcz105_0
        try clear hcz105_1
        try clear hcz105_2
        try clear hcz105_3
        try clear hcz109_0
        try clear hcz109_1
        try clear hcz109_2
        try clear hcz109_3
        try clear hcz12_0
        try clear hcz12_1
        try clear hcz12_2
        try clear hcz12_3
        try clear hcz18_0
        try clear hcz18_1
        try clear hcz18_2
        try clear hcz18_3
        try clear hcz20_0
        try clear hcz20_1
        try clear hcz20_2
        try clear hcz20_3
        try clear hcz26_0
        try clear hcz26_1
        try clear hcz26_2
        try clear hcz26_3
        try clear hcz28_0
        try clear hcz28_1
        try clear hcz28_2
        try clear hcz28_3
        try clear hcz34_0
        try clear hcz34_1
        try clear hcz34_2
        try clear hcz34_3
        try clear hcz36_0
        try clear hcz36_1
        try clear hcz36_2
        try clear hcz36_3
        try clear hcz41_0
        try clear hcz41_1
        try clear hcz41_2
        try clear hcz41_3
        try clear hcz43_0
        try clear hcz43_1
        try clear hcz43_2
        try clear hcz43_3
        try clear hcz48_0
        try clear hcz48_1
        try clear hcz48_2
        try clear hcz48_3
        try clear hcz50_0
        try clear hcz50_1
        try clear hcz50_2
        try clear hcz50_3
        try clear hcz55_0
        try clear hcz55_1
        try clear hcz55_2
        try clear hcz55_3
        try clear hcz64_0
        try clear hcz64_1
        try clear hcz64_2
        try clear hcz64_3
        try clear hcz72_0
        try clear hcz72_1
        try clear hcz72_2
        try clear hcz72_3
        try clear hcz75_0
        try clear hcz75_1
        try clear hcz75_2
        try clear hcz75_3
        try clear hcz81_0
        try clear hcz81_1
        try clear hcz81_2
        try clear hcz81_3
        try clear hcz84_0
        try clear hcz84_1
        try clear hcz84_2
        try clear hcz84_3
        try clear hcz94_0
        try clear hcz94_1
        try clear hcz94_2
        try clear hcz94_3
        try clear hfz105_0
        try clear hfz105_1
        try clear hfz105_2
        try clear hfz105_3
        try clear hfz109_0
        try clear hfz109_1
        try clear hfz109_2
        try clear hfz109_3
        try clear hfz12_0
        try clear hfz12_1
        try clear hfz12_2
        try clear hfz12_3
        try clear hfz18_0
        try clear hfz18_1
        try clear hfz18_2
        try clear hfz18_3
        try clear hfz20_0
        try clear hfz20_1
        try clear hfz20_2
        try clear hfz20_3
        try clear hfz26_0
        try clear hfz26_1
        try clear hfz26_2
        try clear hfz26_3
        try clear hfz28_0
        try clear hfz28_1
        try clear hfz28_2
        try clear hfz28_3
        try clear hfz34_0
        try clear hfz34_1
        try clear hfz34_2
        try clear hfz34_3
        try clear hfz36_0
        try clear hfz36_1
        try clear hfz36_2
        try clear hfz36_3
        try clear hfz41_0
        try clear hfz41_1
        try clear hfz41_2
        try clear hfz41_3
        try clear hfz43_0
        try clear hfz43_1
        try clear hfz43_2
        try clear hfz43_3
        try clear hfz48_0
        try clear hfz48_1
        try clear hfz48_2
        try clear hfz48_3
        try clear hfz50_0
        try clear hfz50_1
        try clear hfz50_2
        try clear hfz50_3
        try clear hfz55_0
        try clear hfz55_1
        try clear hfz55_2
        try clear hfz55_3
        try clear hfz64_0
        try clear hfz64_1
        try clear hfz64_2
        try clear hfz64_3
        try clear hfz72_0
        try clear hfz72_1
        try clear hfz72_2
        try clear hfz72_3
        try clear hfz75_0
        try clear hfz75_1
        try clear hfz75_2
        try clear hfz75_3
        try clear hfz81_0
        try clear hfz81_1
        try clear hfz81_2
        try clear hfz81_3
        try clear hfz84_0
        try clear hfz84_1
        try clear hfz84_2
        try clear hfz84_3
        try clear hfz94_0
        try clear hfz94_1
        try clear hfz94_2
        try clear hfz94_3
        try clear p2
        try clear p6
        try clear p64
        obtain ⟨kq, x16_114, rfl, HA, HJ114, HO_372000, HO_372003, HO_384000, HO_384003, HO_404000, HO_404003, BK340, BK371, BK383, BK403, HB⟩ := hcut
        cases kq with
        | zero => exact absurd HA.out (by simp [pentroughlaw19_WireParts.j2])
        | succ kj114 =>
         have H := HA.out
         clear HA
         simp only [pentroughlaw19_WireParts.j2] at H
         obtain ⟨⟨t404, t407, t408, t409⟩, A117, H⟩ := ob H
         dsimp only at H
         by_cases c118 : 0 ≤ x16_114
         ·
          rw [if_pos c118] at H
          have c118b0 := eq_true c118
          have c118b1 : decide (0 ≤ x16_114) = true := decide_eq_true c118
          clear c118
          by_cases c119 : x16_114 ≤ (l1.length : Int)
          ·
           rw [if_pos c119] at H
           have c119b0 := eq_true c119
           have c119b1 : decide (x16_114 ≤ (l1.length : Int)) = true := decide_eq_true c119
           clear c119
           obtain ⟨⟨t413, t416, t417, t418, t421⟩, A120, H⟩ := ob H
           dsimp only at H
           have c121b0 := eq_true (of_decide_eq_true (by first | (with_reducible assumption) | assumption) : 0 ≤ x16_114)
           have c122b0 := eq_true (of_decide_eq_true (by first | (with_reducible assumption) | assumption) : x16_114 ≤ (l1.length : Int))
           obtain ⟨⟨t424, t427, t428, t429, t432⟩, A123, H⟩ := ob H
           dsimp only at H
           obtain ⟨⟨t434, t437, t438, t439⟩, A124, H⟩ := ob H
           dsimp only at H
           obtain ⟨⟨t442, t445, t446, t447, t450⟩, A125, H⟩ := ob H
           dsimp only at H
           by_cases c126 : t421 < x16_114
           ·
            rw [if_pos c126] at H
            have c126b0 : decide (t421 < x16_114) = true := decide_eq_true c126
            clear c126
            by_cases c127 : t341 = true
            ·
             subst c127
             rw [if_pos rfl] at H
             by_cases c128 : t432 = 0
             ·
              rw [if_pos c128] at H
              have c128b0 : (t432 == 0) = true := beq_iff_eq.mpr c128
              have c128b1 : (t432 != 0) = false := bne_eq_false_iff_eq.mpr c128
              clear c128
              by_cases c129 : t450 = t421
              ·
               rw [if_pos c129] at H
               have c129b0 : (t450 == t421) = true := beq_iff_eq.mpr c129
               have c129b1 : (t450 != t421) = false := bne_eq_false_iff_eq.mpr c129
               clear c129
               obtain rfl := Option.some.inj H
               try go_wp2
               replace HO_372000 := Aside0.mk (Kd.V_drew HO_372000.out)
               replace HO_372003 := Aside0.mk (Kd.V_drew HO_372003.out)
               replace HO_384000 := Aside0.mk (Kd.V_drew HO_384000.out)
               replace HO_384003 := Aside0.mk (Kd.V_drew HO_384003.out)
               replace HO_404000 := Aside0.mk (Kd.V_drew HO_404000.out)
               replace HO_404003 := Aside0.mk (Kd.V_drew HO_404003.out)
               replace BK340 := Aside0.mk (blk_drew BK340.out)
               replace BK371 := Aside0.mk (blk_drew BK371.out)
               replace BK383 := Aside0.mk (blk_drew BK383.out)
               replace BK403 := Aside0.mk (blk_drew BK403.out)
               replace HB := Aside0.mk (below_drew1 HB.out)
               obtain ⟨i0131, hi0131, _, hsz131, _⟩ := info_parts info5
               obtain ⟨hcut131, hA131, hC131⟩ := print_take_of (P := Try.prog) (Value.int .u8) 0 25 5 .i64 Try.underlying25 hi0131 hsz131 A1 c1 l1 x16_114 (of_decide_eq_true (by first | (with_reducible assumption) | assumption)) (of_decide_eq_true (by first | (with_reducible assumption) | assumption)) HC1.out
               have HR412 := Aside0.mk (Kd.C_of_reads (h1 := fun _ => rfl) (hA131 _ (Kd.reads_of_C HR1.out)))
               have HC412 := Aside0.mk hC131
               clear hA131 hC131 hi0131 hsz131
               refine start_ (n := 12) (S := fun w' => w'.cell? ⟨gb340, 0, none⟩ = some (.slice A0_0 l0_0.length c0_0) ∧ w'.cell? ⟨gb340, 1, none⟩ = some (.bool a0_1) ∧ w'.cell? ⟨gb340, 2, none⟩ = some (.int .i64 a0_2) ∧ w'.cell? ⟨gb340, 3, none⟩ = some (.slice A0_3 l0_3.length c0_3)) (ds := []) #[false, false, false, false, false, false, false, false, false, false, false, false] (by kernel_rfl) rfl rfl ⟨cx BK340 0, cx BK340 1, cx BK340 2, cx BK340 3⟩ (fun hHeld => ?_); refine with_tabW pentroughlaw19_WireParts.tab12 pentroughlaw19_WireParts.bits12 (fun HT_ HW_ => ?_)
               generalize wc.drew = w130 at HO_372000 HO_372003 HO_384000 HO_384003 HO_404000 HO_404003 BK340 BK371 BK383 BK403 HB HR412 hHeld ⊢
               refine pure_ (i := 2) (N := some 103) (v := ?_) (a' := ?_) #[false, false, true, false, false, false, false, false, false, false, false, false] rfl rfl (any_of HT_.out (by kernel_rfl)) (fun _ _ _ h => h) (Or.inl ⟨by rfl, ?_⟩) ?_ ?_
               rotate_left
               · intro w'; go_simp; with_reducible rfl
               rotate_left
               · simp only [Act.put, List.setIfInBounds_toArray, List.set_cons_zero, List.set_cons_succ, i64_w, i32_w]; rfl
               refine pure_ (i := 3) (N := some 104) (v := ?_) (a' := ?_) #[false, false, true, true, false, false, false, false, false, false, false, false] rfl rfl (any_of HT_.out (by kernel_rfl)) (fun _ _ _ h => h) (Or.inl ⟨by rfl, ?_⟩) ?_ ?_
               rotate_left
               · intro w'; go_simp; with_reducible rfl
               rotate_left
               · simp only [Act.put, List.setIfInBounds_toArray, List.set_cons_zero, List.set_cons_succ, i64_w, i32_w]; rfl
               refine pure_ (i := 4) (N := some 105) (v := ?_) (a' := ?_) #[false, false, true, true, true, false, false, false, false, false, false, false] rfl rfl (any_of HT_.out (by kernel_rfl)) (fun _ _ _ h => h) (Or.inl ⟨by rfl, ?_⟩) ?_ ?_
               rotate_left
               · intro w'; go_simp; with_reducible rfl
               rotate_left
               · simp only [Act.put, List.setIfInBounds_toArray, List.set_cons_zero, List.set_cons_succ, i64_w, i32_w]; rfl
               refine take_ (i := 0) (N := some 101) (v := ?_) (a' := ?_) #[true, false, true, true, true, false, false, false, false, false, false, false] rfl rfl (take_ofW HT_.out HW_.out (by kernel_rfl)) (fun _ _ _ h => h) (Or.inl ⟨by rfl, ?_⟩) hHeld ?_ ?_
               rotate_left
               · rintro w' ⟨s0, s1, s2, s3⟩; go_simp; with_reducible rfl
               rotate_left
               · simp only [Act.put, List.setIfInBounds_toArray, List.set_cons_zero, List.set_cons_succ, i64_w, i32_w]; rfl
               refine join_ (σ := Value × Value × Value × Value × Nat) 2 #[true, true, true, true, true, true, true, true, true, true, false, false] (fun s_ => [(102, .agg #[s_.1, .bool t407, .int .i64 t408, s_.2.1]), (106, .tuple #[.agg #[s_.2.2.1, .bool t416, .int .i64 t417, s_.2.2.2.1], .int .i64 t421]), (17, .pointer (some ⟨s_.2.2.2.2, 0, none⟩)), (100, .tuple #[.agg #[s_.2.2.1, .bool t416, .int .i64 t417, s_.2.2.2.1], .int .i64 t421]), (107, .agg #[s_.2.2.1, .bool t416, .int .i64 t417, s_.2.2.2.1]), (108, .int .i64 t421)]) (fun s_ w' => (w'.cell? ⟨gb340, 0, none⟩ = some (.slice A0_0 l0_0.length c0_0) ∧ w'.cell? ⟨gb340, 1, none⟩ = some (.bool a0_1) ∧ w'.cell? ⟨gb340, 2, none⟩ = some (.int .i64 a0_2) ∧ w'.cell? ⟨gb340, 3, none⟩ = some (.slice A0_3 l0_3.length c0_3)) ∧ (Kd.V (Kd.int .u8) 5 w' w.heap.size (fun k_ => k_ ≠ gb340 ∧ k_ ≠ gb371 ∧ k_ ≠ gb383 ∧ k_ ≠ gb403 ∧ k_ ≠ s_.2.2.2.2) s_.1 t404) ∧ (Kd.V (Kd.int .u8) 5 w' w.heap.size (fun k_ => k_ ≠ gb340 ∧ k_ ≠ gb371 ∧ k_ ≠ gb383 ∧ k_ ≠ gb403 ∧ k_ ≠ s_.2.2.2.2) s_.2.1 t409) ∧ (Kd.V (Kd.int .u8) 5 w' w.heap.size (fun k_ => k_ ≠ gb340 ∧ k_ ≠ gb371 ∧ k_ ≠ gb383 ∧ k_ ≠ gb403 ∧ k_ ≠ s_.2.2.2.2) s_.2.2.1 t413) ∧ (Kd.V (Kd.int .u8) 5 w' w.heap.size (fun k_ => k_ ≠ gb340 ∧ k_ ≠ gb371 ∧ k_ ≠ gb383 ∧ k_ ≠ gb403 ∧ k_ ≠ s_.2.2.2.2) s_.2.2.2.1 t418) ∧ (Kd.V (Kd.int .u8) 5 w' w.heap.size (fun k_ => k_ ≠ gb340 ∧ k_ ≠ gb371 ∧ k_ ≠ gb383 ∧ k_ ≠ gb403 ∧ k_ ≠ s_.2.2.2.2) (.slice Ao70 t360.length co70) t360) ∧ (Kd.V (Kd.int .u8) 5 w' w.heap.size (fun k_ => k_ ≠ gb340 ∧ k_ ≠ gb371 ∧ k_ ≠ gb383 ∧ k_ ≠ gb403 ∧ k_ ≠ s_.2.2.2.2) (.slice Ao73 t365.length co73) t365) ∧ (Kd.V (Kd.int .u8) 5 w' w.heap.size (fun k_ => k_ ≠ gb340 ∧ k_ ≠ gb371 ∧ k_ ≠ gb383 ∧ k_ ≠ gb403 ∧ k_ ≠ s_.2.2.2.2) (.slice Ao78 t372.length co78) t372) ∧ (Kd.V (Kd.int .u8) 5 w' w.heap.size (fun k_ => k_ ≠ gb340 ∧ k_ ≠ gb371 ∧ k_ ≠ gb383 ∧ k_ ≠ gb403 ∧ k_ ≠ s_.2.2.2.2) (.slice Ao82 t377.length co82) t377) ∧ (Kd.V (Kd.int .u8) 5 w' w.heap.size (fun k_ => k_ ≠ gb340 ∧ k_ ≠ gb371 ∧ k_ ≠ gb383 ∧ k_ ≠ gb403 ∧ k_ ≠ s_.2.2.2.2) (.slice Ao90 t392.length co90) t392) ∧ (Kd.V (Kd.int .u8) 5 w' w.heap.size (fun k_ => k_ ≠ gb340 ∧ k_ ≠ gb371 ∧ k_ ≠ gb383 ∧ k_ ≠ gb403 ∧ k_ ≠ s_.2.2.2.2) (.slice Ao95 t397.length co95) t397) ∧ (w'.heap[gb340]? = some (.cells #[.slice A0_0 l0_0.length c0_0, .bool a0_1, .int .i64 a0_2, .slice A0_3 l0_3.length c0_3] 36 (0, 0))) ∧ (w'.heap[gb371]? = some (.cells #[.slice Ao70 t360.length co70, .bool t363, .int .i64 t364, .slice Ao73 t365.length co73] 27 (0, 0))) ∧ (w'.heap[gb383]? = some (.cells #[.slice Ao78 t372.length co78, .bool t375, .int .i64 t376, .slice Ao82 t377.length co82] 27 (0, 0))) ∧ (w'.heap[gb403]? = some (.cells #[.slice Ao90 t392.length co90, .bool t395, .int .i64 t396, .slice Ao95 t397.length co95] 27 (0, 0))) ∧ (w'.heap[s_.2.2.2.2]? = some (.cells #[.slice none 0 0, .bool false, .int .i64 0, .slice none 0 0] 27 (0, 0))) ∧ (w.heap.size ≤ s_.2.2.2.2) ∧ (w.heap.size ≤ s_.2.2.2.2) ∧ (gb340 ≠ s_.2.2.2.2) ∧ (s_.2.2.2.2 ≠ gb340) ∧ (gb371 ≠ s_.2.2.2.2) ∧ (s_.2.2.2.2 ≠ gb371) ∧ (gb383 ≠ s_.2.2.2.2) ∧ (s_.2.2.2.2 ≠ gb383) ∧ (gb403 ≠ s_.2.2.2.2) ∧ (s_.2.2.2.2 ≠ gb403) ∧ (Below w.heap.size w w')) ?_ ?_
               rotate_left
               ·
                intro hCont
                refine two_ (i := 1) (j := 9) (Ni := some 102) (Nj := some 17) #[true, true, true, true, true, false, false, false, false, false, false, false] #[true, false, true, true, true, false, false, false, false, true, false, false] rfl rfl rfl rfl (two_of HT_.out (by kernel_rfl)) (by decide) (by decide) (fun K hK => ?_) (fun K hK => ?_)
                ·
                 skip
                 refine gs Try.func16 (by kernel_rfl) rfl #[.agg #[.slice A0_0 l0_0.length c0_0, .bool a0_1, .int .i64 a0_2, .slice A0_3 l0_3.length c0_3]] (by rfl) rfl rfl ?_
                 with_reducible refine (pentroughlaw19_ours.calls (fun k_ => k_ < w.heap.size) _ _ l0_0 a0_1 a0_2 (fun k_ => k_ < w.heap.size) _ _ l0_3 t404 t407 t408 t409 _ ?side1 ?side2 A117.out).mono ?_
                 (case side1 => exact Kd.V_mk HC0_0.out (Kd.F_below (Kd.C_F (Kd.heap_int .u8) HR0_0.out) (bb HB)))
                 (case side2 => exact Kd.V_mk HC0_3.out (Kd.F_below (Kd.C_F (Kd.heap_int .u8) HR0_3.out) (bb HB)))
                 rintro e w132 ⟨v405, v410, rfl, ho0, ho1, hb⟩
                 refine ⟨_, rfl, ?_⟩
                 replace HO_372000 := vB HO_372000 hb
                 replace HO_372003 := vB HO_372003 hb
                 replace HO_384000 := vB HO_384000 hb
                 replace HO_384003 := vB HO_384003 hb
                 replace HO_404000 := vB HO_404000 hb
                 replace HO_404003 := vB HO_404003 hb
                 have HO406 := Aside0.mk (Kd.V_lower (Kd.V_mono (ok' := fun k_ => k_ ≠ gb340 ∧ k_ ≠ gb371 ∧ k_ ≠ gb383 ∧ k_ ≠ gb403) ho0 (fun k_ hk_ => ⟨oe hk_ (gw GW340) (gw GW340) (Kd.freshB (kk BK340) k_), oe hk_ (gw GW371) (gw GW371) (Kd.freshB (kk BK371) k_), oe hk_ (gw GW383) (gw GW383) (Kd.freshB (kk BK383) k_), oe hk_ (gw GW403) (gw GW403) (Kd.freshB (kk BK403) k_)⟩)) (below_size (bb HB)))
                 have HO411 := Aside0.mk (Kd.V_lower (Kd.V_mono (ok' := fun k_ => k_ ≠ gb340 ∧ k_ ≠ gb371 ∧ k_ ≠ gb383 ∧ k_ ≠ gb403) ho1 (fun k_ hk_ => ⟨oe hk_ (gw GW340) (gw GW340) (Kd.freshB (kk BK340) k_), oe hk_ (gw GW371) (gw GW371) (Kd.freshB (kk BK371) k_), oe hk_ (gw GW383) (gw GW383) (Kd.freshB (kk BK383) k_), oe hk_ (gw GW403) (gw GW403) (Kd.freshB (kk BK403) k_)⟩)) (below_size (bb HB)))
                 replace BK340 := kB BK340 hb
                 replace BK371 := kB BK371 hb
                 replace BK383 := kB BK383 hb
                 replace BK403 := kB BK403 hb
                 replace HB := hB HB hb
                 (try clear hb)
                 (try clear hb2)
                 (try clear hk)
                 (try clear hi)
                 (try clear ho0)
                 (try clear ho1)
                 obtain ⟨Ao133, co133, eo133⟩ := Kd.V_slice HO406.out
                 (first | subst eo133 | (injection eo133 with f1_ f2_ f3_; have f4_ := f1_.symm; have f5_ := f3_.symm; clear f1_ f2_ f3_; subst f4_; subst f5_))
                 obtain ⟨Ao134, co134, eo134⟩ := Kd.V_slice HO411.out
                 (first | subst eo134 | (injection eo134 with f1_ f2_ f3_; have f4_ := f1_.symm; have f5_ := f3_.symm; clear f1_ f2_ f3_; subst f4_; subst f5_))
                 refine hK.out _ _ ⟨cx BK340 0, cx BK340 1, cx BK340 2, cx BK340 3⟩ (fun hHeld => ?_)
                 clear hK K
                 refine norm_ (a' := ?_) ?_ ?_
                 rotate_left
                 ·
                  show Act.put _ (some 102) _ = _
                  simp only [Act.put, List.setIfInBounds_toArray, List.set_cons_zero, List.set_cons_succ, i64_w, i32_w]
                  rfl
                 refine two_ (i := 5) (j := 9) (Ni := some 106) (Nj := some 17) #[true, true, true, true, true, true, false, false, false, false, false, false] #[true, true, true, true, true, false, false, false, false, true, false, false] rfl rfl rfl rfl (two_of HT_.out (by kernel_rfl)) (by decide) (by decide) (fun K hK => ?_) (fun K hK => ?_)
                 ·
                  skip
                  refine goes_ Try.func12 (by kernel_rfl) rfl #[.agg #[.slice Ao133 t404.length co133, .bool t407, .int .i64 t408, .slice Ao134 t409.length co134], .slice A1 (l1.take (x16_114 : Int).toNat).length c1] (by rfl) rfl rfl (by (try simp only [List.map_toArray, List.map_cons, List.map_nil]); first | done | (rw [show (l1.take (x16_114 : Int).toNat).length = x16_114.toNat from (by rw [List.length_take]; have h_ : (x16_114 : Int) ≤ (l1.length : Int) := of_decide_eq_true (by first | (with_reducible assumption) | assumption); omega)] <;> rfl) | rfl | (simp only [List.length_drop, List.length_take]; rfl)) ?_
                  with_reducible refine (wire_Write.calls (fun k_ => (k_ ≠ gb340 ∧ (k_ ≠ gb371 ∧ (k_ ≠ gb383 ∧ k_ ≠ gb403)))) _ _ t404 t407 t408 (fun k_ => (k_ ≠ gb340 ∧ (k_ ≠ gb371 ∧ (k_ ≠ gb383 ∧ k_ ≠ gb403)))) _ _ t409 _ _ (l1.take (x16_114 : Int).toNat) t413 t416 t417 t418 t421 _ ?side1 ?side2 ?side3 ?side4 A120.out).mono ?_
                  (case side1 => exact HO406.out)
                  (case side2 => exact HO411.out)
                  (case side3 => exact Kd.C_below HR412.out (bb HB))
                  (case side4 => exact HC412.out)
                  rintro e w135 ⟨v414, v419, rfl, ho0, ho1, hb⟩
                  refine ⟨_, rfl, ?_⟩
                  replace HO_372000 := vB HO_372000 hb
                  replace HO_372003 := vB HO_372003 hb
                  replace HO_384000 := vB HO_384000 hb
                  replace HO_384003 := vB HO_384003 hb
                  replace HO_404000 := vB HO_404000 hb
                  replace HO_404003 := vB HO_404003 hb
                  replace HO406 := vB HO406 hb
                  replace HO411 := vB HO411 hb
                  have HO415 := Aside0.mk (Kd.V_lower (Kd.V_mono (ok' := fun k_ => k_ ≠ gb340 ∧ k_ ≠ gb371 ∧ k_ ≠ gb383 ∧ k_ ≠ gb403) ho0 (fun k_ hk_ => ⟨oe hk_ (fun h => h.1) (fun h => h.1) (Kd.freshB (kk BK340) k_), oe hk_ (fun h => h.2.1) (fun h => h.2.1) (Kd.freshB (kk BK371) k_), oe hk_ (fun h => h.2.2.1) (fun h => h.2.2.1) (Kd.freshB (kk BK383) k_), oe hk_ (fun h => h.2.2.2) (fun h => h.2.2.2) (Kd.freshB (kk BK403) k_)⟩)) (below_size (bb HB)))
                  have HO420 := Aside0.mk (Kd.V_lower (Kd.V_mono (ok' := fun k_ => k_ ≠ gb340 ∧ k_ ≠ gb371 ∧ k_ ≠ gb383 ∧ k_ ≠ gb403) ho1 (fun k_ hk_ => ⟨oe hk_ (fun h => h.1) (fun h => h.1) (Kd.freshB (kk BK340) k_), oe hk_ (fun h => h.2.1) (fun h => h.2.1) (Kd.freshB (kk BK371) k_), oe hk_ (fun h => h.2.2.1) (fun h => h.2.2.1) (Kd.freshB (kk BK383) k_), oe hk_ (fun h => h.2.2.2) (fun h => h.2.2.2) (Kd.freshB (kk BK403) k_)⟩)) (below_size (bb HB)))
                  replace BK340 := kB BK340 hb
                  replace BK371 := kB BK371 hb
                  replace BK383 := kB BK383 hb
                  replace BK403 := kB BK403 hb
                  replace HB := hB HB hb
                  (try clear hb)
                  (try clear hb2)
                  (try clear hk)
                  (try clear hi)
                  (try clear ho0)
                  (try clear ho1)
                  refine hK.out _ _ ⟨cx BK340 0, cx BK340 1, cx BK340 2, cx BK340 3⟩ (fun hHeld => ?_)
                  clear hK K
                  refine norm_ (a' := ?_) ?_ ?_
                  rotate_left
                  ·
                   show Act.put _ (some 106) _ = _
                   simp only [Act.put, List.setIfInBounds_toArray, List.set_cons_zero, List.set_cons_succ, i64_w, i32_w]
                   rfl
                  refine pure_ (i := 6) (N := some 100) (v := ?_) (a' := ?_) #[true, true, true, true, true, true, true, false, false, false, false, false] rfl rfl (any_of HT_.out (by kernel_rfl)) (fun _ _ _ h => h) (Or.inl ⟨by rfl, ?_⟩) ?_ ?_
                  rotate_left
                  · intro w'; go_simp; with_reducible rfl
                  rotate_left
                  · simp only [Act.put, List.setIfInBounds_toArray, List.set_cons_zero, List.set_cons_succ, i64_w, i32_w]; rfl
                  refine pure_ (i := 7) (N := some 107) (v := ?_) (a' := ?_) #[true, true, true, true, true, true, true, true, false, false, false, false] rfl rfl (any_of HT_.out (by kernel_rfl)) (fun _ _ _ h => h) (Or.inl ⟨by rfl, ?_⟩) ?_ ?_
                  rotate_left
                  · intro w'; go_simp; with_reducible rfl
                  rotate_left
                  · simp only [Act.put, List.setIfInBounds_toArray, List.set_cons_zero, List.set_cons_succ, i64_w, i32_w]; rfl
                  refine pure_ (i := 8) (N := some 108) (v := ?_) (a' := ?_) #[true, true, true, true, true, true, true, true, true, false, false, false] rfl rfl (any_of HT_.out (by kernel_rfl)) (fun _ _ _ h => h) (Or.inl ⟨by rfl, ?_⟩) ?_ ?_
                  rotate_left
                  · intro w'; go_simp; with_reducible rfl
                  rotate_left
                  · simp only [Act.put, List.setIfInBounds_toArray, List.set_cons_zero, List.set_cons_succ, i64_w, i32_w]; rfl
                  refine one_ (i := 9) (N := some 17) #[true, true, true, true, true, true, true, true, true, true, false, false] rfl rfl (one_of HT_.out (by kernel_rfl)) (by decide) (fun K hK => ?_)
                  refine box_step ?hg (N := 17) ?hd (cs := #[.slice none 0 0, .bool false, .int .i64 0, .slice none 0 0]) (t := 27) ?hr ?_; (case hd => rfl); (case hg => rfl); (case hr => first | (go_simp; done) | (go_simp; rfl))
                  intro gb422 hg w136 hbox hb
                  replace HO_372000 := vE HO_372000 hg hb
                  replace HO_372003 := vE HO_372003 hg hb
                  replace HO_384000 := vE HO_384000 hg hb
                  replace HO_384003 := vE HO_384003 hg hb
                  replace HO_404000 := vE HO_404000 hg hb
                  replace HO_404003 := vE HO_404003 hg hb
                  replace HO406 := vE HO406 hg hb
                  replace HO411 := vE HO411 hg hb
                  replace HO415 := vE HO415 hg hb
                  replace HO420 := vE HO420 hg hb
                  have BK422 := Aside0.mk hbox
                  have GW422 := gE HB hg
                  have GE422 := gE HB hg
                  replace HB := hB HB hb
                  have NB340_422 := nL BK340 hg
                  have NB422_340 := nG BK340 hg
                  replace BK340 := kB BK340 hb
                  have NB371_422 := nL BK371 hg
                  have NB422_371 := nG BK371 hg
                  replace BK371 := kB BK371 hb
                  have NB383_422 := nL BK383 hg
                  have NB422_383 := nG BK383 hg
                  replace BK383 := kB BK383 hb
                  have NB403_422 := nL BK403 hg
                  have NB422_403 := nG BK403 hg
                  replace BK403 := kB BK403 hb
                  clear hb hbox hg
                  refine hK.out _ _ ⟨cx BK340 0, cx BK340 1, cx BK340 2, cx BK340 3⟩ (fun hHeld => ?_)
                  clear hK K
                  refine norm_ (a' := ?_) ?_ ?_
                  rotate_left
                  ·
                   show Act.put _ (some 17) _ = _
                   simp only [Act.put, List.setIfInBounds_toArray, List.set_cons_zero, List.set_cons_succ, i64_w, i32_w]
                   rfl
                  exact norm_ (by simp only [putAll, Act.put, List.setIfInBounds_toArray, List.set_cons_zero, List.set_cons_succ]) (hCont (.slice Ao133 t404.length co133, .slice Ao134 t409.length co134, v414, v419, gb422) _ ⟨hHeld, (vM HO406), (vM HO411), (vM HO415), (vM HO420), (vM HO_372000), (vM HO_372003), (vM HO_384000), (vM HO_384003), (vM HO_404000), (vM HO_404003), (kk BK340), (kk BK371), (kk BK383), (kk BK403), (kk BK422), GW422.out, GE422.out, NB340_422.out, NB422_340.out, NB371_422.out, NB422_371.out, NB383_422.out, NB422_383.out, NB403_422.out, NB422_403.out, (bb HB)⟩)
                 ·
                  skip
                  refine box_step ?hg (N := 17) ?hd (cs := #[.slice none 0 0, .bool false, .int .i64 0, .slice none 0 0]) (t := 27) ?hr ?_; (case hd => rfl); (case hg => rfl); (case hr => first | (go_simp; done) | (go_simp; rfl))
                  intro gb422 hg w133 hbox hb
                  replace HO_372000 := vE HO_372000 hg hb
                  replace HO_372003 := vE HO_372003 hg hb
                  replace HO_384000 := vE HO_384000 hg hb
                  replace HO_384003 := vE HO_384003 hg hb
                  replace HO_404000 := vE HO_404000 hg hb
                  replace HO_404003 := vE HO_404003 hg hb
                  replace HO406 := vE HO406 hg hb
                  replace HO411 := vE HO411 hg hb
                  have BK422 := Aside0.mk hbox
                  have GW422 := gE HB hg
                  have GE422 := gE HB hg
                  replace HB := hB HB hb
                  have NB340_422 := nL BK340 hg
                  have NB422_340 := nG BK340 hg
                  replace BK340 := kB BK340 hb
                  have NB371_422 := nL BK371 hg
                  have NB422_371 := nG BK371 hg
                  replace BK371 := kB BK371 hb
                  have NB383_422 := nL BK383 hg
                  have NB422_383 := nG BK383 hg
                  replace BK383 := kB BK383 hb
                  have NB403_422 := nL BK403 hg
                  have NB422_403 := nG BK403 hg
                  replace BK403 := kB BK403 hb
                  clear hb hbox hg
                  obtain ⟨Ao134, co134, eo134⟩ := Kd.V_slice HO406.out
                  (first | subst eo134 | (injection eo134 with f1_ f2_ f3_; have f4_ := f1_.symm; have f5_ := f3_.symm; clear f1_ f2_ f3_; subst f4_; subst f5_))
                  obtain ⟨Ao135, co135, eo135⟩ := Kd.V_slice HO411.out
                  (first | subst eo135 | (injection eo135 with f1_ f2_ f3_; have f4_ := f1_.symm; have f5_ := f3_.symm; clear f1_ f2_ f3_; subst f4_; subst f5_))
                  refine hK.out _ _ ⟨cx BK340 0, cx BK340 1, cx BK340 2, cx BK340 3⟩ (fun hHeld => ?_)
                  clear hK K
                  refine norm_ (a' := ?_) ?_ ?_
                  rotate_left
                  ·
                   show Act.put _ (some 17) _ = _
                   simp only [Act.put, List.setIfInBounds_toArray, List.set_cons_zero, List.set_cons_succ, i64_w, i32_w]
                   rfl
                  refine one_ (i := 5) (N := some 106) #[true, true, true, true, true, true, false, false, false, true, false, false] rfl rfl (one_of HT_.out (by kernel_rfl)) (by decide) (fun K hK => ?_)
                  refine goes_ Try.func12 (by kernel_rfl) rfl #[.agg #[.slice Ao134 t404.length co134, .bool t407, .int .i64 t408, .slice Ao135 t409.length co135], .slice A1 (l1.take (x16_114 : Int).toNat).length c1] (by rfl) rfl rfl (by (try simp only [List.map_toArray, List.map_cons, List.map_nil]); first | done | (rw [show (l1.take (x16_114 : Int).toNat).length = x16_114.toNat from (by rw [List.length_take]; have h_ : (x16_114 : Int) ≤ (l1.length : Int) := of_decide_eq_true (by first | (with_reducible assumption) | assumption); omega)] <;> rfl) | rfl | (simp only [List.length_drop, List.length_take]; rfl)) ?_
                  with_reducible refine (wire_Write.calls (fun k_ => ((k_ ≠ gb340 ∧ (k_ ≠ gb371 ∧ (k_ ≠ gb383 ∧ k_ ≠ gb403))) ∧ k_ ≠ gb422)) _ _ t404 t407 t408 (fun k_ => ((k_ ≠ gb340 ∧ (k_ ≠ gb371 ∧ (k_ ≠ gb383 ∧ k_ ≠ gb403))) ∧ k_ ≠ gb422)) _ _ t409 _ _ (l1.take (x16_114 : Int).toNat) t413 t416 t417 t418 t421 _ ?side1 ?side2 ?side3 ?side4 A120.out).mono ?_
                  (case side1 => exact HO406.out)
                  (case side2 => exact HO411.out)
                  (case side3 => exact Kd.C_below HR412.out (bb HB))
                  (case side4 => exact HC412.out)
                  rintro e w136 ⟨v414, v419, rfl, ho0, ho1, hb⟩
                  refine ⟨_, rfl, ?_⟩
                  replace HO_372000 := vB HO_372000 hb
                  replace HO_372003 := vB HO_372003 hb
                  replace HO_384000 := vB HO_384000 hb
                  replace HO_384003 := vB HO_384003 hb
                  replace HO_404000 := vB HO_404000 hb
                  replace HO_404003 := vB HO_404003 hb
                  replace HO406 := vB HO406 hb
                  replace HO411 := vB HO411 hb
                  have HO415 := Aside0.mk (Kd.V_lower (Kd.V_mono (ok' := fun k_ => k_ ≠ gb340 ∧ k_ ≠ gb371 ∧ k_ ≠ gb383 ∧ k_ ≠ gb403 ∧ k_ ≠ gb422) ho0 (fun k_ hk_ => ⟨oe hk_ (fun h => h.1.1) (fun h => h.1.1) (Kd.freshB (kk BK340) k_), oe hk_ (fun h => h.1.2.1) (fun h => h.1.2.1) (Kd.freshB (kk BK371) k_), oe hk_ (fun h => h.1.2.2.1) (fun h => h.1.2.2.1) (Kd.freshB (kk BK383) k_), oe hk_ (fun h => h.1.2.2.2) (fun h => h.1.2.2.2) (Kd.freshB (kk BK403) k_), oe hk_ (fun h => h.2) (fun h => h.2) (Kd.freshB (kk BK422) k_)⟩)) (below_size (bb HB)))
                  have HO420 := Aside0.mk (Kd.V_lower (Kd.V_mono (ok' := fun k_ => k_ ≠ gb340 ∧ k_ ≠ gb371 ∧ k_ ≠ gb383 ∧ k_ ≠ gb403 ∧ k_ ≠ gb422) ho1 (fun k_ hk_ => ⟨oe hk_ (fun h => h.1.1) (fun h => h.1.1) (Kd.freshB (kk BK340) k_), oe hk_ (fun h => h.1.2.1) (fun h => h.1.2.1) (Kd.freshB (kk BK371) k_), oe hk_ (fun h => h.1.2.2.1) (fun h => h.1.2.2.1) (Kd.freshB (kk BK383) k_), oe hk_ (fun h => h.1.2.2.2) (fun h => h.1.2.2.2) (Kd.freshB (kk BK403) k_), oe hk_ (fun h => h.2) (fun h => h.2) (Kd.freshB (kk BK422) k_)⟩)) (below_size (bb HB)))
                  replace BK340 := kB BK340 hb
                  replace BK371 := kB BK371 hb
                  replace BK383 := kB BK383 hb
                  replace BK403 := kB BK403 hb
                  replace BK422 := kB BK422 hb
                  replace HB := hB HB hb
                  (try clear hb)
                  (try clear hb2)
                  (try clear hk)
                  (try clear hi)
                  (try clear ho0)
                  (try clear ho1)
                  refine hK.out _ _ ⟨cx BK340 0, cx BK340 1, cx BK340 2, cx BK340 3⟩ (fun hHeld => ?_)
                  clear hK K
                  refine norm_ (a' := ?_) ?_ ?_
                  rotate_left
                  ·
                   show Act.put _ (some 106) _ = _
                   simp only [Act.put, List.setIfInBounds_toArray, List.set_cons_zero, List.set_cons_succ, i64_w, i32_w]
                   rfl
                  refine pure_ (i := 6) (N := some 100) (v := ?_) (a' := ?_) #[true, true, true, true, true, true, true, false, false, true, false, false] rfl rfl (any_of HT_.out (by kernel_rfl)) (fun _ _ _ h => h) (Or.inl ⟨by rfl, ?_⟩) ?_ ?_
                  rotate_left
                  · intro w'; go_simp; with_reducible rfl
                  rotate_left
                  · simp only [Act.put, List.setIfInBounds_toArray, List.set_cons_zero, List.set_cons_succ, i64_w, i32_w]; rfl
                  refine pure_ (i := 7) (N := some 107) (v := ?_) (a' := ?_) #[true, true, true, true, true, true, true, true, false, true, false, false] rfl rfl (any_of HT_.out (by kernel_rfl)) (fun _ _ _ h => h) (Or.inl ⟨by rfl, ?_⟩) ?_ ?_
                  rotate_left
                  · intro w'; go_simp; with_reducible rfl
                  rotate_left
                  · simp only [Act.put, List.setIfInBounds_toArray, List.set_cons_zero, List.set_cons_succ, i64_w, i32_w]; rfl
                  refine pure_ (i := 8) (N := some 108) (v := ?_) (a' := ?_) #[true, true, true, true, true, true, true, true, true, true, false, false] rfl rfl (any_of HT_.out (by kernel_rfl)) (fun _ _ _ h => h) (Or.inl ⟨by rfl, ?_⟩) ?_ ?_
                  rotate_left
                  · intro w'; go_simp; with_reducible rfl
                  rotate_left
                  · simp only [Act.put, List.setIfInBounds_toArray, List.set_cons_zero, List.set_cons_succ, i64_w, i32_w]; rfl
                  exact norm_ (by simp only [putAll, Act.put, List.setIfInBounds_toArray, List.set_cons_zero, List.set_cons_succ]) (hCont (.slice Ao134 t404.length co134, .slice Ao135 t409.length co135, v414, v419, gb422) _ ⟨hHeld, (vM HO406), (vM HO411), (vM HO415), (vM HO420), (vM HO_372000), (vM HO_372003), (vM HO_384000), (vM HO_384003), (vM HO_404000), (vM HO_404003), (kk BK340), (kk BK371), (kk BK383), (kk BK403), (kk BK422), GW422.out, GE422.out, NB340_422.out, NB422_340.out, NB371_422.out, NB422_371.out, NB383_422.out, NB422_383.out, NB403_422.out, NB422_403.out, (bb HB)⟩)
                ·
                 skip
                 refine box_step ?hg (N := 17) ?hd (cs := #[.slice none 0 0, .bool false, .int .i64 0, .slice none 0 0]) (t := 27) ?hr ?_; (case hd => rfl); (case hg => rfl); (case hr => first | (go_simp; done) | (go_simp; rfl))
                 intro gb422 hg w132 hbox hb
                 replace HO_372000 := vE HO_372000 hg hb
                 replace HO_372003 := vE HO_372003 hg hb
                 replace HO_384000 := vE HO_384000 hg hb
                 replace HO_384003 := vE HO_384003 hg hb
                 replace HO_404000 := vE HO_404000 hg hb
                 replace HO_404003 := vE HO_404003 hg hb
                 have BK422 := Aside0.mk hbox
                 have GW422 := gE HB hg
                 have GE422 := gE HB hg
                 replace HB := hB HB hb
                 have NB340_422 := nL BK340 hg
                 have NB422_340 := nG BK340 hg
                 replace BK340 := kB BK340 hb
                 have NB371_422 := nL BK371 hg
                 have NB422_371 := nG BK371 hg
                 replace BK371 := kB BK371 hb
                 have NB383_422 := nL BK383 hg
                 have NB422_383 := nG BK383 hg
                 replace BK383 := kB BK383 hb
                 have NB403_422 := nL BK403 hg
                 have NB422_403 := nG BK403 hg
                 replace BK403 := kB BK403 hb
                 clear hb hbox hg
                 refine hK.out _ _ ⟨cx BK340 0, cx BK340 1, cx BK340 2, cx BK340 3⟩ (fun hHeld => ?_)
                 clear hK K
                 refine norm_ (a' := ?_) ?_ ?_
                 rotate_left
                 ·
                  show Act.put _ (some 17) _ = _
                  simp only [Act.put, List.setIfInBounds_toArray, List.set_cons_zero, List.set_cons_succ, i64_w, i32_w]
                  rfl
                 refine one_ (i := 1) (N := some 102) #[true, true, true, true, true, false, false, false, false, true, false, false] rfl rfl (one_of HT_.out (by kernel_rfl)) (by decide) (fun K hK => ?_)
                 refine gs Try.func16 (by kernel_rfl) rfl #[.agg #[.slice A0_0 l0_0.length c0_0, .bool a0_1, .int .i64 a0_2, .slice A0_3 l0_3.length c0_3]] (by rfl) rfl rfl ?_
                 with_reducible refine (pentroughlaw19_ours.calls (fun k_ => k_ < w.heap.size) _ _ l0_0 a0_1 a0_2 (fun k_ => k_ < w.heap.size) _ _ l0_3 t404 t407 t408 t409 _ ?side1 ?side2 A117.out).mono ?_
                 (case side1 => exact Kd.V_mk HC0_0.out (Kd.F_below (Kd.C_F (Kd.heap_int .u8) HR0_0.out) (bb HB)))
                 (case side2 => exact Kd.V_mk HC0_3.out (Kd.F_below (Kd.C_F (Kd.heap_int .u8) HR0_3.out) (bb HB)))
                 rintro e w133 ⟨v405, v410, rfl, ho0, ho1, hb⟩
                 refine ⟨_, rfl, ?_⟩
                 replace HO_372000 := vB HO_372000 hb
                 replace HO_372003 := vB HO_372003 hb
                 replace HO_384000 := vB HO_384000 hb
                 replace HO_384003 := vB HO_384003 hb
                 replace HO_404000 := vB HO_404000 hb
                 replace HO_404003 := vB HO_404003 hb
                 have HO406 := Aside0.mk (Kd.V_lower (Kd.V_mono (ok' := fun k_ => k_ ≠ gb340 ∧ k_ ≠ gb371 ∧ k_ ≠ gb383 ∧ k_ ≠ gb403 ∧ k_ ≠ gb422) ho0 (fun k_ hk_ => ⟨oe hk_ (gw GW340) (gw GW340) (Kd.freshB (kk BK340) k_), oe hk_ (gw GW371) (gw GW371) (Kd.freshB (kk BK371) k_), oe hk_ (gw GW383) (gw GW383) (Kd.freshB (kk BK383) k_), oe hk_ (gw GW403) (gw GW403) (Kd.freshB (kk BK403) k_), oe hk_ (gw GW422) (gw GW422) (Kd.freshB (kk BK422) k_)⟩)) (below_size (bb HB)))
                 have HO411 := Aside0.mk (Kd.V_lower (Kd.V_mono (ok' := fun k_ => k_ ≠ gb340 ∧ k_ ≠ gb371 ∧ k_ ≠ gb383 ∧ k_ ≠ gb403 ∧ k_ ≠ gb422) ho1 (fun k_ hk_ => ⟨oe hk_ (gw GW340) (gw GW340) (Kd.freshB (kk BK340) k_), oe hk_ (gw GW371) (gw GW371) (Kd.freshB (kk BK371) k_), oe hk_ (gw GW383) (gw GW383) (Kd.freshB (kk BK383) k_), oe hk_ (gw GW403) (gw GW403) (Kd.freshB (kk BK403) k_), oe hk_ (gw GW422) (gw GW422) (Kd.freshB (kk BK422) k_)⟩)) (below_size (bb HB)))
                 replace BK340 := kB BK340 hb
                 replace BK371 := kB BK371 hb
                 replace BK383 := kB BK383 hb
                 replace BK403 := kB BK403 hb
                 replace BK422 := kB BK422 hb
                 replace HB := hB HB hb
                 (try clear hb)
                 (try clear hb2)
                 (try clear hk)
                 (try clear hi)
                 (try clear ho0)
                 (try clear ho1)
                 obtain ⟨Ao134, co134, eo134⟩ := Kd.V_slice HO406.out
                 (first | subst eo134 | (injection eo134 with f1_ f2_ f3_; have f4_ := f1_.symm; have f5_ := f3_.symm; clear f1_ f2_ f3_; subst f4_; subst f5_))
                 obtain ⟨Ao135, co135, eo135⟩ := Kd.V_slice HO411.out
                 (first | subst eo135 | (injection eo135 with f1_ f2_ f3_; have f4_ := f1_.symm; have f5_ := f3_.symm; clear f1_ f2_ f3_; subst f4_; subst f5_))
                 refine hK.out _ _ ⟨cx BK340 0, cx BK340 1, cx BK340 2, cx BK340 3⟩ (fun hHeld => ?_)
                 clear hK K
                 refine norm_ (a' := ?_) ?_ ?_
                 rotate_left
                 ·
                  show Act.put _ (some 102) _ = _
                  simp only [Act.put, List.setIfInBounds_toArray, List.set_cons_zero, List.set_cons_succ, i64_w, i32_w]
                  rfl
                 refine one_ (i := 5) (N := some 106) #[true, true, true, true, true, true, false, false, false, true, false, false] rfl rfl (one_of HT_.out (by kernel_rfl)) (by decide) (fun K hK => ?_)
                 refine goes_ Try.func12 (by kernel_rfl) rfl #[.agg #[.slice Ao134 t404.length co134, .bool t407, .int .i64 t408, .slice Ao135 t409.length co135], .slice A1 (l1.take (x16_114 : Int).toNat).length c1] (by rfl) rfl rfl (by (try simp only [List.map_toArray, List.map_cons, List.map_nil]); first | done | (rw [show (l1.take (x16_114 : Int).toNat).length = x16_114.toNat from (by rw [List.length_take]; have h_ : (x16_114 : Int) ≤ (l1.length : Int) := of_decide_eq_true (by first | (with_reducible assumption) | assumption); omega)] <;> rfl) | rfl | (simp only [List.length_drop, List.length_take]; rfl)) ?_
                 with_reducible refine (wire_Write.calls (fun k_ => (k_ ≠ gb340 ∧ (k_ ≠ gb371 ∧ (k_ ≠ gb383 ∧ (k_ ≠ gb403 ∧ k_ ≠ gb422))))) _ _ t404 t407 t408 (fun k_ => (k_ ≠ gb340 ∧ (k_ ≠ gb371 ∧ (k_ ≠ gb383 ∧ (k_ ≠ gb403 ∧ k_ ≠ gb422))))) _ _ t409 _ _ (l1.take (x16_114 : Int).toNat) t413 t416 t417 t418 t421 _ ?side1 ?side2 ?side3 ?side4 A120.out).mono ?_
                 (case side1 => exact HO406.out)
                 (case side2 => exact HO411.out)
                 (case side3 => exact Kd.C_below HR412.out (bb HB))
                 (case side4 => exact HC412.out)
                 rintro e w136 ⟨v414, v419, rfl, ho0, ho1, hb⟩
                 refine ⟨_, rfl, ?_⟩
                 replace HO_372000 := vB HO_372000 hb
                 replace HO_372003 := vB HO_372003 hb
                 replace HO_384000 := vB HO_384000 hb
                 replace HO_384003 := vB HO_384003 hb
                 replace HO_404000 := vB HO_404000 hb
                 replace HO_404003 := vB HO_404003 hb
                 replace HO406 := vB HO406 hb
                 replace HO411 := vB HO411 hb
                 have HO415 := Aside0.mk (Kd.V_lower (Kd.V_mono (ok' := fun k_ => k_ ≠ gb340 ∧ k_ ≠ gb371 ∧ k_ ≠ gb383 ∧ k_ ≠ gb403 ∧ k_ ≠ gb422) ho0 (fun k_ hk_ => ⟨oe hk_ (fun h => h.1) (fun h => h.1) (Kd.freshB (kk BK340) k_), oe hk_ (fun h => h.2.1) (fun h => h.2.1) (Kd.freshB (kk BK371) k_), oe hk_ (fun h => h.2.2.1) (fun h => h.2.2.1) (Kd.freshB (kk BK383) k_), oe hk_ (fun h => h.2.2.2.1) (fun h => h.2.2.2.1) (Kd.freshB (kk BK403) k_), oe hk_ (fun h => h.2.2.2.2) (fun h => h.2.2.2.2) (Kd.freshB (kk BK422) k_)⟩)) (below_size (bb HB)))
                 have HO420 := Aside0.mk (Kd.V_lower (Kd.V_mono (ok' := fun k_ => k_ ≠ gb340 ∧ k_ ≠ gb371 ∧ k_ ≠ gb383 ∧ k_ ≠ gb403 ∧ k_ ≠ gb422) ho1 (fun k_ hk_ => ⟨oe hk_ (fun h => h.1) (fun h => h.1) (Kd.freshB (kk BK340) k_), oe hk_ (fun h => h.2.1) (fun h => h.2.1) (Kd.freshB (kk BK371) k_), oe hk_ (fun h => h.2.2.1) (fun h => h.2.2.1) (Kd.freshB (kk BK383) k_), oe hk_ (fun h => h.2.2.2.1) (fun h => h.2.2.2.1) (Kd.freshB (kk BK403) k_), oe hk_ (fun h => h.2.2.2.2) (fun h => h.2.2.2.2) (Kd.freshB (kk BK422) k_)⟩)) (below_size (bb HB)))
                 replace BK340 := kB BK340 hb
                 replace BK371 := kB BK371 hb
                 replace BK383 := kB BK383 hb
                 replace BK403 := kB BK403 hb
                 replace BK422 := kB BK422 hb
                 replace HB := hB HB hb
                 (try clear hb)
                 (try clear hb2)
                 (try clear hk)
                 (try clear hi)
                 (try clear ho0)
                 (try clear ho1)
                 refine hK.out _ _ ⟨cx BK340 0, cx BK340 1, cx BK340 2, cx BK340 3⟩ (fun hHeld => ?_)
                 clear hK K
                 refine norm_ (a' := ?_) ?_ ?_
                 rotate_left
                 ·
                  show Act.put _ (some 106) _ = _
                  simp only [Act.put, List.setIfInBounds_toArray, List.set_cons_zero, List.set_cons_succ, i64_w, i32_w]
                  rfl
                 refine pure_ (i := 6) (N := some 100) (v := ?_) (a' := ?_) #[true, true, true, true, true, true, true, false, false, true, false, false] rfl rfl (any_of HT_.out (by kernel_rfl)) (fun _ _ _ h => h) (Or.inl ⟨by rfl, ?_⟩) ?_ ?_
                 rotate_left
                 · intro w'; go_simp; with_reducible rfl
                 rotate_left
                 · simp only [Act.put, List.setIfInBounds_toArray, List.set_cons_zero, List.set_cons_succ, i64_w, i32_w]; rfl
                 refine pure_ (i := 7) (N := some 107) (v := ?_) (a' := ?_) #[true, true, true, true, true, true, true, true, false, true, false, false] rfl rfl (any_of HT_.out (by kernel_rfl)) (fun _ _ _ h => h) (Or.inl ⟨by rfl, ?_⟩) ?_ ?_
                 rotate_left
                 · intro w'; go_simp; with_reducible rfl
                 rotate_left
                 · simp only [Act.put, List.setIfInBounds_toArray, List.set_cons_zero, List.set_cons_succ, i64_w, i32_w]; rfl
                 refine pure_ (i := 8) (N := some 108) (v := ?_) (a' := ?_) #[true, true, true, true, true, true, true, true, true, true, false, false] rfl rfl (any_of HT_.out (by kernel_rfl)) (fun _ _ _ h => h) (Or.inl ⟨by rfl, ?_⟩) ?_ ?_
                 rotate_left
                 · intro w'; go_simp; with_reducible rfl
                 rotate_left
                 · simp only [Act.put, List.setIfInBounds_toArray, List.set_cons_zero, List.set_cons_succ, i64_w, i32_w]; rfl
                 exact norm_ (by simp only [putAll, Act.put, List.setIfInBounds_toArray, List.set_cons_zero, List.set_cons_succ]) (hCont (.slice Ao134 t404.length co134, .slice Ao135 t409.length co135, v414, v419, gb422) _ ⟨hHeld, (vM HO406), (vM HO411), (vM HO415), (vM HO420), (vM HO_372000), (vM HO_372003), (vM HO_384000), (vM HO_384003), (vM HO_404000), (vM HO_404003), (kk BK340), (kk BK371), (kk BK383), (kk BK403), (kk BK422), GW422.out, GE422.out, NB340_422.out, NB422_340.out, NB371_422.out, NB422_371.out, NB383_422.out, NB422_383.out, NB403_422.out, NB422_403.out, (bb HB)⟩)
               clear HO_372000 HO_372003 HO_384000 HO_384003 HO_404000 HO_404003 BK340 BK371 BK383 BK403 HB
               rintro ⟨v405, v410, v414, v419, gb422⟩ w137 hS_
               dsimp only at hS_
               obtain ⟨hHeld, h0_, h1_, h2_, h3_, h4_, h5_, h6_, h7_, h8_, h9_, h10_, h11_, h12_, h13_, h14_, h15_, h16_, h17_, h18_, h19_, h20_, h21_, h22_, h23_, h24_, h25_⟩ := hS_
               have HO406 := Aside0.mk h0_
               have HO411 := Aside0.mk h1_
               have HO415 := Aside0.mk h2_
               have HO420 := Aside0.mk h3_
               have HO_372000 := Aside0.mk h4_
               have HO_372003 := Aside0.mk h5_
               have HO_384000 := Aside0.mk h6_
               have HO_384003 := Aside0.mk h7_
               have HO_404000 := Aside0.mk h8_
               have HO_404003 := Aside0.mk h9_
               have BK340 := Aside0.mk h10_
               have BK371 := Aside0.mk h11_
               have BK383 := Aside0.mk h12_
               have BK403 := Aside0.mk h13_
               have BK422 := Aside0.mk h14_
               have GW422 := Aside0.mk h15_
               have GE422 := Aside0.mk h16_
               have NB340_422 := Aside0.mk h17_
               have NB422_340 := Aside0.mk h18_
               have NB371_422 := Aside0.mk h19_
               have NB422_371 := Aside0.mk h20_
               have NB383_422 := Aside0.mk h21_
               have NB422_383 := Aside0.mk h22_
               have NB403_422 := Aside0.mk h23_
               have NB422_403 := Aside0.mk h24_
               have HB := Aside0.mk h25_
               clear h0_ h1_ h2_ h3_ h4_ h5_ h6_ h7_ h8_ h9_ h10_ h11_ h12_ h13_ h14_ h15_ h16_ h17_ h18_ h19_ h20_ h21_ h22_ h23_ h24_ h25_
               obtain ⟨Ao138, co138, eo138⟩ := Kd.V_slice HO415.out
               (first | subst eo138 | (injection eo138 with f1_ f2_ f3_; have f4_ := f1_.symm; have f5_ := f3_.symm; clear f1_ f2_ f3_; subst f4_; subst f5_))
               obtain ⟨Ao142, co142, eo142⟩ := Kd.V_slice HO420.out
               (first | subst eo142 | (injection eo142 with f1_ f2_ f3_; have f4_ := f1_.symm; have f5_ := f3_.symm; clear f1_ f2_ f3_; subst f4_; subst f5_))
               refine norm_ (a' := ?_) ?_ ?_
               rotate_left
               · simp only [putAll, Act.put, List.setIfInBounds_toArray, List.set_cons_zero, List.set_cons_succ]; rfl
               refine one_ (i := 10) (N := none) #[true, true, true, true, true, true, true, true, true, true, true, false] rfl rfl (one_of HT_.out (by kernel_rfl)) (by decide) (fun K hK => ?_)
               have hs139 : w137.cell? ⟨gb422, 0, none⟩ = some (.slice none 0 0) := cx BK422 0
               have hfs139 := blk_frozen BK422.out 0
               have hns139_0 := NB340_422.out
               have hns139_1 := NB371_422.out
               have hns139_2 := NB383_422.out
               have hns139_3 := NB403_422.out
               have hms139_0 := NB422_340.out
               have hms139_1 := NB422_371.out
               have hms139_2 := NB422_383.out
               have hms139_3 := NB422_403.out
               have hs140 : w137.cell? ⟨gb422, 1, none⟩ = some (.bool false) := cx BK422 1
               have hfs140 := blk_frozen BK422.out 1
               have hns140_0 := NB340_422.out
               have hns140_1 := NB371_422.out
               have hns140_2 := NB383_422.out
               have hns140_3 := NB403_422.out
               have hms140_0 := NB422_340.out
               have hms140_1 := NB422_371.out
               have hms140_2 := NB422_383.out
               have hms140_3 := NB422_403.out
               have hs141 : w137.cell? ⟨gb422, 2, none⟩ = some (.int .i64 0) := cx BK422 2
               have hfs141 := blk_frozen BK422.out 2
               have hns141_0 := NB340_422.out
               have hns141_1 := NB371_422.out
               have hns141_2 := NB383_422.out
               have hns141_3 := NB403_422.out
               have hms141_0 := NB422_340.out
               have hms141_1 := NB422_371.out
               have hms141_2 := NB422_383.out
               have hms141_3 := NB422_403.out
               have hs143 : w137.cell? ⟨gb422, 3, none⟩ = some (.slice none 0 0) := cx BK422 3
               have hfs143 := blk_frozen BK422.out 3
               have hns143_0 := NB340_422.out
               have hns143_1 := NB371_422.out
               have hns143_2 := NB383_422.out
               have hns143_3 := NB403_422.out
               have hms143_0 := NB422_340.out
               have hms143_1 := NB422_371.out
               have hms143_2 := NB422_383.out
               have hms143_3 := NB422_403.out
               refine skip_ (w1 := ?_) (by rfl) rfl ?_ ?_
               rotate_left
               · go_simp; rfl
               refine hK.out _ _ ⟨((cell_far (p := ⟨gb422, _, none⟩) NB340_422.out _).trans (((cell_far (p := ⟨gb422, _, none⟩) NB340_422.out _).trans (((cell_far (p := ⟨gb422, _, none⟩) NB340_422.out _).trans (((cell_far (p := ⟨gb422, _, none⟩) NB340_422.out _).trans (hHeld.1)))))))), ((cell_far (p := ⟨gb422, _, none⟩) NB340_422.out _).trans (((cell_far (p := ⟨gb422, _, none⟩) NB340_422.out _).trans (((cell_far (p := ⟨gb422, _, none⟩) NB340_422.out _).trans (((cell_far (p := ⟨gb422, _, none⟩) NB340_422.out _).trans (hHeld.2.1)))))))), ((cell_far (p := ⟨gb422, _, none⟩) NB340_422.out _).trans (((cell_far (p := ⟨gb422, _, none⟩) NB340_422.out _).trans (((cell_far (p := ⟨gb422, _, none⟩) NB340_422.out _).trans (((cell_far (p := ⟨gb422, _, none⟩) NB340_422.out _).trans (hHeld.2.2.1)))))))), ((cell_far (p := ⟨gb422, _, none⟩) NB340_422.out _).trans (((cell_far (p := ⟨gb422, _, none⟩) NB340_422.out _).trans (((cell_far (p := ⟨gb422, _, none⟩) NB340_422.out _).trans (((cell_far (p := ⟨gb422, _, none⟩) NB340_422.out _).trans (hHeld.2.2.2))))))))⟩ (fun hHeld => ?_)
               clear hK K
               refine pure_ (i := 11) (N := some 18) (v := ?_) (a' := ?_) #[true, true, true, true, true, true, true, true, true, true, true, true] rfl rfl (any_of HT_.out (by kernel_rfl)) (fun _ _ _ h => h) (Or.inl ⟨by rfl, ?_⟩) ?_ ?_
               rotate_left
               · intro w'; go_simp; with_reducible rfl
               rotate_left
               · simp only [Act.put, List.setIfInBounds_toArray, List.set_cons_zero, List.set_cons_succ, i64_w, i32_w]; rfl
               refine done_ (done_of HT_.out (by kernel_rfl)) ?_
               try go_wp2
               obtain ⟨w144, hw⟩ : ∃ w_, w_ = ((((w137.setCell ⟨gb422, 0, none⟩ (.slice Ao138 t413.length co138)).setCell ⟨gb422, 1, none⟩ (.bool t416)).setCell ⟨gb422, 2, none⟩ (.int .i64 t417)).setCell ⟨gb422, 3, none⟩ (.slice Ao142 t418.length co142)) := ⟨_, rfl⟩
               rw [← hw]
               replace HO_372000 := vS (fun k_ => k_ ≠ gb340 ∧ k_ ≠ gb371 ∧ k_ ≠ gb383 ∧ k_ ≠ gb403 ∧ k_ ≠ gb422) HO_372000 hw
               replace HO_372003 := vS (fun k_ => k_ ≠ gb340 ∧ k_ ≠ gb371 ∧ k_ ≠ gb383 ∧ k_ ≠ gb403 ∧ k_ ≠ gb422) HO_372003 hw
               replace HO_384000 := vS (fun k_ => k_ ≠ gb340 ∧ k_ ≠ gb371 ∧ k_ ≠ gb383 ∧ k_ ≠ gb403 ∧ k_ ≠ gb422) HO_384000 hw
               replace HO_384003 := vS (fun k_ => k_ ≠ gb340 ∧ k_ ≠ gb371 ∧ k_ ≠ gb383 ∧ k_ ≠ gb403 ∧ k_ ≠ gb422) HO_384003 hw
               replace HO_404000 := vS (fun k_ => k_ ≠ gb340 ∧ k_ ≠ gb371 ∧ k_ ≠ gb383 ∧ k_ ≠ gb403 ∧ k_ ≠ gb422) HO_404000 hw
               replace HO_404003 := vS (fun k_ => k_ ≠ gb340 ∧ k_ ≠ gb371 ∧ k_ ≠ gb383 ∧ k_ ≠ gb403 ∧ k_ ≠ gb422) HO_404003 hw
               replace HO406 := vS (fun k_ => k_ ≠ gb340 ∧ k_ ≠ gb371 ∧ k_ ≠ gb383 ∧ k_ ≠ gb403 ∧ k_ ≠ gb422) HO406 hw
               replace HO411 := vS (fun k_ => k_ ≠ gb340 ∧ k_ ≠ gb371 ∧ k_ ≠ gb383 ∧ k_ ≠ gb403 ∧ k_ ≠ gb422) HO411 hw
               replace HO415 := vS (fun k_ => k_ ≠ gb340 ∧ k_ ≠ gb371 ∧ k_ ≠ gb383 ∧ k_ ≠ gb403 ∧ k_ ≠ gb422) HO415 hw
               replace HO420 := vS (fun k_ => k_ ≠ gb340 ∧ k_ ≠ gb371 ∧ k_ ≠ gb383 ∧ k_ ≠ gb403 ∧ k_ ≠ gb422) HO420 hw
               replace BK340 := kS BK340 hw
               replace BK371 := kS BK371 hw
               replace BK383 := kS BK383 hw
               replace BK403 := kS BK403 hw
               replace BK422 := kP4 BK422 hw
               replace HB := hS HB hw
               clear hw
               replace HO_372000 := Aside0.mk (Kd.V_drew HO_372000.out)
               replace HO_372003 := Aside0.mk (Kd.V_drew HO_372003.out)
               replace HO_384000 := Aside0.mk (Kd.V_drew HO_384000.out)
               replace HO_384003 := Aside0.mk (Kd.V_drew HO_384003.out)
               replace HO_404000 := Aside0.mk (Kd.V_drew HO_404000.out)
               replace HO_404003 := Aside0.mk (Kd.V_drew HO_404003.out)
               replace HO406 := Aside0.mk (Kd.V_drew HO406.out)
               replace HO411 := Aside0.mk (Kd.V_drew HO411.out)
               replace HO415 := Aside0.mk (Kd.V_drew HO415.out)
               replace HO420 := Aside0.mk (Kd.V_drew HO420.out)
               replace BK340 := Aside0.mk (blk_drew BK340.out)
               replace BK371 := Aside0.mk (blk_drew BK371.out)
               replace BK383 := Aside0.mk (blk_drew BK383.out)
               replace BK403 := Aside0.mk (blk_drew BK403.out)
               replace BK422 := Aside0.mk (blk_drew BK422.out)
               replace HB := Aside0.mk (below_drew1 HB.out)
               obtain ⟨i0146, hi0146, _, hsz146, _⟩ := info_parts info5
               obtain ⟨A146, hcut146, hA146, hC146⟩ := print_drop_of (P := Try.prog) (Value.int .u8) 0 25 5 .i64 Try.underlying25 hi0146 hsz146 A1 c1 l1 x16_114 (of_decide_eq_true (by first | (with_reducible assumption) | assumption)) (of_decide_eq_true (by first | (with_reducible assumption) | assumption)) HC1.out
               have HR423 := Aside0.mk (Kd.C_of_reads (h1 := fun _ => rfl) (hA146 _ (Kd.reads_of_C HR1.out)))
               have HC423 := Aside0.mk hC146
               clear hA146 hC146 hi0146 hsz146
               refine start_ (n := 11) (S := fun w' => w'.cell? ⟨gb422, 0, none⟩ = some (.slice Ao138 t413.length co138) ∧ w'.cell? ⟨gb422, 1, none⟩ = some (.bool t416) ∧ w'.cell? ⟨gb422, 2, none⟩ = some (.int .i64 t417) ∧ w'.cell? ⟨gb422, 3, none⟩ = some (.slice Ao142 t418.length co142)) (ds := []) #[false, false, false, false, false, false, false, false, false, false, false] (by kernel_rfl) rfl rfl ⟨cx BK422 0, cx BK422 1, cx BK422 2, cx BK422 3⟩ (fun hHeld => ?_); refine with_tabW pentroughlaw19_WireParts.tab13 pentroughlaw19_WireParts.bits13 (fun HT_ HW_ => ?_)
               generalize w144.drew = w145 at HO_372000 HO_372003 HO_384000 HO_384003 HO_404000 HO_404003 HO406 HO411 HO415 HO420 BK340 BK371 BK383 BK403 BK422 HB HR423 hHeld ⊢
               refine pure_ (i := 1) (N := some 111) (v := ?_) (a' := ?_) #[false, true, false, false, false, false, false, false, false, false, false] rfl rfl (any_of HT_.out (by kernel_rfl)) (fun _ _ _ h => h) (Or.inl ⟨by rfl, ?_⟩) ?_ ?_
               rotate_left
               · intro w'; go_simp; with_reducible rfl
               rotate_left
               · simp only [Act.put, List.setIfInBounds_toArray, List.set_cons_zero, List.set_cons_succ, i64_w, i32_w]; rfl
               refine pure_ (i := 2) (N := some 112) (v := ?_) (a' := ?_) #[false, true, true, false, false, false, false, false, false, false, false] rfl rfl (any_of HT_.out (by kernel_rfl)) (fun _ _ _ h => h) (Or.inl ⟨by rfl, ?_⟩) ?_ ?_
               rotate_left
               · intro w'; go_simp; with_reducible rfl
               rotate_left
               · simp only [Act.put, List.setIfInBounds_toArray, List.set_cons_zero, List.set_cons_succ, i64_w, i32_w]; rfl
               refine pure_ (i := 3) (N := some 113) (v := ?_) (a' := ?_) #[false, true, true, true, false, false, false, false, false, false, false] rfl rfl (any_of HT_.out (by kernel_rfl)) (fun _ _ _ h => h) (Or.inl ⟨by rfl, ?_⟩) ?_ ?_
               rotate_left
               · intro w'; go_simp; with_reducible rfl
               rotate_left
               · simp only [Act.put, List.setIfInBounds_toArray, List.set_cons_zero, List.set_cons_succ, i64_w, i32_w]; rfl
               refine take_ (i := 0) (N := some 110) (v := ?_) (a' := ?_) #[true, true, true, true, false, false, false, false, false, false, false] rfl rfl (take_ofW HT_.out HW_.out (by kernel_rfl)) (fun _ _ _ h => h) (Or.inl ⟨by rfl, ?_⟩) hHeld ?_ ?_
               rotate_left
               · rintro w' ⟨s0, s1, s2, s3⟩; go_simp; with_reducible rfl
               rotate_left
               · simp only [Act.put, List.setIfInBounds_toArray, List.set_cons_zero, List.set_cons_succ, i64_w, i32_w]; rfl
               refine join_ (σ := Value × Value × Nat) 2 #[true, true, true, true, true, true, true, true, true, false, false] (fun s_ => [(114, .tuple #[.agg #[s_.1, .bool t427, .int .i64 t428, s_.2.1], .int .i64 t432]), (19, .pointer (some ⟨s_.2.2, 0, none⟩)), (109, .tuple #[.agg #[s_.1, .bool t427, .int .i64 t428, s_.2.1], .int .i64 t432]), (115, .agg #[s_.1, .bool t427, .int .i64 t428, s_.2.1]), (116, .int .i64 t432)]) (fun s_ w' => (w'.cell? ⟨gb422, 0, none⟩ = some (.slice Ao138 t413.length co138) ∧ w'.cell? ⟨gb422, 1, none⟩ = some (.bool t416) ∧ w'.cell? ⟨gb422, 2, none⟩ = some (.int .i64 t417) ∧ w'.cell? ⟨gb422, 3, none⟩ = some (.slice Ao142 t418.length co142)) ∧ (Kd.V (Kd.int .u8) 5 w' w.heap.size (fun k_ => k_ ≠ gb340 ∧ k_ ≠ gb371 ∧ k_ ≠ gb383 ∧ k_ ≠ gb403 ∧ k_ ≠ gb422 ∧ k_ ≠ s_.2.2) v405 t404) ∧ (Kd.V (Kd.int .u8) 5 w' w.heap.size (fun k_ => k_ ≠ gb340 ∧ k_ ≠ gb371 ∧ k_ ≠ gb383 ∧ k_ ≠ gb403 ∧ k_ ≠ gb422 ∧ k_ ≠ s_.2.2) v410 t409) ∧ (Kd.V (Kd.int .u8) 5 w' w.heap.size (fun k_ => k_ ≠ gb340 ∧ k_ ≠ gb371 ∧ k_ ≠ gb383 ∧ k_ ≠ gb403 ∧ k_ ≠ gb422 ∧ k_ ≠ s_.2.2) (.slice Ao138 t413.length co138) t413) ∧ (Kd.V (Kd.int .u8) 5 w' w.heap.size (fun k_ => k_ ≠ gb340 ∧ k_ ≠ gb371 ∧ k_ ≠ gb383 ∧ k_ ≠ gb403 ∧ k_ ≠ gb422 ∧ k_ ≠ s_.2.2) (.slice Ao142 t418.length co142) t418) ∧ (Kd.V (Kd.int .u8) 5 w' w.heap.size (fun k_ => k_ ≠ gb340 ∧ k_ ≠ gb371 ∧ k_ ≠ gb383 ∧ k_ ≠ gb403 ∧ k_ ≠ gb422 ∧ k_ ≠ s_.2.2) s_.1 t424) ∧ (Kd.V (Kd.int .u8) 5 w' w.heap.size (fun k_ => k_ ≠ gb340 ∧ k_ ≠ gb371 ∧ k_ ≠ gb383 ∧ k_ ≠ gb403 ∧ k_ ≠ gb422 ∧ k_ ≠ s_.2.2) s_.2.1 t429) ∧ (Kd.V (Kd.int .u8) 5 w' w.heap.size (fun k_ => k_ ≠ gb340 ∧ k_ ≠ gb371 ∧ k_ ≠ gb383 ∧ k_ ≠ gb403 ∧ k_ ≠ gb422 ∧ k_ ≠ s_.2.2) (.slice Ao70 t360.length co70) t360) ∧ (Kd.V (Kd.int .u8) 5 w' w.heap.size (fun k_ => k_ ≠ gb340 ∧ k_ ≠ gb371 ∧ k_ ≠ gb383 ∧ k_ ≠ gb403 ∧ k_ ≠ gb422 ∧ k_ ≠ s_.2.2) (.slice Ao73 t365.length co73) t365) ∧ (Kd.V (Kd.int .u8) 5 w' w.heap.size (fun k_ => k_ ≠ gb340 ∧ k_ ≠ gb371 ∧ k_ ≠ gb383 ∧ k_ ≠ gb403 ∧ k_ ≠ gb422 ∧ k_ ≠ s_.2.2) (.slice Ao78 t372.length co78) t372) ∧ (Kd.V (Kd.int .u8) 5 w' w.heap.size (fun k_ => k_ ≠ gb340 ∧ k_ ≠ gb371 ∧ k_ ≠ gb383 ∧ k_ ≠ gb403 ∧ k_ ≠ gb422 ∧ k_ ≠ s_.2.2) (.slice Ao82 t377.length co82) t377) ∧ (Kd.V (Kd.int .u8) 5 w' w.heap.size (fun k_ => k_ ≠ gb340 ∧ k_ ≠ gb371 ∧ k_ ≠ gb383 ∧ k_ ≠ gb403 ∧ k_ ≠ gb422 ∧ k_ ≠ s_.2.2) (.slice Ao90 t392.length co90) t392) ∧ (Kd.V (Kd.int .u8) 5 w' w.heap.size (fun k_ => k_ ≠ gb340 ∧ k_ ≠ gb371 ∧ k_ ≠ gb383 ∧ k_ ≠ gb403 ∧ k_ ≠ gb422 ∧ k_ ≠ s_.2.2) (.slice Ao95 t397.length co95) t397) ∧ (w'.heap[gb340]? = some (.cells #[.slice A0_0 l0_0.length c0_0, .bool a0_1, .int .i64 a0_2, .slice A0_3 l0_3.length c0_3] 36 (0, 0))) ∧ (w'.heap[gb371]? = some (.cells #[.slice Ao70 t360.length co70, .bool t363, .int .i64 t364, .slice Ao73 t365.length co73] 27 (0, 0))) ∧ (w'.heap[gb383]? = some (.cells #[.slice Ao78 t372.length co78, .bool t375, .int .i64 t376, .slice Ao82 t377.length co82] 27 (0, 0))) ∧ (w'.heap[gb403]? = some (.cells #[.slice Ao90 t392.length co90, .bool t395, .int .i64 t396, .slice Ao95 t397.length co95] 27 (0, 0))) ∧ (w'.heap[gb422]? = some (.cells #[.slice Ao138 t413.length co138, .bool t416, .int .i64 t417, .slice Ao142 t418.length co142] 27 (0, 0))) ∧ (w'.heap[s_.2.2]? = some (.cells #[.slice none 0 0, .bool false, .int .i64 0, .slice none 0 0] 27 (0, 0))) ∧ (w.heap.size ≤ s_.2.2) ∧ (w.heap.size ≤ s_.2.2) ∧ (gb340 ≠ s_.2.2) ∧ (s_.2.2 ≠ gb340) ∧ (gb371 ≠ s_.2.2) ∧ (s_.2.2 ≠ gb371) ∧ (gb383 ≠ s_.2.2) ∧ (s_.2.2 ≠ gb383) ∧ (gb403 ≠ s_.2.2) ∧ (s_.2.2 ≠ gb403) ∧ (gb422 ≠ s_.2.2) ∧ (s_.2.2 ≠ gb422) ∧ (Below w.heap.size w w')) ?_ ?_
               rotate_left
               ·
                intro hCont
                refine two_ (i := 4) (j := 8) (Ni := some 114) (Nj := some 19) #[true, true, true, true, true, false, false, false, false, false, false] #[true, true, true, true, false, false, false, false, true, false, false] rfl rfl rfl rfl (two_of HT_.out (by kernel_rfl)) (by decide) (by decide) (fun K hK => ?_) (fun K hK => ?_)
                ·
                 skip
                 refine goes_ Try.func12 (by kernel_rfl) rfl #[.agg #[.slice Ao138 t413.length co138, .bool t416, .int .i64 t417, .slice Ao142 t418.length co142], .slice A146 (l1.drop (x16_114 : Int).toNat).length (c1 - x16_114.toNat)] (by rfl) rfl rfl (by (try simp only [List.map_toArray, List.map_cons, List.map_nil]); first | done | (rw [show (l1.drop (x16_114 : Int).toNat).length = (l1.length - x16_114.toNat) from List.length_drop] <;> rfl) | rfl | (simp only [List.length_drop, List.length_take]; rfl)) ?_
                 with_reducible refine (wire_Write.calls (fun k_ => (k_ ≠ gb340 ∧ (k_ ≠ gb371 ∧ (k_ ≠ gb383 ∧ (k_ ≠ gb403 ∧ k_ ≠ gb422))))) _ _ t413 t416 t417 (fun k_ => (k_ ≠ gb340 ∧ (k_ ≠ gb371 ∧ (k_ ≠ gb383 ∧ (k_ ≠ gb403 ∧ k_ ≠ gb422))))) _ _ t418 _ _ (l1.drop (x16_114 : Int).toNat) t424 t427 t428 t429 t432 _ ?side1 ?side2 ?side3 ?side4 A123.out).mono ?_
                 (case side1 => exact HO415.out)
                 (case side2 => exact HO420.out)
                 (case side3 => exact Kd.C_below HR423.out (bb HB))
                 (case side4 => exact HC423.out)
                 rintro e w147 ⟨v425, v430, rfl, ho0, ho1, hb⟩
                 refine ⟨_, rfl, ?_⟩
                 replace HO_372000 := vB HO_372000 hb
                 replace HO_372003 := vB HO_372003 hb
                 replace HO_384000 := vB HO_384000 hb
                 replace HO_384003 := vB HO_384003 hb
                 replace HO_404000 := vB HO_404000 hb
                 replace HO_404003 := vB HO_404003 hb
                 replace HO406 := vB HO406 hb
                 replace HO411 := vB HO411 hb
                 replace HO415 := vB HO415 hb
                 replace HO420 := vB HO420 hb
                 have HO426 := Aside0.mk (Kd.V_lower (Kd.V_mono (ok' := fun k_ => k_ ≠ gb340 ∧ k_ ≠ gb371 ∧ k_ ≠ gb383 ∧ k_ ≠ gb403 ∧ k_ ≠ gb422) ho0 (fun k_ hk_ => ⟨oe hk_ (fun h => h.1) (fun h => h.1) (Kd.freshB (kk BK340) k_), oe hk_ (fun h => h.2.1) (fun h => h.2.1) (Kd.freshB (kk BK371) k_), oe hk_ (fun h => h.2.2.1) (fun h => h.2.2.1) (Kd.freshB (kk BK383) k_), oe hk_ (fun h => h.2.2.2.1) (fun h => h.2.2.2.1) (Kd.freshB (kk BK403) k_), oe hk_ (fun h => h.2.2.2.2) (fun h => h.2.2.2.2) (Kd.freshB (kk BK422) k_)⟩)) (below_size (bb HB)))
                 have HO431 := Aside0.mk (Kd.V_lower (Kd.V_mono (ok' := fun k_ => k_ ≠ gb340 ∧ k_ ≠ gb371 ∧ k_ ≠ gb383 ∧ k_ ≠ gb403 ∧ k_ ≠ gb422) ho1 (fun k_ hk_ => ⟨oe hk_ (fun h => h.1) (fun h => h.1) (Kd.freshB (kk BK340) k_), oe hk_ (fun h => h.2.1) (fun h => h.2.1) (Kd.freshB (kk BK371) k_), oe hk_ (fun h => h.2.2.1) (fun h => h.2.2.1) (Kd.freshB (kk BK383) k_), oe hk_ (fun h => h.2.2.2.1) (fun h => h.2.2.2.1) (Kd.freshB (kk BK403) k_), oe hk_ (fun h => h.2.2.2.2) (fun h => h.2.2.2.2) (Kd.freshB (kk BK422) k_)⟩)) (below_size (bb HB)))
                 replace BK340 := kB BK340 hb
                 replace BK371 := kB BK371 hb
                 replace BK383 := kB BK383 hb
                 replace BK403 := kB BK403 hb
                 replace BK422 := kB BK422 hb
                 replace HB := hB HB hb
                 (try clear hb)
                 (try clear hb2)
                 (try clear hk)
                 (try clear hi)
                 (try clear ho0)
                 (try clear ho1)
                 refine hK.out _ _ ⟨cx BK422 0, cx BK422 1, cx BK422 2, cx BK422 3⟩ (fun hHeld => ?_)
                 clear hK K
                 refine norm_ (a' := ?_) ?_ ?_
                 rotate_left
                 ·
                  show Act.put _ (some 114) _ = _
                  simp only [Act.put, List.setIfInBounds_toArray, List.set_cons_zero, List.set_cons_succ, i64_w, i32_w]
                  rfl
                 refine pure_ (i := 5) (N := some 109) (v := ?_) (a' := ?_) #[true, true, true, true, true, true, false, false, false, false, false] rfl rfl (any_of HT_.out (by kernel_rfl)) (fun _ _ _ h => h) (Or.inl ⟨by rfl, ?_⟩) ?_ ?_
                 rotate_left
                 · intro w'; go_simp; with_reducible rfl
                 rotate_left
                 · simp only [Act.put, List.setIfInBounds_toArray, List.set_cons_zero, List.set_cons_succ, i64_w, i32_w]; rfl
                 refine pure_ (i := 6) (N := some 115) (v := ?_) (a' := ?_) #[true, true, true, true, true, true, true, false, false, false, false] rfl rfl (any_of HT_.out (by kernel_rfl)) (fun _ _ _ h => h) (Or.inl ⟨by rfl, ?_⟩) ?_ ?_
                 rotate_left
                 · intro w'; go_simp; with_reducible rfl
                 rotate_left
                 · simp only [Act.put, List.setIfInBounds_toArray, List.set_cons_zero, List.set_cons_succ, i64_w, i32_w]; rfl
                 refine pure_ (i := 7) (N := some 116) (v := ?_) (a' := ?_) #[true, true, true, true, true, true, true, true, false, false, false] rfl rfl (any_of HT_.out (by kernel_rfl)) (fun _ _ _ h => h) (Or.inl ⟨by rfl, ?_⟩) ?_ ?_
                 rotate_left
                 · intro w'; go_simp; with_reducible rfl
                 rotate_left
                 · simp only [Act.put, List.setIfInBounds_toArray, List.set_cons_zero, List.set_cons_succ, i64_w, i32_w]; rfl
                 refine one_ (i := 8) (N := some 19) #[true, true, true, true, true, true, true, true, true, false, false] rfl rfl (one_of HT_.out (by kernel_rfl)) (by decide) (fun K hK => ?_)
                 refine box_step ?hg (N := 19) ?hd (cs := #[.slice none 0 0, .bool false, .int .i64 0, .slice none 0 0]) (t := 27) ?hr ?_; (case hd => rfl); (case hg => rfl); (case hr => first | (go_simp; done) | (go_simp; rfl))
                 intro gb433 hg w148 hbox hb
                 replace HO_372000 := vE HO_372000 hg hb
                 replace HO_372003 := vE HO_372003 hg hb
                 replace HO_384000 := vE HO_384000 hg hb
                 replace HO_384003 := vE HO_384003 hg hb
                 replace HO_404000 := vE HO_404000 hg hb
                 replace HO_404003 := vE HO_404003 hg hb
                 replace HO406 := vE HO406 hg hb
                 replace HO411 := vE HO411 hg hb
                 replace HO415 := vE HO415 hg hb
                 replace HO420 := vE HO420 hg hb
                 replace HO426 := vE HO426 hg hb
                 replace HO431 := vE HO431 hg hb
                 have BK433 := Aside0.mk hbox
                 have GW433 := gE HB hg
                 have GE433 := gE HB hg
                 replace HB := hB HB hb
                 have NB340_433 := nL BK340 hg
                 have NB433_340 := nG BK340 hg
                 replace BK340 := kB BK340 hb
                 have NB371_433 := nL BK371 hg
                 have NB433_371 := nG BK371 hg
                 replace BK371 := kB BK371 hb
                 have NB383_433 := nL BK383 hg
                 have NB433_383 := nG BK383 hg
                 replace BK383 := kB BK383 hb
                 have NB403_433 := nL BK403 hg
                 have NB433_403 := nG BK403 hg
                 replace BK403 := kB BK403 hb
                 have NB422_433 := nL BK422 hg
                 have NB433_422 := nG BK422 hg
                 replace BK422 := kB BK422 hb
                 clear hb hbox hg
                 refine hK.out _ _ ⟨cx BK422 0, cx BK422 1, cx BK422 2, cx BK422 3⟩ (fun hHeld => ?_)
                 clear hK K
                 refine norm_ (a' := ?_) ?_ ?_
                 rotate_left
                 ·
                  show Act.put _ (some 19) _ = _
                  simp only [Act.put, List.setIfInBounds_toArray, List.set_cons_zero, List.set_cons_succ, i64_w, i32_w]
                  rfl
                 exact norm_ (by simp only [putAll, Act.put, List.setIfInBounds_toArray, List.set_cons_zero, List.set_cons_succ]) (hCont (v425, v430, gb433) _ ⟨hHeld, (vM HO406), (vM HO411), (vM HO415), (vM HO420), (vM HO426), (vM HO431), (vM HO_372000), (vM HO_372003), (vM HO_384000), (vM HO_384003), (vM HO_404000), (vM HO_404003), (kk BK340), (kk BK371), (kk BK383), (kk BK403), (kk BK422), (kk BK433), GW433.out, GE433.out, NB340_433.out, NB433_340.out, NB371_433.out, NB433_371.out, NB383_433.out, NB433_383.out, NB403_433.out, NB433_403.out, NB422_433.out, NB433_422.out, (bb HB)⟩)
                ·
                 skip
                 refine box_step ?hg (N := 19) ?hd (cs := #[.slice none 0 0, .bool false, .int .i64 0, .slice none 0 0]) (t := 27) ?hr ?_; (case hd => rfl); (case hg => rfl); (case hr => first | (go_simp; done) | (go_simp; rfl))
                 intro gb433 hg w147 hbox hb
                 replace HO_372000 := vE HO_372000 hg hb
                 replace HO_372003 := vE HO_372003 hg hb
                 replace HO_384000 := vE HO_384000 hg hb
                 replace HO_384003 := vE HO_384003 hg hb
                 replace HO_404000 := vE HO_404000 hg hb
                 replace HO_404003 := vE HO_404003 hg hb
                 replace HO406 := vE HO406 hg hb
                 replace HO411 := vE HO411 hg hb
                 replace HO415 := vE HO415 hg hb
                 replace HO420 := vE HO420 hg hb
                 have BK433 := Aside0.mk hbox
                 have GW433 := gE HB hg
                 have GE433 := gE HB hg
                 replace HB := hB HB hb
                 have NB340_433 := nL BK340 hg
                 have NB433_340 := nG BK340 hg
                 replace BK340 := kB BK340 hb
                 have NB371_433 := nL BK371 hg
                 have NB433_371 := nG BK371 hg
                 replace BK371 := kB BK371 hb
                 have NB383_433 := nL BK383 hg
                 have NB433_383 := nG BK383 hg
                 replace BK383 := kB BK383 hb
                 have NB403_433 := nL BK403 hg
                 have NB433_403 := nG BK403 hg
                 replace BK403 := kB BK403 hb
                 have NB422_433 := nL BK422 hg
                 have NB433_422 := nG BK422 hg
                 replace BK422 := kB BK422 hb
                 clear hb hbox hg
                 refine hK.out _ _ ⟨cx BK422 0, cx BK422 1, cx BK422 2, cx BK422 3⟩ (fun hHeld => ?_)
                 clear hK K
                 refine norm_ (a' := ?_) ?_ ?_
                 rotate_left
                 ·
                  show Act.put _ (some 19) _ = _
                  simp only [Act.put, List.setIfInBounds_toArray, List.set_cons_zero, List.set_cons_succ, i64_w, i32_w]
                  rfl
                 refine one_ (i := 4) (N := some 114) #[true, true, true, true, true, false, false, false, true, false, false] rfl rfl (one_of HT_.out (by kernel_rfl)) (by decide) (fun K hK => ?_)
                 refine goes_ Try.func12 (by kernel_rfl) rfl #[.agg #[.slice Ao138 t413.length co138, .bool t416, .int .i64 t417, .slice Ao142 t418.length co142], .slice A146 (l1.drop (x16_114 : Int).toNat).length (c1 - x16_114.toNat)] (by rfl) rfl rfl (by (try simp only [List.map_toArray, List.map_cons, List.map_nil]); first | done | (rw [show (l1.drop (x16_114 : Int).toNat).length = (l1.length - x16_114.toNat) from List.length_drop] <;> rfl) | rfl | (simp only [List.length_drop, List.length_take]; rfl)) ?_
                 with_reducible refine (wire_Write.calls (fun k_ => ((k_ ≠ gb340 ∧ (k_ ≠ gb371 ∧ (k_ ≠ gb383 ∧ (k_ ≠ gb403 ∧ k_ ≠ gb422)))) ∧ k_ ≠ gb433)) _ _ t413 t416 t417 (fun k_ => ((k_ ≠ gb340 ∧ (k_ ≠ gb371 ∧ (k_ ≠ gb383 ∧ (k_ ≠ gb403 ∧ k_ ≠ gb422)))) ∧ k_ ≠ gb433)) _ _ t418 _ _ (l1.drop (x16_114 : Int).toNat) t424 t427 t428 t429 t432 _ ?side1 ?side2 ?side3 ?side4 A123.out).mono ?_
                 (case side1 => exact HO415.out)
                 (case side2 => exact HO420.out)
                 (case side3 => exact Kd.C_below HR423.out (bb HB))
                 (case side4 => exact HC423.out)
                 rintro e w148 ⟨v425, v430, rfl, ho0, ho1, hb⟩
                 refine ⟨_, rfl, ?_⟩
                 replace HO_372000 := vB HO_372000 hb
                 replace HO_372003 := vB HO_372003 hb
                 replace HO_384000 := vB HO_384000 hb
                 replace HO_384003 := vB HO_384003 hb
                 replace HO_404000 := vB HO_404000 hb
                 replace HO_404003 := vB HO_404003 hb
                 replace HO406 := vB HO406 hb
                 replace HO411 := vB HO411 hb
                 replace HO415 := vB HO415 hb
                 replace HO420 := vB HO420 hb
                 have HO426 := Aside0.mk (Kd.V_lower (Kd.V_mono (ok' := fun k_ => k_ ≠ gb340 ∧ k_ ≠ gb371 ∧ k_ ≠ gb383 ∧ k_ ≠ gb403 ∧ k_ ≠ gb422 ∧ k_ ≠ gb433) ho0 (fun k_ hk_ => ⟨oe hk_ (fun h => h.1.1) (fun h => h.1.1) (Kd.freshB (kk BK340) k_), oe hk_ (fun h => h.1.2.1) (fun h => h.1.2.1) (Kd.freshB (kk BK371) k_), oe hk_ (fun h => h.1.2.2.1) (fun h => h.1.2.2.1) (Kd.freshB (kk BK383) k_), oe hk_ (fun h => h.1.2.2.2.1) (fun h => h.1.2.2.2.1) (Kd.freshB (kk BK403) k_), oe hk_ (fun h => h.1.2.2.2.2) (fun h => h.1.2.2.2.2) (Kd.freshB (kk BK422) k_), oe hk_ (fun h => h.2) (fun h => h.2) (Kd.freshB (kk BK433) k_)⟩)) (below_size (bb HB)))
                 have HO431 := Aside0.mk (Kd.V_lower (Kd.V_mono (ok' := fun k_ => k_ ≠ gb340 ∧ k_ ≠ gb371 ∧ k_ ≠ gb383 ∧ k_ ≠ gb403 ∧ k_ ≠ gb422 ∧ k_ ≠ gb433) ho1 (fun k_ hk_ => ⟨oe hk_ (fun h => h.1.1) (fun h => h.1.1) (Kd.freshB (kk BK340) k_), oe hk_ (fun h => h.1.2.1) (fun h => h.1.2.1) (Kd.freshB (kk BK371) k_), oe hk_ (fun h => h.1.2.2.1) (fun h => h.1.2.2.1) (Kd.freshB (kk BK383) k_), oe hk_ (fun h => h.1.2.2.2.1) (fun h => h.1.2.2.2.1) (Kd.freshB (kk BK403) k_), oe hk_ (fun h => h.1.2.2.2.2) (fun h => h.1.2.2.2.2) (Kd.freshB (kk BK422) k_), oe hk_ (fun h => h.2) (fun h => h.2) (Kd.freshB (kk BK433) k_)⟩)) (below_size (bb HB)))
                 replace BK340 := kB BK340 hb
                 replace BK371 := kB BK371 hb
                 replace BK383 := kB BK383 hb
                 replace BK403 := kB BK403 hb
                 replace BK422 := kB BK422 hb
                 replace BK433 := kB BK433 hb
                 replace HB := hB HB hb
                 (try clear hb)
                 (try clear hb2)
                 (try clear hk)
                 (try clear hi)
                 (try clear ho0)
                 (try clear ho1)
                 refine hK.out _ _ ⟨cx BK422 0, cx BK422 1, cx BK422 2, cx BK422 3⟩ (fun hHeld => ?_)
                 clear hK K
                 refine norm_ (a' := ?_) ?_ ?_
                 rotate_left
                 ·
                  show Act.put _ (some 114) _ = _
                  simp only [Act.put, List.setIfInBounds_toArray, List.set_cons_zero, List.set_cons_succ, i64_w, i32_w]
                  rfl
                 refine pure_ (i := 5) (N := some 109) (v := ?_) (a' := ?_) #[true, true, true, true, true, true, false, false, true, false, false] rfl rfl (any_of HT_.out (by kernel_rfl)) (fun _ _ _ h => h) (Or.inl ⟨by rfl, ?_⟩) ?_ ?_
                 rotate_left
                 · intro w'; go_simp; with_reducible rfl
                 rotate_left
                 · simp only [Act.put, List.setIfInBounds_toArray, List.set_cons_zero, List.set_cons_succ, i64_w, i32_w]; rfl
                 refine pure_ (i := 6) (N := some 115) (v := ?_) (a' := ?_) #[true, true, true, true, true, true, true, false, true, false, false] rfl rfl (any_of HT_.out (by kernel_rfl)) (fun _ _ _ h => h) (Or.inl ⟨by rfl, ?_⟩) ?_ ?_
                 rotate_left
                 · intro w'; go_simp; with_reducible rfl
                 rotate_left
                 · simp only [Act.put, List.setIfInBounds_toArray, List.set_cons_zero, List.set_cons_succ, i64_w, i32_w]; rfl
                 refine pure_ (i := 7) (N := some 116) (v := ?_) (a' := ?_) #[true, true, true, true, true, true, true, true, true, false, false] rfl rfl (any_of HT_.out (by kernel_rfl)) (fun _ _ _ h => h) (Or.inl ⟨by rfl, ?_⟩) ?_ ?_
                 rotate_left
                 · intro w'; go_simp; with_reducible rfl
                 rotate_left
                 · simp only [Act.put, List.setIfInBounds_toArray, List.set_cons_zero, List.set_cons_succ, i64_w, i32_w]; rfl
                 exact norm_ (by simp only [putAll, Act.put, List.setIfInBounds_toArray, List.set_cons_zero, List.set_cons_succ]) (hCont (v425, v430, gb433) _ ⟨hHeld, (vM HO406), (vM HO411), (vM HO415), (vM HO420), (vM HO426), (vM HO431), (vM HO_372000), (vM HO_372003), (vM HO_384000), (vM HO_384003), (vM HO_404000), (vM HO_404003), (kk BK340), (kk BK371), (kk BK383), (kk BK403), (kk BK422), (kk BK433), GW433.out, GE433.out, NB340_433.out, NB433_340.out, NB371_433.out, NB433_371.out, NB383_433.out, NB433_383.out, NB403_433.out, NB433_403.out, NB422_433.out, NB433_422.out, (bb HB)⟩)
               clear HO_372000 HO_372003 HO_384000 HO_384003 HO_404000 HO_404003 HO406 HO411 HO415 HO420 BK340 BK371 BK383 BK403 BK422 HB
               rintro ⟨v425, v430, gb433⟩ w149 hS_
               dsimp only at hS_
               obtain ⟨hHeld, h0_, h1_, h2_, h3_, h4_, h5_, h6_, h7_, h8_, h9_, h10_, h11_, h12_, h13_, h14_, h15_, h16_, h17_, h18_, h19_, h20_, h21_, h22_, h23_, h24_, h25_, h26_, h27_, h28_, h29_, h30_⟩ := hS_
               have HO406 := Aside0.mk h0_
               have HO411 := Aside0.mk h1_
               have HO415 := Aside0.mk h2_
               have HO420 := Aside0.mk h3_
               have HO426 := Aside0.mk h4_
               have HO431 := Aside0.mk h5_
               have HO_372000 := Aside0.mk h6_
               have HO_372003 := Aside0.mk h7_
               have HO_384000 := Aside0.mk h8_
               have HO_384003 := Aside0.mk h9_
               have HO_404000 := Aside0.mk h10_
               have HO_404003 := Aside0.mk h11_
               have BK340 := Aside0.mk h12_
               have BK371 := Aside0.mk h13_
               have BK383 := Aside0.mk h14_
               have BK403 := Aside0.mk h15_
               have BK422 := Aside0.mk h16_
               have BK433 := Aside0.mk h17_
               have GW433 := Aside0.mk h18_
               have GE433 := Aside0.mk h19_
               have NB340_433 := Aside0.mk h20_
               have NB433_340 := Aside0.mk h21_
               have NB371_433 := Aside0.mk h22_
               have NB433_371 := Aside0.mk h23_
               have NB383_433 := Aside0.mk h24_
               have NB433_383 := Aside0.mk h25_
               have NB403_433 := Aside0.mk h26_
               have NB433_403 := Aside0.mk h27_
               have NB422_433 := Aside0.mk h28_
               have NB433_422 := Aside0.mk h29_
               have HB := Aside0.mk h30_
               clear h0_ h1_ h2_ h3_ h4_ h5_ h6_ h7_ h8_ h9_ h10_ h11_ h12_ h13_ h14_ h15_ h16_ h17_ h18_ h19_ h20_ h21_ h22_ h23_ h24_ h25_ h26_ h27_ h28_ h29_ h30_
               obtain ⟨Ao150, co150, eo150⟩ := Kd.V_slice HO426.out
               (first | subst eo150 | (injection eo150 with f1_ f2_ f3_; have f4_ := f1_.symm; have f5_ := f3_.symm; clear f1_ f2_ f3_; subst f4_; subst f5_))
               obtain ⟨Ao154, co154, eo154⟩ := Kd.V_slice HO431.out
               (first | subst eo154 | (injection eo154 with f1_ f2_ f3_; have f4_ := f1_.symm; have f5_ := f3_.symm; clear f1_ f2_ f3_; subst f4_; subst f5_))
               refine norm_ (a' := ?_) ?_ ?_
               rotate_left
               · simp only [putAll, Act.put, List.setIfInBounds_toArray, List.set_cons_zero, List.set_cons_succ]; rfl
               refine one_ (i := 9) (N := none) #[true, true, true, true, true, true, true, true, true, true, false] rfl rfl (one_of HT_.out (by kernel_rfl)) (by decide) (fun K hK => ?_)
               have hs151 : w149.cell? ⟨gb433, 0, none⟩ = some (.slice none 0 0) := cx BK433 0
               have hfs151 := blk_frozen BK433.out 0
               have hns151_0 := NB340_433.out
               have hns151_1 := NB371_433.out
               have hns151_2 := NB383_433.out
               have hns151_3 := NB403_433.out
               have hns151_4 := NB422_433.out
               have hms151_0 := NB433_340.out
               have hms151_1 := NB433_371.out
               have hms151_2 := NB433_383.out
               have hms151_3 := NB433_403.out
               have hms151_4 := NB433_422.out
               have hs152 : w149.cell? ⟨gb433, 1, none⟩ = some (.bool false) := cx BK433 1
               have hfs152 := blk_frozen BK433.out 1
               have hns152_0 := NB340_433.out
               have hns152_1 := NB371_433.out
               have hns152_2 := NB383_433.out
               have hns152_3 := NB403_433.out
               have hns152_4 := NB422_433.out
               have hms152_0 := NB433_340.out
               have hms152_1 := NB433_371.out
               have hms152_2 := NB433_383.out
               have hms152_3 := NB433_403.out
               have hms152_4 := NB433_422.out
               have hs153 : w149.cell? ⟨gb433, 2, none⟩ = some (.int .i64 0) := cx BK433 2
               have hfs153 := blk_frozen BK433.out 2
               have hns153_0 := NB340_433.out
               have hns153_1 := NB371_433.out
               have hns153_2 := NB383_433.out
               have hns153_3 := NB403_433.out
               have hns153_4 := NB422_433.out
               have hms153_0 := NB433_340.out
               have hms153_1 := NB433_371.out
               have hms153_2 := NB433_383.out
               have hms153_3 := NB433_403.out
               have hms153_4 := NB433_422.out
               have hs155 : w149.cell? ⟨gb433, 3, none⟩ = some (.slice none 0 0) := cx BK433 3
               have hfs155 := blk_frozen BK433.out 3
               have hns155_0 := NB340_433.out
               have hns155_1 := NB371_433.out
               have hns155_2 := NB383_433.out
               have hns155_3 := NB403_433.out
               have hns155_4 := NB422_433.out
               have hms155_0 := NB433_340.out
               have hms155_1 := NB433_371.out
               have hms155_2 := NB433_383.out
               have hms155_3 := NB433_403.out
               have hms155_4 := NB433_422.out
               refine skip_ (w1 := ?_) (by rfl) rfl ?_ ?_
               rotate_left
               · go_simp; rfl
               refine hK.out _ _ ⟨((cell_far (p := ⟨gb433, _, none⟩) NB422_433.out _).trans (((cell_far (p := ⟨gb433, _, none⟩) NB422_433.out _).trans (((cell_far (p := ⟨gb433, _, none⟩) NB422_433.out _).trans (((cell_far (p := ⟨gb433, _, none⟩) NB422_433.out _).trans (hHeld.1)))))))), ((cell_far (p := ⟨gb433, _, none⟩) NB422_433.out _).trans (((cell_far (p := ⟨gb433, _, none⟩) NB422_433.out _).trans (((cell_far (p := ⟨gb433, _, none⟩) NB422_433.out _).trans (((cell_far (p := ⟨gb433, _, none⟩) NB422_433.out _).trans (hHeld.2.1)))))))), ((cell_far (p := ⟨gb433, _, none⟩) NB422_433.out _).trans (((cell_far (p := ⟨gb433, _, none⟩) NB422_433.out _).trans (((cell_far (p := ⟨gb433, _, none⟩) NB422_433.out _).trans (((cell_far (p := ⟨gb433, _, none⟩) NB422_433.out _).trans (hHeld.2.2.1)))))))), ((cell_far (p := ⟨gb433, _, none⟩) NB422_433.out _).trans (((cell_far (p := ⟨gb433, _, none⟩) NB422_433.out _).trans (((cell_far (p := ⟨gb433, _, none⟩) NB422_433.out _).trans (((cell_far (p := ⟨gb433, _, none⟩) NB422_433.out _).trans (hHeld.2.2.2))))))))⟩ (fun hHeld => ?_)
               clear hK K
               refine pure_ (i := 10) (N := some 20) (v := ?_) (a' := ?_) #[true, true, true, true, true, true, true, true, true, true, true] rfl rfl (any_of HT_.out (by kernel_rfl)) (fun _ _ _ h => h) (Or.inl ⟨by rfl, ?_⟩) ?_ ?_
               rotate_left
               · intro w'; go_simp; with_reducible rfl
               rotate_left
               · simp only [Act.put, List.setIfInBounds_toArray, List.set_cons_zero, List.set_cons_succ, i64_w, i32_w]; rfl
               refine done_ (done_of HT_.out (by kernel_rfl)) ?_
               obtain ⟨w156, hw⟩ : ∃ w_, w_ = ((((w149.setCell ⟨gb433, 0, none⟩ (.slice Ao150 t424.length co150)).setCell ⟨gb433, 1, none⟩ (.bool t427)).setCell ⟨gb433, 2, none⟩ (.int .i64 t428)).setCell ⟨gb433, 3, none⟩ (.slice Ao154 t429.length co154)) := ⟨_, rfl⟩
               rw [← hw]
               replace HO_372000 := vS (fun k_ => k_ ≠ gb340 ∧ k_ ≠ gb371 ∧ k_ ≠ gb383 ∧ k_ ≠ gb403 ∧ k_ ≠ gb422 ∧ k_ ≠ gb433) HO_372000 hw
               replace HO_372003 := vS (fun k_ => k_ ≠ gb340 ∧ k_ ≠ gb371 ∧ k_ ≠ gb383 ∧ k_ ≠ gb403 ∧ k_ ≠ gb422 ∧ k_ ≠ gb433) HO_372003 hw
               replace HO_384000 := vS (fun k_ => k_ ≠ gb340 ∧ k_ ≠ gb371 ∧ k_ ≠ gb383 ∧ k_ ≠ gb403 ∧ k_ ≠ gb422 ∧ k_ ≠ gb433) HO_384000 hw
               replace HO_384003 := vS (fun k_ => k_ ≠ gb340 ∧ k_ ≠ gb371 ∧ k_ ≠ gb383 ∧ k_ ≠ gb403 ∧ k_ ≠ gb422 ∧ k_ ≠ gb433) HO_384003 hw
               replace HO_404000 := vS (fun k_ => k_ ≠ gb340 ∧ k_ ≠ gb371 ∧ k_ ≠ gb383 ∧ k_ ≠ gb403 ∧ k_ ≠ gb422 ∧ k_ ≠ gb433) HO_404000 hw
               replace HO_404003 := vS (fun k_ => k_ ≠ gb340 ∧ k_ ≠ gb371 ∧ k_ ≠ gb383 ∧ k_ ≠ gb403 ∧ k_ ≠ gb422 ∧ k_ ≠ gb433) HO_404003 hw
               replace HO406 := vS (fun k_ => k_ ≠ gb340 ∧ k_ ≠ gb371 ∧ k_ ≠ gb383 ∧ k_ ≠ gb403 ∧ k_ ≠ gb422 ∧ k_ ≠ gb433) HO406 hw
               replace HO411 := vS (fun k_ => k_ ≠ gb340 ∧ k_ ≠ gb371 ∧ k_ ≠ gb383 ∧ k_ ≠ gb403 ∧ k_ ≠ gb422 ∧ k_ ≠ gb433) HO411 hw
               replace HO415 := vS (fun k_ => k_ ≠ gb340 ∧ k_ ≠ gb371 ∧ k_ ≠ gb383 ∧ k_ ≠ gb403 ∧ k_ ≠ gb422 ∧ k_ ≠ gb433) HO415 hw
               replace HO420 := vS (fun k_ => k_ ≠ gb340 ∧ k_ ≠ gb371 ∧ k_ ≠ gb383 ∧ k_ ≠ gb403 ∧ k_ ≠ gb422 ∧ k_ ≠ gb433) HO420 hw
               replace HO426 := vS (fun k_ => k_ ≠ gb340 ∧ k_ ≠ gb371 ∧ k_ ≠ gb383 ∧ k_ ≠ gb403 ∧ k_ ≠ gb422 ∧ k_ ≠ gb433) HO426 hw
               replace HO431 := vS (fun k_ => k_ ≠ gb340 ∧ k_ ≠ gb371 ∧ k_ ≠ gb383 ∧ k_ ≠ gb403 ∧ k_ ≠ gb422 ∧ k_ ≠ gb433) HO431 hw
               replace BK340 := kS BK340 hw
               replace BK371 := kS BK371 hw
               replace BK383 := kS BK383 hw
               replace BK403 := kS BK403 hw
               replace BK422 := kS BK422 hw
               replace BK433 := kP4 BK433 hw
               replace HB := hS HB hw
               clear hw
               have hnb157 := NB340_371.out
               have hnc157 := NB371_340.out
               have hnb158 := NB340_383.out
               have hnc158 := NB383_340.out
               have hnb159 := NB340_403.out
               have hnc159 := NB403_340.out
               have hnb160 := NB340_422.out
               have hnc160 := NB422_340.out
               have hnb161 := NB340_433.out
               have hnc161 := NB433_340.out
               obtain ⟨hcz162_0, hcz162_1, hcz162_2, hcz162_3, hfz162_0, hfz162_1, hfz162_2, hfz162_3⟩ := bc4 BK340
               try go_wp2_with (first | ((with_reducible refine gate_callee (f := 16) rfl ?_); refine gL (some 119) rfl rfl Try.func16 (by kernel_rfl) rfl #[.agg #[.slice A0_0 l0_0.length c0_0, .bool a0_1, .int .i64 a0_2, .slice A0_3 l0_3.length c0_3]] rfl ?_; (with_reducible refine (pentroughlaw19_ours.calls (fun k_ => k_ < w.heap.size) _ _ l0_0 a0_1 a0_2 (fun k_ => k_ < w.heap.size) _ _ l0_3 t434 t437 t438 t439 _ ?side1 ?side2 A124.out).mono ?_); (case side1 => exact Kd.V_mk HC0_0.out (Kd.F_below (Kd.C_F (Kd.heap_int .u8) HR0_0.out) (bb HB))); (case side2 => exact Kd.V_mk HC0_3.out (Kd.F_below (Kd.C_F (Kd.heap_int .u8) HR0_3.out) (bb HB))); rintro e w163 ⟨v435, v440, rfl, ho0, ho1, hb⟩; refine ⟨_, rfl, ?_⟩; replace HO_372000 := vB HO_372000 hb; replace HO_372003 := vB HO_372003 hb; replace HO_384000 := vB HO_384000 hb; replace HO_384003 := vB HO_384003 hb; replace HO_404000 := vB HO_404000 hb; replace HO_404003 := vB HO_404003 hb; replace HO406 := vB HO406 hb; replace HO411 := vB HO411 hb; replace HO415 := vB HO415 hb; replace HO420 := vB HO420 hb; replace HO426 := vB HO426 hb; replace HO431 := vB HO431 hb; have HO436 := Aside0.mk (Kd.V_lower (Kd.V_mono (ok' := fun k_ => k_ ≠ gb340 ∧ k_ ≠ gb371 ∧ k_ ≠ gb383 ∧ k_ ≠ gb403 ∧ k_ ≠ gb422 ∧ k_ ≠ gb433) ho0 (fun k_ hk_ => ⟨oe hk_ (gw GW340) (gw GW340) (Kd.freshB (kk BK340) k_), oe hk_ (gw GW371) (gw GW371) (Kd.freshB (kk BK371) k_), oe hk_ (gw GW383) (gw GW383) (Kd.freshB (kk BK383) k_), oe hk_ (gw GW403) (gw GW403) (Kd.freshB (kk BK403) k_), oe hk_ (gw GW422) (gw GW422) (Kd.freshB (kk BK422) k_), oe hk_ (gw GW433) (gw GW433) (Kd.freshB (kk BK433) k_)⟩)) (below_size (bb HB))); have HO441 := Aside0.mk (Kd.V_lower (Kd.V_mono (ok' := fun k_ => k_ ≠ gb340 ∧ k_ ≠ gb371 ∧ k_ ≠ gb383 ∧ k_ ≠ gb403 ∧ k_ ≠ gb422 ∧ k_ ≠ gb433) ho1 (fun k_ hk_ => ⟨oe hk_ (gw GW340) (gw GW340) (Kd.freshB (kk BK340) k_), oe hk_ (gw GW371) (gw GW371) (Kd.freshB (kk BK371) k_), oe hk_ (gw GW383) (gw GW383) (Kd.freshB (kk BK383) k_), oe hk_ (gw GW403) (gw GW403) (Kd.freshB (kk BK403) k_), oe hk_ (gw GW422) (gw GW422) (Kd.freshB (kk BK422) k_), oe hk_ (gw GW433) (gw GW433) (Kd.freshB (kk BK433) k_)⟩)) (below_size (bb HB))); replace BK340 := kB BK340 hb; replace BK371 := kB BK371 hb; replace BK383 := kB BK383 hb; replace BK403 := kB BK403 hb; replace BK422 := kB BK422 hb; replace BK433 := kB BK433 hb; replace HB := hB HB hb; (try clear hb); (try clear hb2); (try clear hk); (try clear hi); (try clear ho0); (try clear ho1); obtain ⟨Ao164, co164, eo164⟩ := Kd.V_slice HO436.out; subst eo164; obtain ⟨Ao165, co165, eo165⟩ := Kd.V_slice HO441.out; subst eo165) | ((with_reducible refine gate_callee (f := 12) rfl ?_); refine gL (some 121) rfl rfl Try.func12 (by kernel_rfl) rfl #[.agg #[.slice Ao164 t434.length co164, .bool t437, .int .i64 t438, .slice Ao165 t439.length co165], .slice A1 l1.length c1] rfl ?_; (with_reducible refine (wire_Write.calls (fun k_ => (k_ ≠ gb340 ∧ (k_ ≠ gb371 ∧ (k_ ≠ gb383 ∧ (k_ ≠ gb403 ∧ (k_ ≠ gb422 ∧ k_ ≠ gb433)))))) _ _ t434 t437 t438 (fun k_ => (k_ ≠ gb340 ∧ (k_ ≠ gb371 ∧ (k_ ≠ gb383 ∧ (k_ ≠ gb403 ∧ (k_ ≠ gb422 ∧ k_ ≠ gb433)))))) _ _ t439 _ _ l1 t442 t445 t446 t447 t450 _ ?side1 ?side2 ?side3 ?side4 A125.out).mono ?_); (case side1 => exact HO436.out); (case side2 => exact HO441.out); (case side3 => exact Kd.C_below HR1.out (bb HB)); (case side4 => exact HC1.out); rintro e w166 ⟨v443, v448, rfl, ho0, ho1, hb⟩; refine ⟨_, rfl, ?_⟩; replace HO_372000 := vB HO_372000 hb; replace HO_372003 := vB HO_372003 hb; replace HO_384000 := vB HO_384000 hb; replace HO_384003 := vB HO_384003 hb; replace HO_404000 := vB HO_404000 hb; replace HO_404003 := vB HO_404003 hb; replace HO406 := vB HO406 hb; replace HO411 := vB HO411 hb; replace HO415 := vB HO415 hb; replace HO420 := vB HO420 hb; replace HO426 := vB HO426 hb; replace HO431 := vB HO431 hb; replace HO436 := vB HO436 hb; replace HO441 := vB HO441 hb; have HO444 := Aside0.mk (Kd.V_lower (Kd.V_mono (ok' := fun k_ => k_ ≠ gb340 ∧ k_ ≠ gb371 ∧ k_ ≠ gb383 ∧ k_ ≠ gb403 ∧ k_ ≠ gb422 ∧ k_ ≠ gb433) ho0 (fun k_ hk_ => ⟨oe hk_ (fun h => h.1) (fun h => h.1) (Kd.freshB (kk BK340) k_), oe hk_ (fun h => h.2.1) (fun h => h.2.1) (Kd.freshB (kk BK371) k_), oe hk_ (fun h => h.2.2.1) (fun h => h.2.2.1) (Kd.freshB (kk BK383) k_), oe hk_ (fun h => h.2.2.2.1) (fun h => h.2.2.2.1) (Kd.freshB (kk BK403) k_), oe hk_ (fun h => h.2.2.2.2.1) (fun h => h.2.2.2.2.1) (Kd.freshB (kk BK422) k_), oe hk_ (fun h => h.2.2.2.2.2) (fun h => h.2.2.2.2.2) (Kd.freshB (kk BK433) k_)⟩)) (below_size (bb HB))); have HO449 := Aside0.mk (Kd.V_lower (Kd.V_mono (ok' := fun k_ => k_ ≠ gb340 ∧ k_ ≠ gb371 ∧ k_ ≠ gb383 ∧ k_ ≠ gb403 ∧ k_ ≠ gb422 ∧ k_ ≠ gb433) ho1 (fun k_ hk_ => ⟨oe hk_ (fun h => h.1) (fun h => h.1) (Kd.freshB (kk BK340) k_), oe hk_ (fun h => h.2.1) (fun h => h.2.1) (Kd.freshB (kk BK371) k_), oe hk_ (fun h => h.2.2.1) (fun h => h.2.2.1) (Kd.freshB (kk BK383) k_), oe hk_ (fun h => h.2.2.2.1) (fun h => h.2.2.2.1) (Kd.freshB (kk BK403) k_), oe hk_ (fun h => h.2.2.2.2.1) (fun h => h.2.2.2.2.1) (Kd.freshB (kk BK422) k_), oe hk_ (fun h => h.2.2.2.2.2) (fun h => h.2.2.2.2.2) (Kd.freshB (kk BK433) k_)⟩)) (below_size (bb HB))); replace BK340 := kB BK340 hb; replace BK371 := kB BK371 hb; replace BK383 := kB BK383 hb; replace BK403 := kB BK403 hb; replace BK422 := kB BK422 hb; replace BK433 := kB BK433 hb; replace HB := hB HB hb; (try clear hb); (try clear hb2); (try clear hk); (try clear hi); (try clear ho0); (try clear ho1)) | ((with_reducible refine gate_dst (N := 21) rfl ?_); (try (refine gate_guard (by rfl) ?_; dsimp only)); refine box_event ?hg (N := 21) ?hd (cs := #[.slice none 0 0, .bool false, .int .i64 0, .slice none 0 0]) (t := 27) ?hr ?_; (case hd => rfl); (case hg => rfl); (case hr => first | (go_simp; done) | (go_simp; rfl)); intro gb451 hg w167 hbox hb; replace HO_372000 := vE HO_372000 hg hb; replace HO_372003 := vE HO_372003 hg hb; replace HO_384000 := vE HO_384000 hg hb; replace HO_384003 := vE HO_384003 hg hb; replace HO_404000 := vE HO_404000 hg hb; replace HO_404003 := vE HO_404003 hg hb; replace HO406 := vE HO406 hg hb; replace HO411 := vE HO411 hg hb; replace HO415 := vE HO415 hg hb; replace HO420 := vE HO420 hg hb; replace HO426 := vE HO426 hg hb; replace HO431 := vE HO431 hg hb; replace HO436 := vE HO436 hg hb; replace HO441 := vE HO441 hg hb; replace HO444 := vE HO444 hg hb; replace HO449 := vE HO449 hg hb; have BK451 := Aside0.mk hbox; have GW451 := gE HB hg; have GE451 := gE HB hg; replace HB := hB HB hb; have NB340_451 := nL BK340 hg; have NB451_340 := nG BK340 hg; replace BK340 := kB BK340 hb; have NB371_451 := nL BK371 hg; have NB451_371 := nG BK371 hg; replace BK371 := kB BK371 hb; have NB383_451 := nL BK383 hg; have NB451_383 := nG BK383 hg; replace BK383 := kB BK383 hb; have NB403_451 := nL BK403 hg; have NB451_403 := nG BK403 hg; replace BK403 := kB BK403 hb; have NB422_451 := nL BK422 hg; have NB451_422 := nG BK422 hg; replace BK422 := kB BK422 hb; have NB433_451 := nL BK433 hg; have NB451_433 := nG BK433 hg; replace BK433 := kB BK433 hb; clear hb hbox hg; obtain ⟨Ao168, co168, eo168⟩ := Kd.V_slice HO444.out; subst eo168; have hnb169 := NB451_340.out; have hnc169 := NB340_451.out; have hnb170 := NB451_371.out; have hnc170 := NB371_451.out; have hnb171 := NB451_383.out; have hnc171 := NB383_451.out; have hnb172 := NB451_403.out; have hnc172 := NB403_451.out; have hnb173 := NB451_422.out; have hnc173 := NB422_451.out; have hnb174 := NB451_433.out; have hnc174 := NB433_451.out; obtain ⟨hcz175_0, hcz175_1, hcz175_2, hcz175_3, hfz175_0, hfz175_1, hfz175_2, hfz175_3⟩ := bc4 BK451; obtain ⟨Ao176, co176, eo176⟩ := Kd.V_slice HO449.out; subst eo176) | ((with_reducible refine gate_store (t := 27) (p := 21) rfl ?_); refine store_event (t := 27) (p := 21) (v := ?vo_w177) (w1 := ((((w167.setCell ⟨gb451, 0, none⟩ (.slice Ao168 t442.length co168)).setCell ⟨gb451, 1, none⟩ (.bool t445)).setCell ⟨gb451, 2, none⟩ (.int .i64 t446)).setCell ⟨gb451, 3, none⟩ (.slice Ao176 t447.length co176))) ?hg ?ho ?hn ?hr ?_; (case ho => rfl); (case hg => rfl); (case hn => rfl); (case hr => first | (go_simp; done) | (go_simp; rfl)); intro w177 hw; replace HO_372000 := vS (fun k_ => k_ ≠ gb340 ∧ k_ ≠ gb371 ∧ k_ ≠ gb383 ∧ k_ ≠ gb403 ∧ k_ ≠ gb422 ∧ k_ ≠ gb433 ∧ k_ ≠ gb451) HO_372000 hw; replace HO_372003 := vS (fun k_ => k_ ≠ gb340 ∧ k_ ≠ gb371 ∧ k_ ≠ gb383 ∧ k_ ≠ gb403 ∧ k_ ≠ gb422 ∧ k_ ≠ gb433 ∧ k_ ≠ gb451) HO_372003 hw; replace HO_384000 := vS (fun k_ => k_ ≠ gb340 ∧ k_ ≠ gb371 ∧ k_ ≠ gb383 ∧ k_ ≠ gb403 ∧ k_ ≠ gb422 ∧ k_ ≠ gb433 ∧ k_ ≠ gb451) HO_384000 hw; replace HO_384003 := vS (fun k_ => k_ ≠ gb340 ∧ k_ ≠ gb371 ∧ k_ ≠ gb383 ∧ k_ ≠ gb403 ∧ k_ ≠ gb422 ∧ k_ ≠ gb433 ∧ k_ ≠ gb451) HO_384003 hw; replace HO_404000 := vS (fun k_ => k_ ≠ gb340 ∧ k_ ≠ gb371 ∧ k_ ≠ gb383 ∧ k_ ≠ gb403 ∧ k_ ≠ gb422 ∧ k_ ≠ gb433 ∧ k_ ≠ gb451) HO_404000 hw; replace HO_404003 := vS (fun k_ => k_ ≠ gb340 ∧ k_ ≠ gb371 ∧ k_ ≠ gb383 ∧ k_ ≠ gb403 ∧ k_ ≠ gb422 ∧ k_ ≠ gb433 ∧ k_ ≠ gb451) HO_404003 hw; replace HO406 := vS (fun k_ => k_ ≠ gb340 ∧ k_ ≠ gb371 ∧ k_ ≠ gb383 ∧ k_ ≠ gb403 ∧ k_ ≠ gb422 ∧ k_ ≠ gb433 ∧ k_ ≠ gb451) HO406 hw; replace HO411 := vS (fun k_ => k_ ≠ gb340 ∧ k_ ≠ gb371 ∧ k_ ≠ gb383 ∧ k_ ≠ gb403 ∧ k_ ≠ gb422 ∧ k_ ≠ gb433 ∧ k_ ≠ gb451) HO411 hw; replace HO415 := vS (fun k_ => k_ ≠ gb340 ∧ k_ ≠ gb371 ∧ k_ ≠ gb383 ∧ k_ ≠ gb403 ∧ k_ ≠ gb422 ∧ k_ ≠ gb433 ∧ k_ ≠ gb451) HO415 hw; replace HO420 := vS (fun k_ => k_ ≠ gb340 ∧ k_ ≠ gb371 ∧ k_ ≠ gb383 ∧ k_ ≠ gb403 ∧ k_ ≠ gb422 ∧ k_ ≠ gb433 ∧ k_ ≠ gb451) HO420 hw; replace HO426 := vS (fun k_ => k_ ≠ gb340 ∧ k_ ≠ gb371 ∧ k_ ≠ gb383 ∧ k_ ≠ gb403 ∧ k_ ≠ gb422 ∧ k_ ≠ gb433 ∧ k_ ≠ gb451) HO426 hw; replace HO431 := vS (fun k_ => k_ ≠ gb340 ∧ k_ ≠ gb371 ∧ k_ ≠ gb383 ∧ k_ ≠ gb403 ∧ k_ ≠ gb422 ∧ k_ ≠ gb433 ∧ k_ ≠ gb451) HO431 hw; replace HO436 := vS (fun k_ => k_ ≠ gb340 ∧ k_ ≠ gb371 ∧ k_ ≠ gb383 ∧ k_ ≠ gb403 ∧ k_ ≠ gb422 ∧ k_ ≠ gb433 ∧ k_ ≠ gb451) HO436 hw; replace HO441 := vS (fun k_ => k_ ≠ gb340 ∧ k_ ≠ gb371 ∧ k_ ≠ gb383 ∧ k_ ≠ gb403 ∧ k_ ≠ gb422 ∧ k_ ≠ gb433 ∧ k_ ≠ gb451) HO441 hw; replace HO444 := vS (fun k_ => k_ ≠ gb340 ∧ k_ ≠ gb371 ∧ k_ ≠ gb383 ∧ k_ ≠ gb403 ∧ k_ ≠ gb422 ∧ k_ ≠ gb433 ∧ k_ ≠ gb451) HO444 hw; replace HO449 := vS (fun k_ => k_ ≠ gb340 ∧ k_ ≠ gb371 ∧ k_ ≠ gb383 ∧ k_ ≠ gb403 ∧ k_ ≠ gb422 ∧ k_ ≠ gb433 ∧ k_ ≠ gb451) HO449 hw; replace BK340 := kS BK340 hw; replace BK371 := kS BK371 hw; replace BK383 := kS BK383 hw; replace BK403 := kS BK403 hw; replace BK422 := kS BK422 hw; replace BK433 := kS BK433 hw; replace BK451 := kP4 BK451 hw; replace HB : Aside0 (Below w.heap.size w w177) := ⟨(by rw [hw]; exact (bb HB))⟩; clear hw; have hnb178 := NB422_371.out; have hnc178 := NB371_422.out; have hnb179 := NB422_383.out; have hnc179 := NB383_422.out; have hnb180 := NB422_403.out; have hnc180 := NB403_422.out; have hnb181 := NB422_433.out; have hnc181 := NB433_422.out; obtain ⟨hcz182_0, hcz182_1, hcz182_2, hcz182_3, hfz182_0, hfz182_1, hfz182_2, hfz182_3⟩ := bc4 BK422; have hcv183 := v_string (P := Try.prog) Try.underlying25 Try.underlying5 Try.underlying9 HO420.out; obtain ⟨hcz184_0, hcz184_1, hcz184_2, hcz184_3, hfz184_0, hfz184_1, hfz184_2, hfz184_3⟩ := bc4 BK451; have hcv185 := v_string (P := Try.prog) Try.underlying25 Try.underlying5 Try.underlying9 HO449.out))
               go_ret
               exact ⟨by first | rfl | (simp [errW_none, errW_some] <;> rfl) | (simp [*, errW_none, errW_some] <;> rfl), by repeat (first | (with_reducible first | exact HB.out | apply below_alloc | apply pw_below_drewN | apply below_drew1 | refine below_set ?_ GE340.out | refine below_set ?_ GE371.out | refine below_set ?_ GE383.out | refine below_set ?_ GE403.out | refine below_set ?_ GE422.out | refine below_set ?_ GE433.out | refine below_set ?_ GE451.out) | exact HB.out)⟩
              ·
               rw [if_neg c129] at H
               cases H; exact absurd HRT.out (by decide)
             ·
              rw [if_neg c128] at H
              cases H; exact absurd HRT.out (by decide)
            ·
             replace c127 := Bool.eq_false_iff.mpr c127
             subst c127
             rw [if_neg nf] at H
             cases H; exact absurd HRT.out (by decide)
           ·
            rw [if_neg c126] at H
            have c126b0 : decide (t421 < x16_114) = false := decide_eq_false c126
            clear c126
            by_cases c186 : t341 = true
            ·
             subst c186
             rw [if_pos rfl] at H
             by_cases c187 : (wrap64 (t421 + t432)) = t450
             ·
              rw [if_pos c187] at H
              have c187b0 : ((wrap64 (t421 + t432)) == t450) = true := beq_iff_eq.mpr c187
              have c187b1 : ((wrap64 (t421 + t432)) != t450) = false := bne_eq_false_iff_eq.mpr c187
              clear c187
              by_cases c188 : (strOfNums t429).toList = (strOfNums t447).toList
              ·
               rw [if_pos c188] at H
               have c188b0 : ((strOfNums t429).toList == (strOfNums t447).toList) = true := beq_iff_eq.mpr c188
               have c188b1 : ((strOfNums t429).toList != (strOfNums t447).toList) = false := bne_eq_false_iff_eq.mpr c188
               clear c188
               obtain rfl := Option.some.inj H
               try go_wp2
               replace HO_372000 := Aside0.mk (Kd.V_drew HO_372000.out)
               replace HO_372003 := Aside0.mk (Kd.V_drew HO_372003.out)
               replace HO_384000 := Aside0.mk (Kd.V_drew HO_384000.out)
               replace HO_384003 := Aside0.mk (Kd.V_drew HO_384003.out)
               replace HO_404000 := Aside0.mk (Kd.V_drew HO_404000.out)
               replace HO_404003 := Aside0.mk (Kd.V_drew HO_404003.out)
               replace BK340 := Aside0.mk (blk_drew BK340.out)
               replace BK371 := Aside0.mk (blk_drew BK371.out)
               replace BK383 := Aside0.mk (blk_drew BK383.out)
               replace BK403 := Aside0.mk (blk_drew BK403.out)
               replace HB := Aside0.mk (below_drew1 HB.out)
               obtain ⟨i0190, hi0190, _, hsz190, _⟩ := info_parts info5
               obtain ⟨hcut190, hA190, hC190⟩ := print_take_of (P := Try.prog) (Value.int .u8) 0 25 5 .i64 Try.underlying25 hi0190 hsz190 A1 c1 l1 x16_114 (of_decide_eq_true (by first | (with_reducible assumption) | assumption)) (of_decide_eq_true (by first | (with_reducible assumption) | assumption)) HC1.out
               have HR412 := Aside0.mk (Kd.C_of_reads (h1 := fun _ => rfl) (hA190 _ (Kd.reads_of_C HR1.out)))
               have HC412 := Aside0.mk hC190
               clear hA190 hC190 hi0190 hsz190
               refine start_ (n := 12) (S := fun w' => w'.cell? ⟨gb340, 0, none⟩ = some (.slice A0_0 l0_0.length c0_0) ∧ w'.cell? ⟨gb340, 1, none⟩ = some (.bool a0_1) ∧ w'.cell? ⟨gb340, 2, none⟩ = some (.int .i64 a0_2) ∧ w'.cell? ⟨gb340, 3, none⟩ = some (.slice A0_3 l0_3.length c0_3)) (ds := []) #[false, false, false, false, false, false, false, false, false, false, false, false] (by kernel_rfl) rfl rfl ⟨cx BK340 0, cx BK340 1, cx BK340 2, cx BK340 3⟩ (fun hHeld => ?_); refine with_tabW pentroughlaw19_WireParts.tab12 pentroughlaw19_WireParts.bits12 (fun HT_ HW_ => ?_)
               generalize wc.drew = w189 at HO_372000 HO_372003 HO_384000 HO_384003 HO_404000 HO_404003 BK340 BK371 BK383 BK403 HB HR412 hHeld ⊢
               refine pure_ (i := 2) (N := some 103) (v := ?_) (a' := ?_) #[false, false, true, false, false, false, false, false, false, false, false, false] rfl rfl (any_of HT_.out (by kernel_rfl)) (fun _ _ _ h => h) (Or.inl ⟨by rfl, ?_⟩) ?_ ?_
               rotate_left
               · intro w'; go_simp; with_reducible rfl
               rotate_left
               · simp only [Act.put, List.setIfInBounds_toArray, List.set_cons_zero, List.set_cons_succ, i64_w, i32_w]; rfl
               refine pure_ (i := 3) (N := some 104) (v := ?_) (a' := ?_) #[false, false, true, true, false, false, false, false, false, false, false, false] rfl rfl (any_of HT_.out (by kernel_rfl)) (fun _ _ _ h => h) (Or.inl ⟨by rfl, ?_⟩) ?_ ?_
               rotate_left
               · intro w'; go_simp; with_reducible rfl
               rotate_left
               · simp only [Act.put, List.setIfInBounds_toArray, List.set_cons_zero, List.set_cons_succ, i64_w, i32_w]; rfl
               refine pure_ (i := 4) (N := some 105) (v := ?_) (a' := ?_) #[false, false, true, true, true, false, false, false, false, false, false, false] rfl rfl (any_of HT_.out (by kernel_rfl)) (fun _ _ _ h => h) (Or.inl ⟨by rfl, ?_⟩) ?_ ?_
               rotate_left
               · intro w'; go_simp; with_reducible rfl
               rotate_left
               · simp only [Act.put, List.setIfInBounds_toArray, List.set_cons_zero, List.set_cons_succ, i64_w, i32_w]; rfl
               refine take_ (i := 0) (N := some 101) (v := ?_) (a' := ?_) #[true, false, true, true, true, false, false, false, false, false, false, false] rfl rfl (take_ofW HT_.out HW_.out (by kernel_rfl)) (fun _ _ _ h => h) (Or.inl ⟨by rfl, ?_⟩) hHeld ?_ ?_
               rotate_left
               · rintro w' ⟨s0, s1, s2, s3⟩; go_simp; with_reducible rfl
               rotate_left
               · simp only [Act.put, List.setIfInBounds_toArray, List.set_cons_zero, List.set_cons_succ, i64_w, i32_w]; rfl
               refine join_ (σ := Value × Value × Value × Value × Nat) 2 #[true, true, true, true, true, true, true, true, true, true, false, false] (fun s_ => [(102, .agg #[s_.1, .bool t407, .int .i64 t408, s_.2.1]), (106, .tuple #[.agg #[s_.2.2.1, .bool t416, .int .i64 t417, s_.2.2.2.1], .int .i64 t421]), (17, .pointer (some ⟨s_.2.2.2.2, 0, none⟩)), (100, .tuple #[.agg #[s_.2.2.1, .bool t416, .int .i64 t417, s_.2.2.2.1], .int .i64 t421]), (107, .agg #[s_.2.2.1, .bool t416, .int .i64 t417, s_.2.2.2.1]), (108, .int .i64 t421)]) (fun s_ w' => (w'.cell? ⟨gb340, 0, none⟩ = some (.slice A0_0 l0_0.length c0_0) ∧ w'.cell? ⟨gb340, 1, none⟩ = some (.bool a0_1) ∧ w'.cell? ⟨gb340, 2, none⟩ = some (.int .i64 a0_2) ∧ w'.cell? ⟨gb340, 3, none⟩ = some (.slice A0_3 l0_3.length c0_3)) ∧ (Kd.V (Kd.int .u8) 5 w' w.heap.size (fun k_ => k_ ≠ gb340 ∧ k_ ≠ gb371 ∧ k_ ≠ gb383 ∧ k_ ≠ gb403 ∧ k_ ≠ s_.2.2.2.2) s_.1 t404) ∧ (Kd.V (Kd.int .u8) 5 w' w.heap.size (fun k_ => k_ ≠ gb340 ∧ k_ ≠ gb371 ∧ k_ ≠ gb383 ∧ k_ ≠ gb403 ∧ k_ ≠ s_.2.2.2.2) s_.2.1 t409) ∧ (Kd.V (Kd.int .u8) 5 w' w.heap.size (fun k_ => k_ ≠ gb340 ∧ k_ ≠ gb371 ∧ k_ ≠ gb383 ∧ k_ ≠ gb403 ∧ k_ ≠ s_.2.2.2.2) s_.2.2.1 t413) ∧ (Kd.V (Kd.int .u8) 5 w' w.heap.size (fun k_ => k_ ≠ gb340 ∧ k_ ≠ gb371 ∧ k_ ≠ gb383 ∧ k_ ≠ gb403 ∧ k_ ≠ s_.2.2.2.2) s_.2.2.2.1 t418) ∧ (Kd.V (Kd.int .u8) 5 w' w.heap.size (fun k_ => k_ ≠ gb340 ∧ k_ ≠ gb371 ∧ k_ ≠ gb383 ∧ k_ ≠ gb403 ∧ k_ ≠ s_.2.2.2.2) (.slice Ao70 t360.length co70) t360) ∧ (Kd.V (Kd.int .u8) 5 w' w.heap.size (fun k_ => k_ ≠ gb340 ∧ k_ ≠ gb371 ∧ k_ ≠ gb383 ∧ k_ ≠ gb403 ∧ k_ ≠ s_.2.2.2.2) (.slice Ao73 t365.length co73) t365) ∧ (Kd.V (Kd.int .u8) 5 w' w.heap.size (fun k_ => k_ ≠ gb340 ∧ k_ ≠ gb371 ∧ k_ ≠ gb383 ∧ k_ ≠ gb403 ∧ k_ ≠ s_.2.2.2.2) (.slice Ao78 t372.length co78) t372) ∧ (Kd.V (Kd.int .u8) 5 w' w.heap.size (fun k_ => k_ ≠ gb340 ∧ k_ ≠ gb371 ∧ k_ ≠ gb383 ∧ k_ ≠ gb403 ∧ k_ ≠ s_.2.2.2.2) (.slice Ao82 t377.length co82) t377) ∧ (Kd.V (Kd.int .u8) 5 w' w.heap.size (fun k_ => k_ ≠ gb340 ∧ k_ ≠ gb371 ∧ k_ ≠ gb383 ∧ k_ ≠ gb403 ∧ k_ ≠ s_.2.2.2.2) (.slice Ao90 t392.length co90) t392) ∧ (Kd.V (Kd.int .u8) 5 w' w.heap.size (fun k_ => k_ ≠ gb340 ∧ k_ ≠ gb371 ∧ k_ ≠ gb383 ∧ k_ ≠ gb403 ∧ k_ ≠ s_.2.2.2.2) (.slice Ao95 t397.length co95) t397) ∧ (w'.heap[gb340]? = some (.cells #[.slice A0_0 l0_0.length c0_0, .bool a0_1, .int .i64 a0_2, .slice A0_3 l0_3.length c0_3] 36 (0, 0))) ∧ (w'.heap[gb371]? = some (.cells #[.slice Ao70 t360.length co70, .bool t363, .int .i64 t364, .slice Ao73 t365.length co73] 27 (0, 0))) ∧ (w'.heap[gb383]? = some (.cells #[.slice Ao78 t372.length co78, .bool t375, .int .i64 t376, .slice Ao82 t377.length co82] 27 (0, 0))) ∧ (w'.heap[gb403]? = some (.cells #[.slice Ao90 t392.length co90, .bool t395, .int .i64 t396, .slice Ao95 t397.length co95] 27 (0, 0))) ∧ (w'.heap[s_.2.2.2.2]? = some (.cells #[.slice none 0 0, .bool false, .int .i64 0, .slice none 0 0] 27 (0, 0))) ∧ (w.heap.size ≤ s_.2.2.2.2) ∧ (w.heap.size ≤ s_.2.2.2.2) ∧ (gb340 ≠ s_.2.2.2.2) ∧ (s_.2.2.2.2 ≠ gb340) ∧ (gb371 ≠ s_.2.2.2.2) ∧ (s_.2.2.2.2 ≠ gb371) ∧ (gb383 ≠ s_.2.2.2.2) ∧ (s_.2.2.2.2 ≠ gb383) ∧ (gb403 ≠ s_.2.2.2.2) ∧ (s_.2.2.2.2 ≠ gb403) ∧ (Below w.heap.size w w')) ?_ ?_
               rotate_left
               ·
                intro hCont
                refine two_ (i := 1) (j := 9) (Ni := some 102) (Nj := some 17) #[true, true, true, true, true, false, false, false, false, false, false, false] #[true, false, true, true, true, false, false, false, false, true, false, false] rfl rfl rfl rfl (two_of HT_.out (by kernel_rfl)) (by decide) (by decide) (fun K hK => ?_) (fun K hK => ?_)
                ·
                 skip
                 refine gs Try.func16 (by kernel_rfl) rfl #[.agg #[.slice A0_0 l0_0.length c0_0, .bool a0_1, .int .i64 a0_2, .slice A0_3 l0_3.length c0_3]] (by rfl) rfl rfl ?_
                 with_reducible refine (pentroughlaw19_ours.calls (fun k_ => k_ < w.heap.size) _ _ l0_0 a0_1 a0_2 (fun k_ => k_ < w.heap.size) _ _ l0_3 t404 t407 t408 t409 _ ?side1 ?side2 A117.out).mono ?_
                 (case side1 => exact Kd.V_mk HC0_0.out (Kd.F_below (Kd.C_F (Kd.heap_int .u8) HR0_0.out) (bb HB)))
                 (case side2 => exact Kd.V_mk HC0_3.out (Kd.F_below (Kd.C_F (Kd.heap_int .u8) HR0_3.out) (bb HB)))
                 rintro e w191 ⟨v405, v410, rfl, ho0, ho1, hb⟩
                 refine ⟨_, rfl, ?_⟩
                 replace HO_372000 := vB HO_372000 hb
                 replace HO_372003 := vB HO_372003 hb
                 replace HO_384000 := vB HO_384000 hb
                 replace HO_384003 := vB HO_384003 hb
                 replace HO_404000 := vB HO_404000 hb
                 replace HO_404003 := vB HO_404003 hb
                 have HO406 := Aside0.mk (Kd.V_lower (Kd.V_mono (ok' := fun k_ => k_ ≠ gb340 ∧ k_ ≠ gb371 ∧ k_ ≠ gb383 ∧ k_ ≠ gb403) ho0 (fun k_ hk_ => ⟨oe hk_ (gw GW340) (gw GW340) (Kd.freshB (kk BK340) k_), oe hk_ (gw GW371) (gw GW371) (Kd.freshB (kk BK371) k_), oe hk_ (gw GW383) (gw GW383) (Kd.freshB (kk BK383) k_), oe hk_ (gw GW403) (gw GW403) (Kd.freshB (kk BK403) k_)⟩)) (below_size (bb HB)))
                 have HO411 := Aside0.mk (Kd.V_lower (Kd.V_mono (ok' := fun k_ => k_ ≠ gb340 ∧ k_ ≠ gb371 ∧ k_ ≠ gb383 ∧ k_ ≠ gb403) ho1 (fun k_ hk_ => ⟨oe hk_ (gw GW340) (gw GW340) (Kd.freshB (kk BK340) k_), oe hk_ (gw GW371) (gw GW371) (Kd.freshB (kk BK371) k_), oe hk_ (gw GW383) (gw GW383) (Kd.freshB (kk BK383) k_), oe hk_ (gw GW403) (gw GW403) (Kd.freshB (kk BK403) k_)⟩)) (below_size (bb HB)))
                 replace BK340 := kB BK340 hb
                 replace BK371 := kB BK371 hb
                 replace BK383 := kB BK383 hb
                 replace BK403 := kB BK403 hb
                 replace HB := hB HB hb
                 (try clear hb)
                 (try clear hb2)
                 (try clear hk)
                 (try clear hi)
                 (try clear ho0)
                 (try clear ho1)
                 obtain ⟨Ao192, co192, eo192⟩ := Kd.V_slice HO406.out
                 (first | subst eo192 | (injection eo192 with f1_ f2_ f3_; have f4_ := f1_.symm; have f5_ := f3_.symm; clear f1_ f2_ f3_; subst f4_; subst f5_))
                 obtain ⟨Ao193, co193, eo193⟩ := Kd.V_slice HO411.out
                 (first | subst eo193 | (injection eo193 with f1_ f2_ f3_; have f4_ := f1_.symm; have f5_ := f3_.symm; clear f1_ f2_ f3_; subst f4_; subst f5_))
                 refine hK.out _ _ ⟨cx BK340 0, cx BK340 1, cx BK340 2, cx BK340 3⟩ (fun hHeld => ?_)
                 clear hK K
                 refine norm_ (a' := ?_) ?_ ?_
                 rotate_left
                 ·
                  show Act.put _ (some 102) _ = _
                  simp only [Act.put, List.setIfInBounds_toArray, List.set_cons_zero, List.set_cons_succ, i64_w, i32_w]
                  rfl
                 refine two_ (i := 5) (j := 9) (Ni := some 106) (Nj := some 17) #[true, true, true, true, true, true, false, false, false, false, false, false] #[true, true, true, true, true, false, false, false, false, true, false, false] rfl rfl rfl rfl (two_of HT_.out (by kernel_rfl)) (by decide) (by decide) (fun K hK => ?_) (fun K hK => ?_)
                 ·
                  skip
                  refine goes_ Try.func12 (by kernel_rfl) rfl #[.agg #[.slice Ao192 t404.length co192, .bool t407, .int .i64 t408, .slice Ao193 t409.length co193], .slice A1 (l1.take (x16_114 : Int).toNat).length c1] (by rfl) rfl rfl (by (try simp only [List.map_toArray, List.map_cons, List.map_nil]); first | done | (rw [show (l1.take (x16_114 : Int).toNat).length = x16_114.toNat from (by rw [List.length_take]; have h_ : (x16_114 : Int) ≤ (l1.length : Int) := of_decide_eq_true (by first | (with_reducible assumption) | assumption); omega)] <;> rfl) | rfl | (simp only [List.length_drop, List.length_take]; rfl)) ?_
                  with_reducible refine (wire_Write.calls (fun k_ => (k_ ≠ gb340 ∧ (k_ ≠ gb371 ∧ (k_ ≠ gb383 ∧ k_ ≠ gb403)))) _ _ t404 t407 t408 (fun k_ => (k_ ≠ gb340 ∧ (k_ ≠ gb371 ∧ (k_ ≠ gb383 ∧ k_ ≠ gb403)))) _ _ t409 _ _ (l1.take (x16_114 : Int).toNat) t413 t416 t417 t418 t421 _ ?side1 ?side2 ?side3 ?side4 A120.out).mono ?_
                  (case side1 => exact HO406.out)
                  (case side2 => exact HO411.out)
                  (case side3 => exact Kd.C_below HR412.out (bb HB))
                  (case side4 => exact HC412.out)
                  rintro e w194 ⟨v414, v419, rfl, ho0, ho1, hb⟩
                  refine ⟨_, rfl, ?_⟩
                  replace HO_372000 := vB HO_372000 hb
                  replace HO_372003 := vB HO_372003 hb
                  replace HO_384000 := vB HO_384000 hb
                  replace HO_384003 := vB HO_384003 hb
                  replace HO_404000 := vB HO_404000 hb
                  replace HO_404003 := vB HO_404003 hb
                  replace HO406 := vB HO406 hb
                  replace HO411 := vB HO411 hb
                  have HO415 := Aside0.mk (Kd.V_lower (Kd.V_mono (ok' := fun k_ => k_ ≠ gb340 ∧ k_ ≠ gb371 ∧ k_ ≠ gb383 ∧ k_ ≠ gb403) ho0 (fun k_ hk_ => ⟨oe hk_ (fun h => h.1) (fun h => h.1) (Kd.freshB (kk BK340) k_), oe hk_ (fun h => h.2.1) (fun h => h.2.1) (Kd.freshB (kk BK371) k_), oe hk_ (fun h => h.2.2.1) (fun h => h.2.2.1) (Kd.freshB (kk BK383) k_), oe hk_ (fun h => h.2.2.2) (fun h => h.2.2.2) (Kd.freshB (kk BK403) k_)⟩)) (below_size (bb HB)))
                  have HO420 := Aside0.mk (Kd.V_lower (Kd.V_mono (ok' := fun k_ => k_ ≠ gb340 ∧ k_ ≠ gb371 ∧ k_ ≠ gb383 ∧ k_ ≠ gb403) ho1 (fun k_ hk_ => ⟨oe hk_ (fun h => h.1) (fun h => h.1) (Kd.freshB (kk BK340) k_), oe hk_ (fun h => h.2.1) (fun h => h.2.1) (Kd.freshB (kk BK371) k_), oe hk_ (fun h => h.2.2.1) (fun h => h.2.2.1) (Kd.freshB (kk BK383) k_), oe hk_ (fun h => h.2.2.2) (fun h => h.2.2.2) (Kd.freshB (kk BK403) k_)⟩)) (below_size (bb HB)))
                  replace BK340 := kB BK340 hb
                  replace BK371 := kB BK371 hb
                  replace BK383 := kB BK383 hb
                  replace BK403 := kB BK403 hb
                  replace HB := hB HB hb
                  (try clear hb)
                  (try clear hb2)
                  (try clear hk)
                  (try clear hi)
                  (try clear ho0)
                  (try clear ho1)
                  refine hK.out _ _ ⟨cx BK340 0, cx BK340 1, cx BK340 2, cx BK340 3⟩ (fun hHeld => ?_)
                  clear hK K
                  refine norm_ (a' := ?_) ?_ ?_
                  rotate_left
                  ·
                   show Act.put _ (some 106) _ = _
                   simp only [Act.put, List.setIfInBounds_toArray, List.set_cons_zero, List.set_cons_succ, i64_w, i32_w]
                   rfl
                  refine pure_ (i := 6) (N := some 100) (v := ?_) (a' := ?_) #[true, true, true, true, true, true, true, false, false, false, false, false] rfl rfl (any_of HT_.out (by kernel_rfl)) (fun _ _ _ h => h) (Or.inl ⟨by rfl, ?_⟩) ?_ ?_
                  rotate_left
                  · intro w'; go_simp; with_reducible rfl
                  rotate_left
                  · simp only [Act.put, List.setIfInBounds_toArray, List.set_cons_zero, List.set_cons_succ, i64_w, i32_w]; rfl
                  refine pure_ (i := 7) (N := some 107) (v := ?_) (a' := ?_) #[true, true, true, true, true, true, true, true, false, false, false, false] rfl rfl (any_of HT_.out (by kernel_rfl)) (fun _ _ _ h => h) (Or.inl ⟨by rfl, ?_⟩) ?_ ?_
                  rotate_left
                  · intro w'; go_simp; with_reducible rfl
                  rotate_left
                  · simp only [Act.put, List.setIfInBounds_toArray, List.set_cons_zero, List.set_cons_succ, i64_w, i32_w]; rfl
                  refine pure_ (i := 8) (N := some 108) (v := ?_) (a' := ?_) #[true, true, true, true, true, true, true, true, true, false, false, false] rfl rfl (any_of HT_.out (by kernel_rfl)) (fun _ _ _ h => h) (Or.inl ⟨by rfl, ?_⟩) ?_ ?_
                  rotate_left
                  · intro w'; go_simp; with_reducible rfl
                  rotate_left
                  · simp only [Act.put, List.setIfInBounds_toArray, List.set_cons_zero, List.set_cons_succ, i64_w, i32_w]; rfl
                  refine one_ (i := 9) (N := some 17) #[true, true, true, true, true, true, true, true, true, true, false, false] rfl rfl (one_of HT_.out (by kernel_rfl)) (by decide) (fun K hK => ?_)
                  refine box_step ?hg (N := 17) ?hd (cs := #[.slice none 0 0, .bool false, .int .i64 0, .slice none 0 0]) (t := 27) ?hr ?_; (case hd => rfl); (case hg => rfl); (case hr => first | (go_simp; done) | (go_simp; rfl))
                  intro gb422 hg w195 hbox hb
                  replace HO_372000 := vE HO_372000 hg hb
                  replace HO_372003 := vE HO_372003 hg hb
                  replace HO_384000 := vE HO_384000 hg hb
                  replace HO_384003 := vE HO_384003 hg hb
                  replace HO_404000 := vE HO_404000 hg hb
                  replace HO_404003 := vE HO_404003 hg hb
                  replace HO406 := vE HO406 hg hb
                  replace HO411 := vE HO411 hg hb
                  replace HO415 := vE HO415 hg hb
                  replace HO420 := vE HO420 hg hb
                  have BK422 := Aside0.mk hbox
                  have GW422 := gE HB hg
                  have GE422 := gE HB hg
                  replace HB := hB HB hb
                  have NB340_422 := nL BK340 hg
                  have NB422_340 := nG BK340 hg
                  replace BK340 := kB BK340 hb
                  have NB371_422 := nL BK371 hg
                  have NB422_371 := nG BK371 hg
                  replace BK371 := kB BK371 hb
                  have NB383_422 := nL BK383 hg
                  have NB422_383 := nG BK383 hg
                  replace BK383 := kB BK383 hb
                  have NB403_422 := nL BK403 hg
                  have NB422_403 := nG BK403 hg
                  replace BK403 := kB BK403 hb
                  clear hb hbox hg
                  refine hK.out _ _ ⟨cx BK340 0, cx BK340 1, cx BK340 2, cx BK340 3⟩ (fun hHeld => ?_)
                  clear hK K
                  refine norm_ (a' := ?_) ?_ ?_
                  rotate_left
                  ·
                   show Act.put _ (some 17) _ = _
                   simp only [Act.put, List.setIfInBounds_toArray, List.set_cons_zero, List.set_cons_succ, i64_w, i32_w]
                   rfl
                  exact norm_ (by simp only [putAll, Act.put, List.setIfInBounds_toArray, List.set_cons_zero, List.set_cons_succ]) (hCont (.slice Ao192 t404.length co192, .slice Ao193 t409.length co193, v414, v419, gb422) _ ⟨hHeld, (vM HO406), (vM HO411), (vM HO415), (vM HO420), (vM HO_372000), (vM HO_372003), (vM HO_384000), (vM HO_384003), (vM HO_404000), (vM HO_404003), (kk BK340), (kk BK371), (kk BK383), (kk BK403), (kk BK422), GW422.out, GE422.out, NB340_422.out, NB422_340.out, NB371_422.out, NB422_371.out, NB383_422.out, NB422_383.out, NB403_422.out, NB422_403.out, (bb HB)⟩)
                 ·
                  skip
                  refine box_step ?hg (N := 17) ?hd (cs := #[.slice none 0 0, .bool false, .int .i64 0, .slice none 0 0]) (t := 27) ?hr ?_; (case hd => rfl); (case hg => rfl); (case hr => first | (go_simp; done) | (go_simp; rfl))
                  intro gb422 hg w192 hbox hb
                  replace HO_372000 := vE HO_372000 hg hb
                  replace HO_372003 := vE HO_372003 hg hb
                  replace HO_384000 := vE HO_384000 hg hb
                  replace HO_384003 := vE HO_384003 hg hb
                  replace HO_404000 := vE HO_404000 hg hb
                  replace HO_404003 := vE HO_404003 hg hb
                  replace HO406 := vE HO406 hg hb
                  replace HO411 := vE HO411 hg hb
                  have BK422 := Aside0.mk hbox
                  have GW422 := gE HB hg
                  have GE422 := gE HB hg
                  replace HB := hB HB hb
                  have NB340_422 := nL BK340 hg
                  have NB422_340 := nG BK340 hg
                  replace BK340 := kB BK340 hb
                  have NB371_422 := nL BK371 hg
                  have NB422_371 := nG BK371 hg
                  replace BK371 := kB BK371 hb
                  have NB383_422 := nL BK383 hg
                  have NB422_383 := nG BK383 hg
                  replace BK383 := kB BK383 hb
                  have NB403_422 := nL BK403 hg
                  have NB422_403 := nG BK403 hg
                  replace BK403 := kB BK403 hb
                  clear hb hbox hg
                  obtain ⟨Ao193, co193, eo193⟩ := Kd.V_slice HO406.out
                  (first | subst eo193 | (injection eo193 with f1_ f2_ f3_; have f4_ := f1_.symm; have f5_ := f3_.symm; clear f1_ f2_ f3_; subst f4_; subst f5_))
                  obtain ⟨Ao194, co194, eo194⟩ := Kd.V_slice HO411.out
                  (first | subst eo194 | (injection eo194 with f1_ f2_ f3_; have f4_ := f1_.symm; have f5_ := f3_.symm; clear f1_ f2_ f3_; subst f4_; subst f5_))
                  refine hK.out _ _ ⟨cx BK340 0, cx BK340 1, cx BK340 2, cx BK340 3⟩ (fun hHeld => ?_)
                  clear hK K
                  refine norm_ (a' := ?_) ?_ ?_
                  rotate_left
                  ·
                   show Act.put _ (some 17) _ = _
                   simp only [Act.put, List.setIfInBounds_toArray, List.set_cons_zero, List.set_cons_succ, i64_w, i32_w]
                   rfl
                  refine one_ (i := 5) (N := some 106) #[true, true, true, true, true, true, false, false, false, true, false, false] rfl rfl (one_of HT_.out (by kernel_rfl)) (by decide) (fun K hK => ?_)
                  refine goes_ Try.func12 (by kernel_rfl) rfl #[.agg #[.slice Ao193 t404.length co193, .bool t407, .int .i64 t408, .slice Ao194 t409.length co194], .slice A1 (l1.take (x16_114 : Int).toNat).length c1] (by rfl) rfl rfl (by (try simp only [List.map_toArray, List.map_cons, List.map_nil]); first | done | (rw [show (l1.take (x16_114 : Int).toNat).length = x16_114.toNat from (by rw [List.length_take]; have h_ : (x16_114 : Int) ≤ (l1.length : Int) := of_decide_eq_true (by first | (with_reducible assumption) | assumption); omega)] <;> rfl) | rfl | (simp only [List.length_drop, List.length_take]; rfl)) ?_
                  with_reducible refine (wire_Write.calls (fun k_ => ((k_ ≠ gb340 ∧ (k_ ≠ gb371 ∧ (k_ ≠ gb383 ∧ k_ ≠ gb403))) ∧ k_ ≠ gb422)) _ _ t404 t407 t408 (fun k_ => ((k_ ≠ gb340 ∧ (k_ ≠ gb371 ∧ (k_ ≠ gb383 ∧ k_ ≠ gb403))) ∧ k_ ≠ gb422)) _ _ t409 _ _ (l1.take (x16_114 : Int).toNat) t413 t416 t417 t418 t421 _ ?side1 ?side2 ?side3 ?side4 A120.out).mono ?_
                  (case side1 => exact HO406.out)
                  (case side2 => exact HO411.out)
                  (case side3 => exact Kd.C_below HR412.out (bb HB))
                  (case side4 => exact HC412.out)
                  rintro e w195 ⟨v414, v419, rfl, ho0, ho1, hb⟩
                  refine ⟨_, rfl, ?_⟩
                  replace HO_372000 := vB HO_372000 hb
                  replace HO_372003 := vB HO_372003 hb
                  replace HO_384000 := vB HO_384000 hb
                  replace HO_384003 := vB HO_384003 hb
                  replace HO_404000 := vB HO_404000 hb
                  replace HO_404003 := vB HO_404003 hb
                  replace HO406 := vB HO406 hb
                  replace HO411 := vB HO411 hb
                  have HO415 := Aside0.mk (Kd.V_lower (Kd.V_mono (ok' := fun k_ => k_ ≠ gb340 ∧ k_ ≠ gb371 ∧ k_ ≠ gb383 ∧ k_ ≠ gb403 ∧ k_ ≠ gb422) ho0 (fun k_ hk_ => ⟨oe hk_ (fun h => h.1.1) (fun h => h.1.1) (Kd.freshB (kk BK340) k_), oe hk_ (fun h => h.1.2.1) (fun h => h.1.2.1) (Kd.freshB (kk BK371) k_), oe hk_ (fun h => h.1.2.2.1) (fun h => h.1.2.2.1) (Kd.freshB (kk BK383) k_), oe hk_ (fun h => h.1.2.2.2) (fun h => h.1.2.2.2) (Kd.freshB (kk BK403) k_), oe hk_ (fun h => h.2) (fun h => h.2) (Kd.freshB (kk BK422) k_)⟩)) (below_size (bb HB)))
                  have HO420 := Aside0.mk (Kd.V_lower (Kd.V_mono (ok' := fun k_ => k_ ≠ gb340 ∧ k_ ≠ gb371 ∧ k_ ≠ gb383 ∧ k_ ≠ gb403 ∧ k_ ≠ gb422) ho1 (fun k_ hk_ => ⟨oe hk_ (fun h => h.1.1) (fun h => h.1.1) (Kd.freshB (kk BK340) k_), oe hk_ (fun h => h.1.2.1) (fun h => h.1.2.1) (Kd.freshB (kk BK371) k_), oe hk_ (fun h => h.1.2.2.1) (fun h => h.1.2.2.1) (Kd.freshB (kk BK383) k_), oe hk_ (fun h => h.1.2.2.2) (fun h => h.1.2.2.2) (Kd.freshB (kk BK403) k_), oe hk_ (fun h => h.2) (fun h => h.2) (Kd.freshB (kk BK422) k_)⟩)) (below_size (bb HB)))
                  replace BK340 := kB BK340 hb
                  replace BK371 := kB BK371 hb
                  replace BK383 := kB BK383 hb
                  replace BK403 := kB BK403 hb
                  replace BK422 := kB BK422 hb
                  replace HB := hB HB hb
                  (try clear hb)
                  (try clear hb2)
                  (try clear hk)
                  (try clear hi)
                  (try clear ho0)
                  (try clear ho1)
                  refine hK.out _ _ ⟨cx BK340 0, cx BK340 1, cx BK340 2, cx BK340 3⟩ (fun hHeld => ?_)
                  clear hK K
                  refine norm_ (a' := ?_) ?_ ?_
                  rotate_left
                  ·
                   show Act.put _ (some 106) _ = _
                   simp only [Act.put, List.setIfInBounds_toArray, List.set_cons_zero, List.set_cons_succ, i64_w, i32_w]
                   rfl
                  refine pure_ (i := 6) (N := some 100) (v := ?_) (a' := ?_) #[true, true, true, true, true, true, true, false, false, true, false, false] rfl rfl (any_of HT_.out (by kernel_rfl)) (fun _ _ _ h => h) (Or.inl ⟨by rfl, ?_⟩) ?_ ?_
                  rotate_left
                  · intro w'; go_simp; with_reducible rfl
                  rotate_left
                  · simp only [Act.put, List.setIfInBounds_toArray, List.set_cons_zero, List.set_cons_succ, i64_w, i32_w]; rfl
                  refine pure_ (i := 7) (N := some 107) (v := ?_) (a' := ?_) #[true, true, true, true, true, true, true, true, false, true, false, false] rfl rfl (any_of HT_.out (by kernel_rfl)) (fun _ _ _ h => h) (Or.inl ⟨by rfl, ?_⟩) ?_ ?_
                  rotate_left
                  · intro w'; go_simp; with_reducible rfl
                  rotate_left
                  · simp only [Act.put, List.setIfInBounds_toArray, List.set_cons_zero, List.set_cons_succ, i64_w, i32_w]; rfl
                  refine pure_ (i := 8) (N := some 108) (v := ?_) (a' := ?_) #[true, true, true, true, true, true, true, true, true, true, false, false] rfl rfl (any_of HT_.out (by kernel_rfl)) (fun _ _ _ h => h) (Or.inl ⟨by rfl, ?_⟩) ?_ ?_
                  rotate_left
                  · intro w'; go_simp; with_reducible rfl
                  rotate_left
                  · simp only [Act.put, List.setIfInBounds_toArray, List.set_cons_zero, List.set_cons_succ, i64_w, i32_w]; rfl
                  exact norm_ (by simp only [putAll, Act.put, List.setIfInBounds_toArray, List.set_cons_zero, List.set_cons_succ]) (hCont (.slice Ao193 t404.length co193, .slice Ao194 t409.length co194, v414, v419, gb422) _ ⟨hHeld, (vM HO406), (vM HO411), (vM HO415), (vM HO420), (vM HO_372000), (vM HO_372003), (vM HO_384000), (vM HO_384003), (vM HO_404000), (vM HO_404003), (kk BK340), (kk BK371), (kk BK383), (kk BK403), (kk BK422), GW422.out, GE422.out, NB340_422.out, NB422_340.out, NB371_422.out, NB422_371.out, NB383_422.out, NB422_383.out, NB403_422.out, NB422_403.out, (bb HB)⟩)
                ·
                 skip
                 refine box_step ?hg (N := 17) ?hd (cs := #[.slice none 0 0, .bool false, .int .i64 0, .slice none 0 0]) (t := 27) ?hr ?_; (case hd => rfl); (case hg => rfl); (case hr => first | (go_simp; done) | (go_simp; rfl))
                 intro gb422 hg w191 hbox hb
                 replace HO_372000 := vE HO_372000 hg hb
                 replace HO_372003 := vE HO_372003 hg hb
                 replace HO_384000 := vE HO_384000 hg hb
                 replace HO_384003 := vE HO_384003 hg hb
                 replace HO_404000 := vE HO_404000 hg hb
                 replace HO_404003 := vE HO_404003 hg hb
                 have BK422 := Aside0.mk hbox
                 have GW422 := gE HB hg
                 have GE422 := gE HB hg
                 replace HB := hB HB hb
                 have NB340_422 := nL BK340 hg
                 have NB422_340 := nG BK340 hg
                 replace BK340 := kB BK340 hb
                 have NB371_422 := nL BK371 hg
                 have NB422_371 := nG BK371 hg
                 replace BK371 := kB BK371 hb
                 have NB383_422 := nL BK383 hg
                 have NB422_383 := nG BK383 hg
                 replace BK383 := kB BK383 hb
                 have NB403_422 := nL BK403 hg
                 have NB422_403 := nG BK403 hg
                 replace BK403 := kB BK403 hb
                 clear hb hbox hg
                 refine hK.out _ _ ⟨cx BK340 0, cx BK340 1, cx BK340 2, cx BK340 3⟩ (fun hHeld => ?_)
                 clear hK K
                 refine norm_ (a' := ?_) ?_ ?_
                 rotate_left
                 ·
                  show Act.put _ (some 17) _ = _
                  simp only [Act.put, List.setIfInBounds_toArray, List.set_cons_zero, List.set_cons_succ, i64_w, i32_w]
                  rfl
                 refine one_ (i := 1) (N := some 102) #[true, true, true, true, true, false, false, false, false, true, false, false] rfl rfl (one_of HT_.out (by kernel_rfl)) (by decide) (fun K hK => ?_)
                 refine gs Try.func16 (by kernel_rfl) rfl #[.agg #[.slice A0_0 l0_0.length c0_0, .bool a0_1, .int .i64 a0_2, .slice A0_3 l0_3.length c0_3]] (by rfl) rfl rfl ?_
                 with_reducible refine (pentroughlaw19_ours.calls (fun k_ => k_ < w.heap.size) _ _ l0_0 a0_1 a0_2 (fun k_ => k_ < w.heap.size) _ _ l0_3 t404 t407 t408 t409 _ ?side1 ?side2 A117.out).mono ?_
                 (case side1 => exact Kd.V_mk HC0_0.out (Kd.F_below (Kd.C_F (Kd.heap_int .u8) HR0_0.out) (bb HB)))
                 (case side2 => exact Kd.V_mk HC0_3.out (Kd.F_below (Kd.C_F (Kd.heap_int .u8) HR0_3.out) (bb HB)))
                 rintro e w192 ⟨v405, v410, rfl, ho0, ho1, hb⟩
                 refine ⟨_, rfl, ?_⟩
                 replace HO_372000 := vB HO_372000 hb
                 replace HO_372003 := vB HO_372003 hb
                 replace HO_384000 := vB HO_384000 hb
                 replace HO_384003 := vB HO_384003 hb
                 replace HO_404000 := vB HO_404000 hb
                 replace HO_404003 := vB HO_404003 hb
                 have HO406 := Aside0.mk (Kd.V_lower (Kd.V_mono (ok' := fun k_ => k_ ≠ gb340 ∧ k_ ≠ gb371 ∧ k_ ≠ gb383 ∧ k_ ≠ gb403 ∧ k_ ≠ gb422) ho0 (fun k_ hk_ => ⟨oe hk_ (gw GW340) (gw GW340) (Kd.freshB (kk BK340) k_), oe hk_ (gw GW371) (gw GW371) (Kd.freshB (kk BK371) k_), oe hk_ (gw GW383) (gw GW383) (Kd.freshB (kk BK383) k_), oe hk_ (gw GW403) (gw GW403) (Kd.freshB (kk BK403) k_), oe hk_ (gw GW422) (gw GW422) (Kd.freshB (kk BK422) k_)⟩)) (below_size (bb HB)))
                 have HO411 := Aside0.mk (Kd.V_lower (Kd.V_mono (ok' := fun k_ => k_ ≠ gb340 ∧ k_ ≠ gb371 ∧ k_ ≠ gb383 ∧ k_ ≠ gb403 ∧ k_ ≠ gb422) ho1 (fun k_ hk_ => ⟨oe hk_ (gw GW340) (gw GW340) (Kd.freshB (kk BK340) k_), oe hk_ (gw GW371) (gw GW371) (Kd.freshB (kk BK371) k_), oe hk_ (gw GW383) (gw GW383) (Kd.freshB (kk BK383) k_), oe hk_ (gw GW403) (gw GW403) (Kd.freshB (kk BK403) k_), oe hk_ (gw GW422) (gw GW422) (Kd.freshB (kk BK422) k_)⟩)) (below_size (bb HB)))
                 replace BK340 := kB BK340 hb
                 replace BK371 := kB BK371 hb
                 replace BK383 := kB BK383 hb
                 replace BK403 := kB BK403 hb
                 replace BK422 := kB BK422 hb
                 replace HB := hB HB hb
                 (try clear hb)
                 (try clear hb2)
                 (try clear hk)
                 (try clear hi)
                 (try clear ho0)
                 (try clear ho1)
                 obtain ⟨Ao193, co193, eo193⟩ := Kd.V_slice HO406.out
                 (first | subst eo193 | (injection eo193 with f1_ f2_ f3_; have f4_ := f1_.symm; have f5_ := f3_.symm; clear f1_ f2_ f3_; subst f4_; subst f5_))
                 obtain ⟨Ao194, co194, eo194⟩ := Kd.V_slice HO411.out
                 (first | subst eo194 | (injection eo194 with f1_ f2_ f3_; have f4_ := f1_.symm; have f5_ := f3_.symm; clear f1_ f2_ f3_; subst f4_; subst f5_))
                 refine hK.out _ _ ⟨cx BK340 0, cx BK340 1, cx BK340 2, cx BK340 3⟩ (fun hHeld => ?_)
                 clear hK K
                 refine norm_ (a' := ?_) ?_ ?_
                 rotate_left
                 ·
                  show Act.put _ (some 102) _ = _
                  simp only [Act.put, List.setIfInBounds_toArray, List.set_cons_zero, List.set_cons_succ, i64_w, i32_w]
                  rfl
                 refine one_ (i := 5) (N := some 106) #[true, true, true, true, true, true, false, false, false, true, false, false] rfl rfl (one_of HT_.out (by kernel_rfl)) (by decide) (fun K hK => ?_)
                 refine goes_ Try.func12 (by kernel_rfl) rfl #[.agg #[.slice Ao193 t404.length co193, .bool t407, .int .i64 t408, .slice Ao194 t409.length co194], .slice A1 (l1.take (x16_114 : Int).toNat).length c1] (by rfl) rfl rfl (by (try simp only [List.map_toArray, List.map_cons, List.map_nil]); first | done | (rw [show (l1.take (x16_114 : Int).toNat).length = x16_114.toNat from (by rw [List.length_take]; have h_ : (x16_114 : Int) ≤ (l1.length : Int) := of_decide_eq_true (by first | (with_reducible assumption) | assumption); omega)] <;> rfl) | rfl | (simp only [List.length_drop, List.length_take]; rfl)) ?_
                 with_reducible refine (wire_Write.calls (fun k_ => (k_ ≠ gb340 ∧ (k_ ≠ gb371 ∧ (k_ ≠ gb383 ∧ (k_ ≠ gb403 ∧ k_ ≠ gb422))))) _ _ t404 t407 t408 (fun k_ => (k_ ≠ gb340 ∧ (k_ ≠ gb371 ∧ (k_ ≠ gb383 ∧ (k_ ≠ gb403 ∧ k_ ≠ gb422))))) _ _ t409 _ _ (l1.take (x16_114 : Int).toNat) t413 t416 t417 t418 t421 _ ?side1 ?side2 ?side3 ?side4 A120.out).mono ?_
                 (case side1 => exact HO406.out)
                 (case side2 => exact HO411.out)
                 (case side3 => exact Kd.C_below HR412.out (bb HB))
                 (case side4 => exact HC412.out)
                 rintro e w195 ⟨v414, v419, rfl, ho0, ho1, hb⟩
                 refine ⟨_, rfl, ?_⟩
                 replace HO_372000 := vB HO_372000 hb
                 replace HO_372003 := vB HO_372003 hb
                 replace HO_384000 := vB HO_384000 hb
                 replace HO_384003 := vB HO_384003 hb
                 replace HO_404000 := vB HO_404000 hb
                 replace HO_404003 := vB HO_404003 hb
                 replace HO406 := vB HO406 hb
                 replace HO411 := vB HO411 hb
                 have HO415 := Aside0.mk (Kd.V_lower (Kd.V_mono (ok' := fun k_ => k_ ≠ gb340 ∧ k_ ≠ gb371 ∧ k_ ≠ gb383 ∧ k_ ≠ gb403 ∧ k_ ≠ gb422) ho0 (fun k_ hk_ => ⟨oe hk_ (fun h => h.1) (fun h => h.1) (Kd.freshB (kk BK340) k_), oe hk_ (fun h => h.2.1) (fun h => h.2.1) (Kd.freshB (kk BK371) k_), oe hk_ (fun h => h.2.2.1) (fun h => h.2.2.1) (Kd.freshB (kk BK383) k_), oe hk_ (fun h => h.2.2.2.1) (fun h => h.2.2.2.1) (Kd.freshB (kk BK403) k_), oe hk_ (fun h => h.2.2.2.2) (fun h => h.2.2.2.2) (Kd.freshB (kk BK422) k_)⟩)) (below_size (bb HB)))
                 have HO420 := Aside0.mk (Kd.V_lower (Kd.V_mono (ok' := fun k_ => k_ ≠ gb340 ∧ k_ ≠ gb371 ∧ k_ ≠ gb383 ∧ k_ ≠ gb403 ∧ k_ ≠ gb422) ho1 (fun k_ hk_ => ⟨oe hk_ (fun h => h.1) (fun h => h.1) (Kd.freshB (kk BK340) k_), oe hk_ (fun h => h.2.1) (fun h => h.2.1) (Kd.freshB (kk BK371) k_), oe hk_ (fun h => h.2.2.1) (fun h => h.2.2.1) (Kd.freshB (kk BK383) k_), oe hk_ (fun h => h.2.2.2.1) (fun h => h.2.2.2.1) (Kd.freshB (kk BK403) k_), oe hk_ (fun h => h.2.2.2.2) (fun h => h.2.2.2.2) (Kd.freshB (kk BK422) k_)⟩)) (below_size (bb HB)))
                 replace BK340 := kB BK340 hb
                 replace BK371 := kB BK371 hb
                 replace BK383 := kB BK383 hb
                 replace BK403 := kB BK403 hb
                 replace BK422 := kB BK422 hb
                 replace HB := hB HB hb
                 (try clear hb)
                 (try clear hb2)
                 (try clear hk)
                 (try clear hi)
                 (try clear ho0)
                 (try clear ho1)
                 refine hK.out _ _ ⟨cx BK340 0, cx BK340 1, cx BK340 2, cx BK340 3⟩ (fun hHeld => ?_)
                 clear hK K
                 refine norm_ (a' := ?_) ?_ ?_
                 rotate_left
                 ·
                  show Act.put _ (some 106) _ = _
                  simp only [Act.put, List.setIfInBounds_toArray, List.set_cons_zero, List.set_cons_succ, i64_w, i32_w]
                  rfl
                 refine pure_ (i := 6) (N := some 100) (v := ?_) (a' := ?_) #[true, true, true, true, true, true, true, false, false, true, false, false] rfl rfl (any_of HT_.out (by kernel_rfl)) (fun _ _ _ h => h) (Or.inl ⟨by rfl, ?_⟩) ?_ ?_
                 rotate_left
                 · intro w'; go_simp; with_reducible rfl
                 rotate_left
                 · simp only [Act.put, List.setIfInBounds_toArray, List.set_cons_zero, List.set_cons_succ, i64_w, i32_w]; rfl
                 refine pure_ (i := 7) (N := some 107) (v := ?_) (a' := ?_) #[true, true, true, true, true, true, true, true, false, true, false, false] rfl rfl (any_of HT_.out (by kernel_rfl)) (fun _ _ _ h => h) (Or.inl ⟨by rfl, ?_⟩) ?_ ?_
                 rotate_left
                 · intro w'; go_simp; with_reducible rfl
                 rotate_left
                 · simp only [Act.put, List.setIfInBounds_toArray, List.set_cons_zero, List.set_cons_succ, i64_w, i32_w]; rfl
                 refine pure_ (i := 8) (N := some 108) (v := ?_) (a' := ?_) #[true, true, true, true, true, true, true, true, true, true, false, false] rfl rfl (any_of HT_.out (by kernel_rfl)) (fun _ _ _ h => h) (Or.inl ⟨by rfl, ?_⟩) ?_ ?_
                 rotate_left
                 · intro w'; go_simp; with_reducible rfl
                 rotate_left
                 · simp only [Act.put, List.setIfInBounds_toArray, List.set_cons_zero, List.set_cons_succ, i64_w, i32_w]; rfl
                 exact norm_ (by simp only [putAll, Act.put, List.setIfInBounds_toArray, List.set_cons_zero, List.set_cons_succ]) (hCont (.slice Ao193 t404.length co193, .slice Ao194 t409.length co194, v414, v419, gb422) _ ⟨hHeld, (vM HO406), (vM HO411), (vM HO415), (vM HO420), (vM HO_372000), (vM HO_372003), (vM HO_384000), (vM HO_384003), (vM HO_404000), (vM HO_404003), (kk BK340), (kk BK371), (kk BK383), (kk BK403), (kk BK422), GW422.out, GE422.out, NB340_422.out, NB422_340.out, NB371_422.out, NB422_371.out, NB383_422.out, NB422_383.out, NB403_422.out, NB422_403.out, (bb HB)⟩)
               clear HO_372000 HO_372003 HO_384000 HO_384003 HO_404000 HO_404003 BK340 BK371 BK383 BK403 HB
               rintro ⟨v405, v410, v414, v419, gb422⟩ w196 hS_
               dsimp only at hS_
               obtain ⟨hHeld, h0_, h1_, h2_, h3_, h4_, h5_, h6_, h7_, h8_, h9_, h10_, h11_, h12_, h13_, h14_, h15_, h16_, h17_, h18_, h19_, h20_, h21_, h22_, h23_, h24_, h25_⟩ := hS_
               have HO406 := Aside0.mk h0_
               have HO411 := Aside0.mk h1_
               have HO415 := Aside0.mk h2_
               have HO420 := Aside0.mk h3_
               have HO_372000 := Aside0.mk h4_
               have HO_372003 := Aside0.mk h5_
               have HO_384000 := Aside0.mk h6_
               have HO_384003 := Aside0.mk h7_
               have HO_404000 := Aside0.mk h8_
               have HO_404003 := Aside0.mk h9_
               have BK340 := Aside0.mk h10_
               have BK371 := Aside0.mk h11_
               have BK383 := Aside0.mk h12_
               have BK403 := Aside0.mk h13_
               have BK422 := Aside0.mk h14_
               have GW422 := Aside0.mk h15_
               have GE422 := Aside0.mk h16_
               have NB340_422 := Aside0.mk h17_
               have NB422_340 := Aside0.mk h18_
               have NB371_422 := Aside0.mk h19_
               have NB422_371 := Aside0.mk h20_
               have NB383_422 := Aside0.mk h21_
               have NB422_383 := Aside0.mk h22_
               have NB403_422 := Aside0.mk h23_
               have NB422_403 := Aside0.mk h24_
               have HB := Aside0.mk h25_
               clear h0_ h1_ h2_ h3_ h4_ h5_ h6_ h7_ h8_ h9_ h10_ h11_ h12_ h13_ h14_ h15_ h16_ h17_ h18_ h19_ h20_ h21_ h22_ h23_ h24_ h25_
               obtain ⟨Ao197, co197, eo197⟩ := Kd.V_slice HO415.out
               (first | subst eo197 | (injection eo197 with f1_ f2_ f3_; have f4_ := f1_.symm; have f5_ := f3_.symm; clear f1_ f2_ f3_; subst f4_; subst f5_))
               obtain ⟨Ao201, co201, eo201⟩ := Kd.V_slice HO420.out
               (first | subst eo201 | (injection eo201 with f1_ f2_ f3_; have f4_ := f1_.symm; have f5_ := f3_.symm; clear f1_ f2_ f3_; subst f4_; subst f5_))
               refine norm_ (a' := ?_) ?_ ?_
               rotate_left
               · simp only [putAll, Act.put, List.setIfInBounds_toArray, List.set_cons_zero, List.set_cons_succ]; rfl
               refine one_ (i := 10) (N := none) #[true, true, true, true, true, true, true, true, true, true, true, false] rfl rfl (one_of HT_.out (by kernel_rfl)) (by decide) (fun K hK => ?_)
               have hs198 : w196.cell? ⟨gb422, 0, none⟩ = some (.slice none 0 0) := cx BK422 0
               have hfs198 := blk_frozen BK422.out 0
               have hns198_0 := NB340_422.out
               have hns198_1 := NB371_422.out
               have hns198_2 := NB383_422.out
               have hns198_3 := NB403_422.out
               have hms198_0 := NB422_340.out
               have hms198_1 := NB422_371.out
               have hms198_2 := NB422_383.out
               have hms198_3 := NB422_403.out
               have hs199 : w196.cell? ⟨gb422, 1, none⟩ = some (.bool false) := cx BK422 1
               have hfs199 := blk_frozen BK422.out 1
               have hns199_0 := NB340_422.out
               have hns199_1 := NB371_422.out
               have hns199_2 := NB383_422.out
               have hns199_3 := NB403_422.out
               have hms199_0 := NB422_340.out
               have hms199_1 := NB422_371.out
               have hms199_2 := NB422_383.out
               have hms199_3 := NB422_403.out
               have hs200 : w196.cell? ⟨gb422, 2, none⟩ = some (.int .i64 0) := cx BK422 2
               have hfs200 := blk_frozen BK422.out 2
               have hns200_0 := NB340_422.out
               have hns200_1 := NB371_422.out
               have hns200_2 := NB383_422.out
               have hns200_3 := NB403_422.out
               have hms200_0 := NB422_340.out
               have hms200_1 := NB422_371.out
               have hms200_2 := NB422_383.out
               have hms200_3 := NB422_403.out
               have hs202 : w196.cell? ⟨gb422, 3, none⟩ = some (.slice none 0 0) := cx BK422 3
               have hfs202 := blk_frozen BK422.out 3
               have hns202_0 := NB340_422.out
               have hns202_1 := NB371_422.out
               have hns202_2 := NB383_422.out
               have hns202_3 := NB403_422.out
               have hms202_0 := NB422_340.out
               have hms202_1 := NB422_371.out
               have hms202_2 := NB422_383.out
               have hms202_3 := NB422_403.out
               refine skip_ (w1 := ?_) (by rfl) rfl ?_ ?_
               rotate_left
               · go_simp; rfl
               refine hK.out _ _ ⟨((cell_far (p := ⟨gb422, _, none⟩) NB340_422.out _).trans (((cell_far (p := ⟨gb422, _, none⟩) NB340_422.out _).trans (((cell_far (p := ⟨gb422, _, none⟩) NB340_422.out _).trans (((cell_far (p := ⟨gb422, _, none⟩) NB340_422.out _).trans (hHeld.1)))))))), ((cell_far (p := ⟨gb422, _, none⟩) NB340_422.out _).trans (((cell_far (p := ⟨gb422, _, none⟩) NB340_422.out _).trans (((cell_far (p := ⟨gb422, _, none⟩) NB340_422.out _).trans (((cell_far (p := ⟨gb422, _, none⟩) NB340_422.out _).trans (hHeld.2.1)))))))), ((cell_far (p := ⟨gb422, _, none⟩) NB340_422.out _).trans (((cell_far (p := ⟨gb422, _, none⟩) NB340_422.out _).trans (((cell_far (p := ⟨gb422, _, none⟩) NB340_422.out _).trans (((cell_far (p := ⟨gb422, _, none⟩) NB340_422.out _).trans (hHeld.2.2.1)))))))), ((cell_far (p := ⟨gb422, _, none⟩) NB340_422.out _).trans (((cell_far (p := ⟨gb422, _, none⟩) NB340_422.out _).trans (((cell_far (p := ⟨gb422, _, none⟩) NB340_422.out _).trans (((cell_far (p := ⟨gb422, _, none⟩) NB340_422.out _).trans (hHeld.2.2.2))))))))⟩ (fun hHeld => ?_)
               clear hK K
               refine pure_ (i := 11) (N := some 18) (v := ?_) (a' := ?_) #[true, true, true, true, true, true, true, true, true, true, true, true] rfl rfl (any_of HT_.out (by kernel_rfl)) (fun _ _ _ h => h) (Or.inl ⟨by rfl, ?_⟩) ?_ ?_
               rotate_left
               · intro w'; go_simp; with_reducible rfl
               rotate_left
               · simp only [Act.put, List.setIfInBounds_toArray, List.set_cons_zero, List.set_cons_succ, i64_w, i32_w]; rfl
               refine done_ (done_of HT_.out (by kernel_rfl)) ?_
               try go_wp2
               obtain ⟨w203, hw⟩ : ∃ w_, w_ = ((((w196.setCell ⟨gb422, 0, none⟩ (.slice Ao197 t413.length co197)).setCell ⟨gb422, 1, none⟩ (.bool t416)).setCell ⟨gb422, 2, none⟩ (.int .i64 t417)).setCell ⟨gb422, 3, none⟩ (.slice Ao201 t418.length co201)) := ⟨_, rfl⟩
               rw [← hw]
               replace HO_372000 := vS (fun k_ => k_ ≠ gb340 ∧ k_ ≠ gb371 ∧ k_ ≠ gb383 ∧ k_ ≠ gb403 ∧ k_ ≠ gb422) HO_372000 hw
               replace HO_372003 := vS (fun k_ => k_ ≠ gb340 ∧ k_ ≠ gb371 ∧ k_ ≠ gb383 ∧ k_ ≠ gb403 ∧ k_ ≠ gb422) HO_372003 hw
               replace HO_384000 := vS (fun k_ => k_ ≠ gb340 ∧ k_ ≠ gb371 ∧ k_ ≠ gb383 ∧ k_ ≠ gb403 ∧ k_ ≠ gb422) HO_384000 hw
               replace HO_384003 := vS (fun k_ => k_ ≠ gb340 ∧ k_ ≠ gb371 ∧ k_ ≠ gb383 ∧ k_ ≠ gb403 ∧ k_ ≠ gb422) HO_384003 hw
               replace HO_404000 := vS (fun k_ => k_ ≠ gb340 ∧ k_ ≠ gb371 ∧ k_ ≠ gb383 ∧ k_ ≠ gb403 ∧ k_ ≠ gb422) HO_404000 hw
               replace HO_404003 := vS (fun k_ => k_ ≠ gb340 ∧ k_ ≠ gb371 ∧ k_ ≠ gb383 ∧ k_ ≠ gb403 ∧ k_ ≠ gb422) HO_404003 hw
               replace HO406 := vS (fun k_ => k_ ≠ gb340 ∧ k_ ≠ gb371 ∧ k_ ≠ gb383 ∧ k_ ≠ gb403 ∧ k_ ≠ gb422) HO406 hw
               replace HO411 := vS (fun k_ => k_ ≠ gb340 ∧ k_ ≠ gb371 ∧ k_ ≠ gb383 ∧ k_ ≠ gb403 ∧ k_ ≠ gb422) HO411 hw
               replace HO415 := vS (fun k_ => k_ ≠ gb340 ∧ k_ ≠ gb371 ∧ k_ ≠ gb383 ∧ k_ ≠ gb403 ∧ k_ ≠ gb422) HO415 hw
               replace HO420 := vS (fun k_ => k_ ≠ gb340 ∧ k_ ≠ gb371 ∧ k_ ≠ gb383 ∧ k_ ≠ gb403 ∧ k_ ≠ gb422) HO420 hw
               replace BK340 := kS BK340 hw
               replace BK371 := kS BK371 hw
               replace BK383 := kS BK383 hw
               replace BK403 := kS BK403 hw
               replace BK422 := kP4 BK422 hw
               replace HB := hS HB hw
               clear hw
               replace HO_372000 := Aside0.mk (Kd.V_drew HO_372000.out)
               replace HO_372003 := Aside0.mk (Kd.V_drew HO_372003.out)
               replace HO_384000 := Aside0.mk (Kd.V_drew HO_384000.out)
               replace HO_384003 := Aside0.mk (Kd.V_drew HO_384003.out)
               replace HO_404000 := Aside0.mk (Kd.V_drew HO_404000.out)
               replace HO_404003 := Aside0.mk (Kd.V_drew HO_404003.out)
               replace HO406 := Aside0.mk (Kd.V_drew HO406.out)
               replace HO411 := Aside0.mk (Kd.V_drew HO411.out)
               replace HO415 := Aside0.mk (Kd.V_drew HO415.out)
               replace HO420 := Aside0.mk (Kd.V_drew HO420.out)
               replace BK340 := Aside0.mk (blk_drew BK340.out)
               replace BK371 := Aside0.mk (blk_drew BK371.out)
               replace BK383 := Aside0.mk (blk_drew BK383.out)
               replace BK403 := Aside0.mk (blk_drew BK403.out)
               replace BK422 := Aside0.mk (blk_drew BK422.out)
               replace HB := Aside0.mk (below_drew1 HB.out)
               obtain ⟨i0205, hi0205, _, hsz205, _⟩ := info_parts info5
               obtain ⟨A205, hcut205, hA205, hC205⟩ := print_drop_of (P := Try.prog) (Value.int .u8) 0 25 5 .i64 Try.underlying25 hi0205 hsz205 A1 c1 l1 x16_114 (of_decide_eq_true (by first | (with_reducible assumption) | assumption)) (of_decide_eq_true (by first | (with_reducible assumption) | assumption)) HC1.out
               have HR423 := Aside0.mk (Kd.C_of_reads (h1 := fun _ => rfl) (hA205 _ (Kd.reads_of_C HR1.out)))
               have HC423 := Aside0.mk hC205
               clear hA205 hC205 hi0205 hsz205
               refine start_ (n := 11) (S := fun w' => w'.cell? ⟨gb422, 0, none⟩ = some (.slice Ao197 t413.length co197) ∧ w'.cell? ⟨gb422, 1, none⟩ = some (.bool t416) ∧ w'.cell? ⟨gb422, 2, none⟩ = some (.int .i64 t417) ∧ w'.cell? ⟨gb422, 3, none⟩ = some (.slice Ao201 t418.length co201)) (ds := []) #[false, false, false, false, false, false, false, false, false, false, false] (by kernel_rfl) rfl rfl ⟨cx BK422 0, cx BK422 1, cx BK422 2, cx BK422 3⟩ (fun hHeld => ?_); refine with_tabW pentroughlaw19_WireParts.tab13 pentroughlaw19_WireParts.bits13 (fun HT_ HW_ => ?_)
               generalize w203.drew = w204 at HO_372000 HO_372003 HO_384000 HO_384003 HO_404000 HO_404003 HO406 HO411 HO415 HO420 BK340 BK371 BK383 BK403 BK422 HB HR423 hHeld ⊢
               refine pure_ (i := 1) (N := some 111) (v := ?_) (a' := ?_) #[false, true, false, false, false, false, false, false, false, false, false] rfl rfl (any_of HT_.out (by kernel_rfl)) (fun _ _ _ h => h) (Or.inl ⟨by rfl, ?_⟩) ?_ ?_
               rotate_left
               · intro w'; go_simp; with_reducible rfl
               rotate_left
               · simp only [Act.put, List.setIfInBounds_toArray, List.set_cons_zero, List.set_cons_succ, i64_w, i32_w]; rfl
               refine pure_ (i := 2) (N := some 112) (v := ?_) (a' := ?_) #[false, true, true, false, false, false, false, false, false, false, false] rfl rfl (any_of HT_.out (by kernel_rfl)) (fun _ _ _ h => h) (Or.inl ⟨by rfl, ?_⟩) ?_ ?_
               rotate_left
               · intro w'; go_simp; with_reducible rfl
               rotate_left
               · simp only [Act.put, List.setIfInBounds_toArray, List.set_cons_zero, List.set_cons_succ, i64_w, i32_w]; rfl
               refine pure_ (i := 3) (N := some 113) (v := ?_) (a' := ?_) #[false, true, true, true, false, false, false, false, false, false, false] rfl rfl (any_of HT_.out (by kernel_rfl)) (fun _ _ _ h => h) (Or.inl ⟨by rfl, ?_⟩) ?_ ?_
               rotate_left
               · intro w'; go_simp; with_reducible rfl
               rotate_left
               · simp only [Act.put, List.setIfInBounds_toArray, List.set_cons_zero, List.set_cons_succ, i64_w, i32_w]; rfl
               refine take_ (i := 0) (N := some 110) (v := ?_) (a' := ?_) #[true, true, true, true, false, false, false, false, false, false, false] rfl rfl (take_ofW HT_.out HW_.out (by kernel_rfl)) (fun _ _ _ h => h) (Or.inl ⟨by rfl, ?_⟩) hHeld ?_ ?_
               rotate_left
               · rintro w' ⟨s0, s1, s2, s3⟩; go_simp; with_reducible rfl
               rotate_left
               · simp only [Act.put, List.setIfInBounds_toArray, List.set_cons_zero, List.set_cons_succ, i64_w, i32_w]; rfl
               refine join_ (σ := Value × Value × Nat) 2 #[true, true, true, true, true, true, true, true, true, false, false] (fun s_ => [(114, .tuple #[.agg #[s_.1, .bool t427, .int .i64 t428, s_.2.1], .int .i64 t432]), (19, .pointer (some ⟨s_.2.2, 0, none⟩)), (109, .tuple #[.agg #[s_.1, .bool t427, .int .i64 t428, s_.2.1], .int .i64 t432]), (115, .agg #[s_.1, .bool t427, .int .i64 t428, s_.2.1]), (116, .int .i64 t432)]) (fun s_ w' => (w'.cell? ⟨gb422, 0, none⟩ = some (.slice Ao197 t413.length co197) ∧ w'.cell? ⟨gb422, 1, none⟩ = some (.bool t416) ∧ w'.cell? ⟨gb422, 2, none⟩ = some (.int .i64 t417) ∧ w'.cell? ⟨gb422, 3, none⟩ = some (.slice Ao201 t418.length co201)) ∧ (Kd.V (Kd.int .u8) 5 w' w.heap.size (fun k_ => k_ ≠ gb340 ∧ k_ ≠ gb371 ∧ k_ ≠ gb383 ∧ k_ ≠ gb403 ∧ k_ ≠ gb422 ∧ k_ ≠ s_.2.2) v405 t404) ∧ (Kd.V (Kd.int .u8) 5 w' w.heap.size (fun k_ => k_ ≠ gb340 ∧ k_ ≠ gb371 ∧ k_ ≠ gb383 ∧ k_ ≠ gb403 ∧ k_ ≠ gb422 ∧ k_ ≠ s_.2.2) v410 t409) ∧ (Kd.V (Kd.int .u8) 5 w' w.heap.size (fun k_ => k_ ≠ gb340 ∧ k_ ≠ gb371 ∧ k_ ≠ gb383 ∧ k_ ≠ gb403 ∧ k_ ≠ gb422 ∧ k_ ≠ s_.2.2) (.slice Ao197 t413.length co197) t413) ∧ (Kd.V (Kd.int .u8) 5 w' w.heap.size (fun k_ => k_ ≠ gb340 ∧ k_ ≠ gb371 ∧ k_ ≠ gb383 ∧ k_ ≠ gb403 ∧ k_ ≠ gb422 ∧ k_ ≠ s_.2.2) (.slice Ao201 t418.length co201) t418) ∧ (Kd.V (Kd.int .u8) 5 w' w.heap.size (fun k_ => k_ ≠ gb340 ∧ k_ ≠ gb371 ∧ k_ ≠ gb383 ∧ k_ ≠ gb403 ∧ k_ ≠ gb422 ∧ k_ ≠ s_.2.2) s_.1 t424) ∧ (Kd.V (Kd.int .u8) 5 w' w.heap.size (fun k_ => k_ ≠ gb340 ∧ k_ ≠ gb371 ∧ k_ ≠ gb383 ∧ k_ ≠ gb403 ∧ k_ ≠ gb422 ∧ k_ ≠ s_.2.2) s_.2.1 t429) ∧ (Kd.V (Kd.int .u8) 5 w' w.heap.size (fun k_ => k_ ≠ gb340 ∧ k_ ≠ gb371 ∧ k_ ≠ gb383 ∧ k_ ≠ gb403 ∧ k_ ≠ gb422 ∧ k_ ≠ s_.2.2) (.slice Ao70 t360.length co70) t360) ∧ (Kd.V (Kd.int .u8) 5 w' w.heap.size (fun k_ => k_ ≠ gb340 ∧ k_ ≠ gb371 ∧ k_ ≠ gb383 ∧ k_ ≠ gb403 ∧ k_ ≠ gb422 ∧ k_ ≠ s_.2.2) (.slice Ao73 t365.length co73) t365) ∧ (Kd.V (Kd.int .u8) 5 w' w.heap.size (fun k_ => k_ ≠ gb340 ∧ k_ ≠ gb371 ∧ k_ ≠ gb383 ∧ k_ ≠ gb403 ∧ k_ ≠ gb422 ∧ k_ ≠ s_.2.2) (.slice Ao78 t372.length co78) t372) ∧ (Kd.V (Kd.int .u8) 5 w' w.heap.size (fun k_ => k_ ≠ gb340 ∧ k_ ≠ gb371 ∧ k_ ≠ gb383 ∧ k_ ≠ gb403 ∧ k_ ≠ gb422 ∧ k_ ≠ s_.2.2) (.slice Ao82 t377.length co82) t377) ∧ (Kd.V (Kd.int .u8) 5 w' w.heap.size (fun k_ => k_ ≠ gb340 ∧ k_ ≠ gb371 ∧ k_ ≠ gb383 ∧ k_ ≠ gb403 ∧ k_ ≠ gb422 ∧ k_ ≠ s_.2.2) (.slice Ao90 t392.length co90) t392) ∧ (Kd.V (Kd.int .u8) 5 w' w.heap.size (fun k_ => k_ ≠ gb340 ∧ k_ ≠ gb371 ∧ k_ ≠ gb383 ∧ k_ ≠ gb403 ∧ k_ ≠ gb422 ∧ k_ ≠ s_.2.2) (.slice Ao95 t397.length co95) t397) ∧ (w'.heap[gb340]? = some (.cells #[.slice A0_0 l0_0.length c0_0, .bool a0_1, .int .i64 a0_2, .slice A0_3 l0_3.length c0_3] 36 (0, 0))) ∧ (w'.heap[gb371]? = some (.cells #[.slice Ao70 t360.length co70, .bool t363, .int .i64 t364, .slice Ao73 t365.length co73] 27 (0, 0))) ∧ (w'.heap[gb383]? = some (.cells #[.slice Ao78 t372.length co78, .bool t375, .int .i64 t376, .slice Ao82 t377.length co82] 27 (0, 0))) ∧ (w'.heap[gb403]? = some (.cells #[.slice Ao90 t392.length co90, .bool t395, .int .i64 t396, .slice Ao95 t397.length co95] 27 (0, 0))) ∧ (w'.heap[gb422]? = some (.cells #[.slice Ao197 t413.length co197, .bool t416, .int .i64 t417, .slice Ao201 t418.length co201] 27 (0, 0))) ∧ (w'.heap[s_.2.2]? = some (.cells #[.slice none 0 0, .bool false, .int .i64 0, .slice none 0 0] 27 (0, 0))) ∧ (w.heap.size ≤ s_.2.2) ∧ (w.heap.size ≤ s_.2.2) ∧ (gb340 ≠ s_.2.2) ∧ (s_.2.2 ≠ gb340) ∧ (gb371 ≠ s_.2.2) ∧ (s_.2.2 ≠ gb371) ∧ (gb383 ≠ s_.2.2) ∧ (s_.2.2 ≠ gb383) ∧ (gb403 ≠ s_.2.2) ∧ (s_.2.2 ≠ gb403) ∧ (gb422 ≠ s_.2.2) ∧ (s_.2.2 ≠ gb422) ∧ (Below w.heap.size w w')) ?_ ?_
               rotate_left
               ·
                intro hCont
                refine two_ (i := 4) (j := 8) (Ni := some 114) (Nj := some 19) #[true, true, true, true, true, false, false, false, false, false, false] #[true, true, true, true, false, false, false, false, true, false, false] rfl rfl rfl rfl (two_of HT_.out (by kernel_rfl)) (by decide) (by decide) (fun K hK => ?_) (fun K hK => ?_)
                ·
                 skip
                 refine goes_ Try.func12 (by kernel_rfl) rfl #[.agg #[.slice Ao197 t413.length co197, .bool t416, .int .i64 t417, .slice Ao201 t418.length co201], .slice A205 (l1.drop (x16_114 : Int).toNat).length (c1 - x16_114.toNat)] (by rfl) rfl rfl (by (try simp only [List.map_toArray, List.map_cons, List.map_nil]); first | done | (rw [show (l1.drop (x16_114 : Int).toNat).length = (l1.length - x16_114.toNat) from List.length_drop] <;> rfl) | rfl | (simp only [List.length_drop, List.length_take]; rfl)) ?_
                 with_reducible refine (wire_Write.calls (fun k_ => (k_ ≠ gb340 ∧ (k_ ≠ gb371 ∧ (k_ ≠ gb383 ∧ (k_ ≠ gb403 ∧ k_ ≠ gb422))))) _ _ t413 t416 t417 (fun k_ => (k_ ≠ gb340 ∧ (k_ ≠ gb371 ∧ (k_ ≠ gb383 ∧ (k_ ≠ gb403 ∧ k_ ≠ gb422))))) _ _ t418 _ _ (l1.drop (x16_114 : Int).toNat) t424 t427 t428 t429 t432 _ ?side1 ?side2 ?side3 ?side4 A123.out).mono ?_
                 (case side1 => exact HO415.out)
                 (case side2 => exact HO420.out)
                 (case side3 => exact Kd.C_below HR423.out (bb HB))
                 (case side4 => exact HC423.out)
                 rintro e w206 ⟨v425, v430, rfl, ho0, ho1, hb⟩
                 refine ⟨_, rfl, ?_⟩
                 replace HO_372000 := vB HO_372000 hb
                 replace HO_372003 := vB HO_372003 hb
                 replace HO_384000 := vB HO_384000 hb
                 replace HO_384003 := vB HO_384003 hb
                 replace HO_404000 := vB HO_404000 hb
                 replace HO_404003 := vB HO_404003 hb
                 replace HO406 := vB HO406 hb
                 replace HO411 := vB HO411 hb
                 replace HO415 := vB HO415 hb
                 replace HO420 := vB HO420 hb
                 have HO426 := Aside0.mk (Kd.V_lower (Kd.V_mono (ok' := fun k_ => k_ ≠ gb340 ∧ k_ ≠ gb371 ∧ k_ ≠ gb383 ∧ k_ ≠ gb403 ∧ k_ ≠ gb422) ho0 (fun k_ hk_ => ⟨oe hk_ (fun h => h.1) (fun h => h.1) (Kd.freshB (kk BK340) k_), oe hk_ (fun h => h.2.1) (fun h => h.2.1) (Kd.freshB (kk BK371) k_), oe hk_ (fun h => h.2.2.1) (fun h => h.2.2.1) (Kd.freshB (kk BK383) k_), oe hk_ (fun h => h.2.2.2.1) (fun h => h.2.2.2.1) (Kd.freshB (kk BK403) k_), oe hk_ (fun h => h.2.2.2.2) (fun h => h.2.2.2.2) (Kd.freshB (kk BK422) k_)⟩)) (below_size (bb HB)))
                 have HO431 := Aside0.mk (Kd.V_lower (Kd.V_mono (ok' := fun k_ => k_ ≠ gb340 ∧ k_ ≠ gb371 ∧ k_ ≠ gb383 ∧ k_ ≠ gb403 ∧ k_ ≠ gb422) ho1 (fun k_ hk_ => ⟨oe hk_ (fun h => h.1) (fun h => h.1) (Kd.freshB (kk BK340) k_), oe hk_ (fun h => h.2.1) (fun h => h.2.1) (Kd.freshB (kk BK371) k_), oe hk_ (fun h => h.2.2.1) (fun h => h.2.2.1) (Kd.freshB (kk BK383) k_), oe hk_ (fun h => h.2.2.2.1) (fun h => h.2.2.2.1) (Kd.freshB (kk BK403) k_), oe hk_ (fun h => h.2.2.2.2) (fun h => h.2.2.2.2) (Kd.freshB (kk BK422) k_)⟩)) (below_size (bb HB)))
                 replace BK340 := kB BK340 hb
                 replace BK371 := kB BK371 hb
                 replace BK383 := kB BK383 hb
                 replace BK403 := kB BK403 hb
                 replace BK422 := kB BK422 hb
                 replace HB := hB HB hb
                 (try clear hb)
                 (try clear hb2)
                 (try clear hk)
                 (try clear hi)
                 (try clear ho0)
                 (try clear ho1)
                 refine hK.out _ _ ⟨cx BK422 0, cx BK422 1, cx BK422 2, cx BK422 3⟩ (fun hHeld => ?_)
                 clear hK K
                 refine norm_ (a' := ?_) ?_ ?_
                 rotate_left
                 ·
                  show Act.put _ (some 114) _ = _
                  simp only [Act.put, List.setIfInBounds_toArray, List.set_cons_zero, List.set_cons_succ, i64_w, i32_w]
                  rfl
                 refine pure_ (i := 5) (N := some 109) (v := ?_) (a' := ?_) #[true, true, true, true, true, true, false, false, false, false, false] rfl rfl (any_of HT_.out (by kernel_rfl)) (fun _ _ _ h => h) (Or.inl ⟨by rfl, ?_⟩) ?_ ?_
                 rotate_left
                 · intro w'; go_simp; with_reducible rfl
                 rotate_left
                 · simp only [Act.put, List.setIfInBounds_toArray, List.set_cons_zero, List.set_cons_succ, i64_w, i32_w]; rfl
                 refine pure_ (i := 6) (N := some 115) (v := ?_) (a' := ?_) #[true, true, true, true, true, true, true, false, false, false, false] rfl rfl (any_of HT_.out (by kernel_rfl)) (fun _ _ _ h => h) (Or.inl ⟨by rfl, ?_⟩) ?_ ?_
                 rotate_left
                 · intro w'; go_simp; with_reducible rfl
                 rotate_left
                 · simp only [Act.put, List.setIfInBounds_toArray, List.set_cons_zero, List.set_cons_succ, i64_w, i32_w]; rfl
                 refine pure_ (i := 7) (N := some 116) (v := ?_) (a' := ?_) #[true, true, true, true, true, true, true, true, false, false, false] rfl rfl (any_of HT_.out (by kernel_rfl)) (fun _ _ _ h => h) (Or.inl ⟨by rfl, ?_⟩) ?_ ?_
                 rotate_left
                 · intro w'; go_simp; with_reducible rfl
                 rotate_left
                 · simp only [Act.put, List.setIfInBounds_toArray, List.set_cons_zero, List.set_cons_succ, i64_w, i32_w]; rfl
                 refine one_ (i := 8) (N := some 19) #[true, true, true, true, true, true, true, true, true, false, false] rfl rfl (one_of HT_.out (by kernel_rfl)) (by decide) (fun K hK => ?_)
                 refine box_step ?hg (N := 19) ?hd (cs := #[.slice none 0 0, .bool false, .int .i64 0, .slice none 0 0]) (t := 27) ?hr ?_; (case hd => rfl); (case hg => rfl); (case hr => first | (go_simp; done) | (go_simp; rfl))
                 intro gb433 hg w207 hbox hb
                 replace HO_372000 := vE HO_372000 hg hb
                 replace HO_372003 := vE HO_372003 hg hb
                 replace HO_384000 := vE HO_384000 hg hb
                 replace HO_384003 := vE HO_384003 hg hb
                 replace HO_404000 := vE HO_404000 hg hb
                 replace HO_404003 := vE HO_404003 hg hb
                 replace HO406 := vE HO406 hg hb
                 replace HO411 := vE HO411 hg hb
                 replace HO415 := vE HO415 hg hb
                 replace HO420 := vE HO420 hg hb
                 replace HO426 := vE HO426 hg hb
                 replace HO431 := vE HO431 hg hb
                 have BK433 := Aside0.mk hbox
                 have GW433 := gE HB hg
                 have GE433 := gE HB hg
                 replace HB := hB HB hb
                 have NB340_433 := nL BK340 hg
                 have NB433_340 := nG BK340 hg
                 replace BK340 := kB BK340 hb
                 have NB371_433 := nL BK371 hg
                 have NB433_371 := nG BK371 hg
                 replace BK371 := kB BK371 hb
                 have NB383_433 := nL BK383 hg
                 have NB433_383 := nG BK383 hg
                 replace BK383 := kB BK383 hb
                 have NB403_433 := nL BK403 hg
                 have NB433_403 := nG BK403 hg
                 replace BK403 := kB BK403 hb
                 have NB422_433 := nL BK422 hg
                 have NB433_422 := nG BK422 hg
                 replace BK422 := kB BK422 hb
                 clear hb hbox hg
                 refine hK.out _ _ ⟨cx BK422 0, cx BK422 1, cx BK422 2, cx BK422 3⟩ (fun hHeld => ?_)
                 clear hK K
                 refine norm_ (a' := ?_) ?_ ?_
                 rotate_left
                 ·
                  show Act.put _ (some 19) _ = _
                  simp only [Act.put, List.setIfInBounds_toArray, List.set_cons_zero, List.set_cons_succ, i64_w, i32_w]
                  rfl
                 exact norm_ (by simp only [putAll, Act.put, List.setIfInBounds_toArray, List.set_cons_zero, List.set_cons_succ]) (hCont (v425, v430, gb433) _ ⟨hHeld, (vM HO406), (vM HO411), (vM HO415), (vM HO420), (vM HO426), (vM HO431), (vM HO_372000), (vM HO_372003), (vM HO_384000), (vM HO_384003), (vM HO_404000), (vM HO_404003), (kk BK340), (kk BK371), (kk BK383), (kk BK403), (kk BK422), (kk BK433), GW433.out, GE433.out, NB340_433.out, NB433_340.out, NB371_433.out, NB433_371.out, NB383_433.out, NB433_383.out, NB403_433.out, NB433_403.out, NB422_433.out, NB433_422.out, (bb HB)⟩)
                ·
                 skip
                 refine box_step ?hg (N := 19) ?hd (cs := #[.slice none 0 0, .bool false, .int .i64 0, .slice none 0 0]) (t := 27) ?hr ?_; (case hd => rfl); (case hg => rfl); (case hr => first | (go_simp; done) | (go_simp; rfl))
                 intro gb433 hg w206 hbox hb
                 replace HO_372000 := vE HO_372000 hg hb
                 replace HO_372003 := vE HO_372003 hg hb
                 replace HO_384000 := vE HO_384000 hg hb
                 replace HO_384003 := vE HO_384003 hg hb
                 replace HO_404000 := vE HO_404000 hg hb
                 replace HO_404003 := vE HO_404003 hg hb
                 replace HO406 := vE HO406 hg hb
                 replace HO411 := vE HO411 hg hb
                 replace HO415 := vE HO415 hg hb
                 replace HO420 := vE HO420 hg hb
                 have BK433 := Aside0.mk hbox
                 have GW433 := gE HB hg
                 have GE433 := gE HB hg
                 replace HB := hB HB hb
                 have NB340_433 := nL BK340 hg
                 have NB433_340 := nG BK340 hg
                 replace BK340 := kB BK340 hb
                 have NB371_433 := nL BK371 hg
                 have NB433_371 := nG BK371 hg
                 replace BK371 := kB BK371 hb
                 have NB383_433 := nL BK383 hg
                 have NB433_383 := nG BK383 hg
                 replace BK383 := kB BK383 hb
                 have NB403_433 := nL BK403 hg
                 have NB433_403 := nG BK403 hg
                 replace BK403 := kB BK403 hb
                 have NB422_433 := nL BK422 hg
                 have NB433_422 := nG BK422 hg
                 replace BK422 := kB BK422 hb
                 clear hb hbox hg
                 refine hK.out _ _ ⟨cx BK422 0, cx BK422 1, cx BK422 2, cx BK422 3⟩ (fun hHeld => ?_)
                 clear hK K
                 refine norm_ (a' := ?_) ?_ ?_
                 rotate_left
                 ·
                  show Act.put _ (some 19) _ = _
                  simp only [Act.put, List.setIfInBounds_toArray, List.set_cons_zero, List.set_cons_succ, i64_w, i32_w]
                  rfl
                 refine one_ (i := 4) (N := some 114) #[true, true, true, true, true, false, false, false, true, false, false] rfl rfl (one_of HT_.out (by kernel_rfl)) (by decide) (fun K hK => ?_)
                 refine goes_ Try.func12 (by kernel_rfl) rfl #[.agg #[.slice Ao197 t413.length co197, .bool t416, .int .i64 t417, .slice Ao201 t418.length co201], .slice A205 (l1.drop (x16_114 : Int).toNat).length (c1 - x16_114.toNat)] (by rfl) rfl rfl (by (try simp only [List.map_toArray, List.map_cons, List.map_nil]); first | done | (rw [show (l1.drop (x16_114 : Int).toNat).length = (l1.length - x16_114.toNat) from List.length_drop] <;> rfl) | rfl | (simp only [List.length_drop, List.length_take]; rfl)) ?_
                 with_reducible refine (wire_Write.calls (fun k_ => ((k_ ≠ gb340 ∧ (k_ ≠ gb371 ∧ (k_ ≠ gb383 ∧ (k_ ≠ gb403 ∧ k_ ≠ gb422)))) ∧ k_ ≠ gb433)) _ _ t413 t416 t417 (fun k_ => ((k_ ≠ gb340 ∧ (k_ ≠ gb371 ∧ (k_ ≠ gb383 ∧ (k_ ≠ gb403 ∧ k_ ≠ gb422)))) ∧ k_ ≠ gb433)) _ _ t418 _ _ (l1.drop (x16_114 : Int).toNat) t424 t427 t428 t429 t432 _ ?side1 ?side2 ?side3 ?side4 A123.out).mono ?_
                 (case side1 => exact HO415.out)
                 (case side2 => exact HO420.out)
                 (case side3 => exact Kd.C_below HR423.out (bb HB))
                 (case side4 => exact HC423.out)
                 rintro e w207 ⟨v425, v430, rfl, ho0, ho1, hb⟩
                 refine ⟨_, rfl, ?_⟩
                 replace HO_372000 := vB HO_372000 hb
                 replace HO_372003 := vB HO_372003 hb
                 replace HO_384000 := vB HO_384000 hb
                 replace HO_384003 := vB HO_384003 hb
                 replace HO_404000 := vB HO_404000 hb
                 replace HO_404003 := vB HO_404003 hb
                 replace HO406 := vB HO406 hb
                 replace HO411 := vB HO411 hb
                 replace HO415 := vB HO415 hb
                 replace HO420 := vB HO420 hb
                 have HO426 := Aside0.mk (Kd.V_lower (Kd.V_mono (ok' := fun k_ => k_ ≠ gb340 ∧ k_ ≠ gb371 ∧ k_ ≠ gb383 ∧ k_ ≠ gb403 ∧ k_ ≠ gb422 ∧ k_ ≠ gb433) ho0 (fun k_ hk_ => ⟨oe hk_ (fun h => h.1.1) (fun h => h.1.1) (Kd.freshB (kk BK340) k_), oe hk_ (fun h => h.1.2.1) (fun h => h.1.2.1) (Kd.freshB (kk BK371) k_), oe hk_ (fun h => h.1.2.2.1) (fun h => h.1.2.2.1) (Kd.freshB (kk BK383) k_), oe hk_ (fun h => h.1.2.2.2.1) (fun h => h.1.2.2.2.1) (Kd.freshB (kk BK403) k_), oe hk_ (fun h => h.1.2.2.2.2) (fun h => h.1.2.2.2.2) (Kd.freshB (kk BK422) k_), oe hk_ (fun h => h.2) (fun h => h.2) (Kd.freshB (kk BK433) k_)⟩)) (below_size (bb HB)))
                 have HO431 := Aside0.mk (Kd.V_lower (Kd.V_mono (ok' := fun k_ => k_ ≠ gb340 ∧ k_ ≠ gb371 ∧ k_ ≠ gb383 ∧ k_ ≠ gb403 ∧ k_ ≠ gb422 ∧ k_ ≠ gb433) ho1 (fun k_ hk_ => ⟨oe hk_ (fun h => h.1.1) (fun h => h.1.1) (Kd.freshB (kk BK340) k_), oe hk_ (fun h => h.1.2.1) (fun h => h.1.2.1) (Kd.freshB (kk BK371) k_), oe hk_ (fun h => h.1.2.2.1) (fun h => h.1.2.2.1) (Kd.freshB (kk BK383) k_), oe hk_ (fun h => h.1.2.2.2.1) (fun h => h.1.2.2.2.1) (Kd.freshB (kk BK403) k_), oe hk_ (fun h => h.1.2.2.2.2) (fun h => h.1.2.2.2.2) (Kd.freshB (kk BK422) k_), oe hk_ (fun h => h.2) (fun h => h.2) (Kd.freshB (kk BK433) k_)⟩)) (below_size (bb HB)))
                 replace BK340 := kB BK340 hb
                 replace BK371 := kB BK371 hb
                 replace BK383 := kB BK383 hb
                 replace BK403 := kB BK403 hb
                 replace BK422 := kB BK422 hb
                 replace BK433 := kB BK433 hb
                 replace HB := hB HB hb
                 (try clear hb)
                 (try clear hb2)
                 (try clear hk)
                 (try clear hi)
                 (try clear ho0)
                 (try clear ho1)
                 refine hK.out _ _ ⟨cx BK422 0, cx BK422 1, cx BK422 2, cx BK422 3⟩ (fun hHeld => ?_)
                 clear hK K
                 refine norm_ (a' := ?_) ?_ ?_
                 rotate_left
                 ·
                  show Act.put _ (some 114) _ = _
                  simp only [Act.put, List.setIfInBounds_toArray, List.set_cons_zero, List.set_cons_succ, i64_w, i32_w]
                  rfl
                 refine pure_ (i := 5) (N := some 109) (v := ?_) (a' := ?_) #[true, true, true, true, true, true, false, false, true, false, false] rfl rfl (any_of HT_.out (by kernel_rfl)) (fun _ _ _ h => h) (Or.inl ⟨by rfl, ?_⟩) ?_ ?_
                 rotate_left
                 · intro w'; go_simp; with_reducible rfl
                 rotate_left
                 · simp only [Act.put, List.setIfInBounds_toArray, List.set_cons_zero, List.set_cons_succ, i64_w, i32_w]; rfl
                 refine pure_ (i := 6) (N := some 115) (v := ?_) (a' := ?_) #[true, true, true, true, true, true, true, false, true, false, false] rfl rfl (any_of HT_.out (by kernel_rfl)) (fun _ _ _ h => h) (Or.inl ⟨by rfl, ?_⟩) ?_ ?_
                 rotate_left
                 · intro w'; go_simp; with_reducible rfl
                 rotate_left
                 · simp only [Act.put, List.setIfInBounds_toArray, List.set_cons_zero, List.set_cons_succ, i64_w, i32_w]; rfl
                 refine pure_ (i := 7) (N := some 116) (v := ?_) (a' := ?_) #[true, true, true, true, true, true, true, true, true, false, false] rfl rfl (any_of HT_.out (by kernel_rfl)) (fun _ _ _ h => h) (Or.inl ⟨by rfl, ?_⟩) ?_ ?_
                 rotate_left
                 · intro w'; go_simp; with_reducible rfl
                 rotate_left
                 · simp only [Act.put, List.setIfInBounds_toArray, List.set_cons_zero, List.set_cons_succ, i64_w, i32_w]; rfl
                 exact norm_ (by simp only [putAll, Act.put, List.setIfInBounds_toArray, List.set_cons_zero, List.set_cons_succ]) (hCont (v425, v430, gb433) _ ⟨hHeld, (vM HO406), (vM HO411), (vM HO415), (vM HO420), (vM HO426), (vM HO431), (vM HO_372000), (vM HO_372003), (vM HO_384000), (vM HO_384003), (vM HO_404000), (vM HO_404003), (kk BK340), (kk BK371), (kk BK383), (kk BK403), (kk BK422), (kk BK433), GW433.out, GE433.out, NB340_433.out, NB433_340.out, NB371_433.out, NB433_371.out, NB383_433.out, NB433_383.out, NB403_433.out, NB433_403.out, NB422_433.out, NB433_422.out, (bb HB)⟩)
               clear HO_372000 HO_372003 HO_384000 HO_384003 HO_404000 HO_404003 HO406 HO411 HO415 HO420 BK340 BK371 BK383 BK403 BK422 HB
               rintro ⟨v425, v430, gb433⟩ w208 hS_
               dsimp only at hS_
               obtain ⟨hHeld, h0_, h1_, h2_, h3_, h4_, h5_, h6_, h7_, h8_, h9_, h10_, h11_, h12_, h13_, h14_, h15_, h16_, h17_, h18_, h19_, h20_, h21_, h22_, h23_, h24_, h25_, h26_, h27_, h28_, h29_, h30_⟩ := hS_
               have HO406 := Aside0.mk h0_
               have HO411 := Aside0.mk h1_
               have HO415 := Aside0.mk h2_
               have HO420 := Aside0.mk h3_
               have HO426 := Aside0.mk h4_
               have HO431 := Aside0.mk h5_
               have HO_372000 := Aside0.mk h6_
               have HO_372003 := Aside0.mk h7_
               have HO_384000 := Aside0.mk h8_
               have HO_384003 := Aside0.mk h9_
               have HO_404000 := Aside0.mk h10_
               have HO_404003 := Aside0.mk h11_
               have BK340 := Aside0.mk h12_
               have BK371 := Aside0.mk h13_
               have BK383 := Aside0.mk h14_
               have BK403 := Aside0.mk h15_
               have BK422 := Aside0.mk h16_
               have BK433 := Aside0.mk h17_
               have GW433 := Aside0.mk h18_
               have GE433 := Aside0.mk h19_
               have NB340_433 := Aside0.mk h20_
               have NB433_340 := Aside0.mk h21_
               have NB371_433 := Aside0.mk h22_
               have NB433_371 := Aside0.mk h23_
               have NB383_433 := Aside0.mk h24_
               have NB433_383 := Aside0.mk h25_
               have NB403_433 := Aside0.mk h26_
               have NB433_403 := Aside0.mk h27_
               have NB422_433 := Aside0.mk h28_
               have NB433_422 := Aside0.mk h29_
               have HB := Aside0.mk h30_
               clear h0_ h1_ h2_ h3_ h4_ h5_ h6_ h7_ h8_ h9_ h10_ h11_ h12_ h13_ h14_ h15_ h16_ h17_ h18_ h19_ h20_ h21_ h22_ h23_ h24_ h25_ h26_ h27_ h28_ h29_ h30_
               obtain ⟨Ao209, co209, eo209⟩ := Kd.V_slice HO426.out
               (first | subst eo209 | (injection eo209 with f1_ f2_ f3_; have f4_ := f1_.symm; have f5_ := f3_.symm; clear f1_ f2_ f3_; subst f4_; subst f5_))
               obtain ⟨Ao213, co213, eo213⟩ := Kd.V_slice HO431.out
               (first | subst eo213 | (injection eo213 with f1_ f2_ f3_; have f4_ := f1_.symm; have f5_ := f3_.symm; clear f1_ f2_ f3_; subst f4_; subst f5_))
               refine norm_ (a' := ?_) ?_ ?_
               rotate_left
               · simp only [putAll, Act.put, List.setIfInBounds_toArray, List.set_cons_zero, List.set_cons_succ]; rfl
               refine one_ (i := 9) (N := none) #[true, true, true, true, true, true, true, true, true, true, false] rfl rfl (one_of HT_.out (by kernel_rfl)) (by decide) (fun K hK => ?_)
               have hs210 : w208.cell? ⟨gb433, 0, none⟩ = some (.slice none 0 0) := cx BK433 0
               have hfs210 := blk_frozen BK433.out 0
               have hns210_0 := NB340_433.out
               have hns210_1 := NB371_433.out
               have hns210_2 := NB383_433.out
               have hns210_3 := NB403_433.out
               have hns210_4 := NB422_433.out
               have hms210_0 := NB433_340.out
               have hms210_1 := NB433_371.out
               have hms210_2 := NB433_383.out
               have hms210_3 := NB433_403.out
               have hms210_4 := NB433_422.out
               have hs211 : w208.cell? ⟨gb433, 1, none⟩ = some (.bool false) := cx BK433 1
               have hfs211 := blk_frozen BK433.out 1
               have hns211_0 := NB340_433.out
               have hns211_1 := NB371_433.out
               have hns211_2 := NB383_433.out
               have hns211_3 := NB403_433.out
               have hns211_4 := NB422_433.out
               have hms211_0 := NB433_340.out
               have hms211_1 := NB433_371.out
               have hms211_2 := NB433_383.out
               have hms211_3 := NB433_403.out
               have hms211_4 := NB433_422.out
               have hs212 : w208.cell? ⟨gb433, 2, none⟩ = some (.int .i64 0) := cx BK433 2
               have hfs212 := blk_frozen BK433.out 2
               have hns212_0 := NB340_433.out
               have hns212_1 := NB371_433.out
               have hns212_2 := NB383_433.out
               have hns212_3 := NB403_433.out
               have hns212_4 := NB422_433.out
               have hms212_0 := NB433_340.out
               have hms212_1 := NB433_371.out
               have hms212_2 := NB433_383.out
               have hms212_3 := NB433_403.out
               have hms212_4 := NB433_422.out
               have hs214 : w208.cell? ⟨gb433, 3, none⟩ = some (.slice none 0 0) := cx BK433 3
               have hfs214 := blk_frozen BK433.out 3
               have hns214_0 := NB340_433.out
               have hns214_1 := NB371_433.out
               have hns214_2 := NB383_433.out
               have hns214_3 := NB403_433.out
               have hns214_4 := NB422_433.out
               have hms214_0 := NB433_340.out
               have hms214_1 := NB433_371.out
               have hms214_2 := NB433_383.out
               have hms214_3 := NB433_403.out
               have hms214_4 := NB433_422.out
               refine skip_ (w1 := ?_) (by rfl) rfl ?_ ?_
               rotate_left
               · go_simp; rfl
               refine hK.out _ _ ⟨((cell_far (p := ⟨gb433, _, none⟩) NB422_433.out _).trans (((cell_far (p := ⟨gb433, _, none⟩) NB422_433.out _).trans (((cell_far (p := ⟨gb433, _, none⟩) NB422_433.out _).trans (((cell_far (p := ⟨gb433, _, none⟩) NB422_433.out _).trans (hHeld.1)))))))), ((cell_far (p := ⟨gb433, _, none⟩) NB422_433.out _).trans (((cell_far (p := ⟨gb433, _, none⟩) NB422_433.out _).trans (((cell_far (p := ⟨gb433, _, none⟩) NB422_433.out _).trans (((cell_far (p := ⟨gb433, _, none⟩) NB422_433.out _).trans (hHeld.2.1)))))))), ((cell_far (p := ⟨gb433, _, none⟩) NB422_433.out _).trans (((cell_far (p := ⟨gb433, _, none⟩) NB422_433.out _).trans (((cell_far (p := ⟨gb433, _, none⟩) NB422_433.out _).trans (((cell_far (p := ⟨gb433, _, none⟩) NB422_433.out _).trans (hHeld.2.2.1)))))))), ((cell_far (p := ⟨gb433, _, none⟩) NB422_433.out _).trans (((cell_far (p := ⟨gb433, _, none⟩) NB422_433.out _).trans (((cell_far (p := ⟨gb433, _, none⟩) NB422_433.out _).trans (((cell_far (p := ⟨gb433, _, none⟩) NB422_433.out _).trans (hHeld.2.2.2))))))))⟩ (fun hHeld => ?_)
               clear hK K
               refine pure_ (i := 10) (N := some 20) (v := ?_) (a' := ?_) #[true, true, true, true, true, true, true, true, true, true, true] rfl rfl (any_of HT_.out (by kernel_rfl)) (fun _ _ _ h => h) (Or.inl ⟨by rfl, ?_⟩) ?_ ?_
               rotate_left
               · intro w'; go_simp; with_reducible rfl
               rotate_left
               · simp only [Act.put, List.setIfInBounds_toArray, List.set_cons_zero, List.set_cons_succ, i64_w, i32_w]; rfl
               refine done_ (done_of HT_.out (by kernel_rfl)) ?_
               obtain ⟨w215, hw⟩ : ∃ w_, w_ = ((((w208.setCell ⟨gb433, 0, none⟩ (.slice Ao209 t424.length co209)).setCell ⟨gb433, 1, none⟩ (.bool t427)).setCell ⟨gb433, 2, none⟩ (.int .i64 t428)).setCell ⟨gb433, 3, none⟩ (.slice Ao213 t429.length co213)) := ⟨_, rfl⟩
               rw [← hw]
               replace HO_372000 := vS (fun k_ => k_ ≠ gb340 ∧ k_ ≠ gb371 ∧ k_ ≠ gb383 ∧ k_ ≠ gb403 ∧ k_ ≠ gb422 ∧ k_ ≠ gb433) HO_372000 hw
               replace HO_372003 := vS (fun k_ => k_ ≠ gb340 ∧ k_ ≠ gb371 ∧ k_ ≠ gb383 ∧ k_ ≠ gb403 ∧ k_ ≠ gb422 ∧ k_ ≠ gb433) HO_372003 hw
               replace HO_384000 := vS (fun k_ => k_ ≠ gb340 ∧ k_ ≠ gb371 ∧ k_ ≠ gb383 ∧ k_ ≠ gb403 ∧ k_ ≠ gb422 ∧ k_ ≠ gb433) HO_384000 hw
               replace HO_384003 := vS (fun k_ => k_ ≠ gb340 ∧ k_ ≠ gb371 ∧ k_ ≠ gb383 ∧ k_ ≠ gb403 ∧ k_ ≠ gb422 ∧ k_ ≠ gb433) HO_384003 hw
               replace HO_404000 := vS (fun k_ => k_ ≠ gb340 ∧ k_ ≠ gb371 ∧ k_ ≠ gb383 ∧ k_ ≠ gb403 ∧ k_ ≠ gb422 ∧ k_ ≠ gb433) HO_404000 hw
               replace HO_404003 := vS (fun k_ => k_ ≠ gb340 ∧ k_ ≠ gb371 ∧ k_ ≠ gb383 ∧ k_ ≠ gb403 ∧ k_ ≠ gb422 ∧ k_ ≠ gb433) HO_404003 hw
               replace HO406 := vS (fun k_ => k_ ≠ gb340 ∧ k_ ≠ gb371 ∧ k_ ≠ gb383 ∧ k_ ≠ gb403 ∧ k_ ≠ gb422 ∧ k_ ≠ gb433) HO406 hw
               replace HO411 := vS (fun k_ => k_ ≠ gb340 ∧ k_ ≠ gb371 ∧ k_ ≠ gb383 ∧ k_ ≠ gb403 ∧ k_ ≠ gb422 ∧ k_ ≠ gb433) HO411 hw
               replace HO415 := vS (fun k_ => k_ ≠ gb340 ∧ k_ ≠ gb371 ∧ k_ ≠ gb383 ∧ k_ ≠ gb403 ∧ k_ ≠ gb422 ∧ k_ ≠ gb433) HO415 hw
               replace HO420 := vS (fun k_ => k_ ≠ gb340 ∧ k_ ≠ gb371 ∧ k_ ≠ gb383 ∧ k_ ≠ gb403 ∧ k_ ≠ gb422 ∧ k_ ≠ gb433) HO420 hw
               replace HO426 := vS (fun k_ => k_ ≠ gb340 ∧ k_ ≠ gb371 ∧ k_ ≠ gb383 ∧ k_ ≠ gb403 ∧ k_ ≠ gb422 ∧ k_ ≠ gb433) HO426 hw
               replace HO431 := vS (fun k_ => k_ ≠ gb340 ∧ k_ ≠ gb371 ∧ k_ ≠ gb383 ∧ k_ ≠ gb403 ∧ k_ ≠ gb422 ∧ k_ ≠ gb433) HO431 hw
               replace BK340 := kS BK340 hw
               replace BK371 := kS BK371 hw
               replace BK383 := kS BK383 hw
               replace BK403 := kS BK403 hw
               replace BK422 := kS BK422 hw
               replace BK433 := kP4 BK433 hw
               replace HB := hS HB hw
               clear hw
               have hnb216 := NB340_371.out
               have hnc216 := NB371_340.out
               have hnb217 := NB340_383.out
               have hnc217 := NB383_340.out
               have hnb218 := NB340_403.out
               have hnc218 := NB403_340.out
               have hnb219 := NB340_422.out
               have hnc219 := NB422_340.out
               have hnb220 := NB340_433.out
               have hnc220 := NB433_340.out
               obtain ⟨hcz221_0, hcz221_1, hcz221_2, hcz221_3, hfz221_0, hfz221_1, hfz221_2, hfz221_3⟩ := bc4 BK340
               try go_wp2_with (first | ((with_reducible refine gate_callee (f := 16) rfl ?_); refine gL (some 119) rfl rfl Try.func16 (by kernel_rfl) rfl #[.agg #[.slice A0_0 l0_0.length c0_0, .bool a0_1, .int .i64 a0_2, .slice A0_3 l0_3.length c0_3]] rfl ?_; (with_reducible refine (pentroughlaw19_ours.calls (fun k_ => k_ < w.heap.size) _ _ l0_0 a0_1 a0_2 (fun k_ => k_ < w.heap.size) _ _ l0_3 t434 t437 t438 t439 _ ?side1 ?side2 A124.out).mono ?_); (case side1 => exact Kd.V_mk HC0_0.out (Kd.F_below (Kd.C_F (Kd.heap_int .u8) HR0_0.out) (bb HB))); (case side2 => exact Kd.V_mk HC0_3.out (Kd.F_below (Kd.C_F (Kd.heap_int .u8) HR0_3.out) (bb HB))); rintro e w222 ⟨v435, v440, rfl, ho0, ho1, hb⟩; refine ⟨_, rfl, ?_⟩; replace HO_372000 := vB HO_372000 hb; replace HO_372003 := vB HO_372003 hb; replace HO_384000 := vB HO_384000 hb; replace HO_384003 := vB HO_384003 hb; replace HO_404000 := vB HO_404000 hb; replace HO_404003 := vB HO_404003 hb; replace HO406 := vB HO406 hb; replace HO411 := vB HO411 hb; replace HO415 := vB HO415 hb; replace HO420 := vB HO420 hb; replace HO426 := vB HO426 hb; replace HO431 := vB HO431 hb; have HO436 := Aside0.mk (Kd.V_lower (Kd.V_mono (ok' := fun k_ => k_ ≠ gb340 ∧ k_ ≠ gb371 ∧ k_ ≠ gb383 ∧ k_ ≠ gb403 ∧ k_ ≠ gb422 ∧ k_ ≠ gb433) ho0 (fun k_ hk_ => ⟨oe hk_ (gw GW340) (gw GW340) (Kd.freshB (kk BK340) k_), oe hk_ (gw GW371) (gw GW371) (Kd.freshB (kk BK371) k_), oe hk_ (gw GW383) (gw GW383) (Kd.freshB (kk BK383) k_), oe hk_ (gw GW403) (gw GW403) (Kd.freshB (kk BK403) k_), oe hk_ (gw GW422) (gw GW422) (Kd.freshB (kk BK422) k_), oe hk_ (gw GW433) (gw GW433) (Kd.freshB (kk BK433) k_)⟩)) (below_size (bb HB))); have HO441 := Aside0.mk (Kd.V_lower (Kd.V_mono (ok' := fun k_ => k_ ≠ gb340 ∧ k_ ≠ gb371 ∧ k_ ≠ gb383 ∧ k_ ≠ gb403 ∧ k_ ≠ gb422 ∧ k_ ≠ gb433) ho1 (fun k_ hk_ => ⟨oe hk_ (gw GW340) (gw GW340) (Kd.freshB (kk BK340) k_), oe hk_ (gw GW371) (gw GW371) (Kd.freshB (kk BK371) k_), oe hk_ (gw GW383) (gw GW383) (Kd.freshB (kk BK383) k_), oe hk_ (gw GW403) (gw GW403) (Kd.freshB (kk BK403) k_), oe hk_ (gw GW422) (gw GW422) (Kd.freshB (kk BK422) k_), oe hk_ (gw GW433) (gw GW433) (Kd.freshB (kk BK433) k_)⟩)) (below_size (bb HB))); replace BK340 := kB BK340 hb; replace BK371 := kB BK371 hb; replace BK383 := kB BK383 hb; replace BK403 := kB BK403 hb; replace BK422 := kB BK422 hb; replace BK433 := kB BK433 hb; replace HB := hB HB hb; (try clear hb); (try clear hb2); (try clear hk); (try clear hi); (try clear ho0); (try clear ho1); obtain ⟨Ao223, co223, eo223⟩ := Kd.V_slice HO436.out; subst eo223; obtain ⟨Ao224, co224, eo224⟩ := Kd.V_slice HO441.out; subst eo224) | ((with_reducible refine gate_callee (f := 12) rfl ?_); refine gL (some 121) rfl rfl Try.func12 (by kernel_rfl) rfl #[.agg #[.slice Ao223 t434.length co223, .bool t437, .int .i64 t438, .slice Ao224 t439.length co224], .slice A1 l1.length c1] rfl ?_; (with_reducible refine (wire_Write.calls (fun k_ => (k_ ≠ gb340 ∧ (k_ ≠ gb371 ∧ (k_ ≠ gb383 ∧ (k_ ≠ gb403 ∧ (k_ ≠ gb422 ∧ k_ ≠ gb433)))))) _ _ t434 t437 t438 (fun k_ => (k_ ≠ gb340 ∧ (k_ ≠ gb371 ∧ (k_ ≠ gb383 ∧ (k_ ≠ gb403 ∧ (k_ ≠ gb422 ∧ k_ ≠ gb433)))))) _ _ t439 _ _ l1 t442 t445 t446 t447 t450 _ ?side1 ?side2 ?side3 ?side4 A125.out).mono ?_); (case side1 => exact HO436.out); (case side2 => exact HO441.out); (case side3 => exact Kd.C_below HR1.out (bb HB)); (case side4 => exact HC1.out); rintro e w225 ⟨v443, v448, rfl, ho0, ho1, hb⟩; refine ⟨_, rfl, ?_⟩; replace HO_372000 := vB HO_372000 hb; replace HO_372003 := vB HO_372003 hb; replace HO_384000 := vB HO_384000 hb; replace HO_384003 := vB HO_384003 hb; replace HO_404000 := vB HO_404000 hb; replace HO_404003 := vB HO_404003 hb; replace HO406 := vB HO406 hb; replace HO411 := vB HO411 hb; replace HO415 := vB HO415 hb; replace HO420 := vB HO420 hb; replace HO426 := vB HO426 hb; replace HO431 := vB HO431 hb; replace HO436 := vB HO436 hb; replace HO441 := vB HO441 hb; have HO444 := Aside0.mk (Kd.V_lower (Kd.V_mono (ok' := fun k_ => k_ ≠ gb340 ∧ k_ ≠ gb371 ∧ k_ ≠ gb383 ∧ k_ ≠ gb403 ∧ k_ ≠ gb422 ∧ k_ ≠ gb433) ho0 (fun k_ hk_ => ⟨oe hk_ (fun h => h.1) (fun h => h.1) (Kd.freshB (kk BK340) k_), oe hk_ (fun h => h.2.1) (fun h => h.2.1) (Kd.freshB (kk BK371) k_), oe hk_ (fun h => h.2.2.1) (fun h => h.2.2.1) (Kd.freshB (kk BK383) k_), oe hk_ (fun h => h.2.2.2.1) (fun h => h.2.2.2.1) (Kd.freshB (kk BK403) k_), oe hk_ (fun h => h.2.2.2.2.1) (fun h => h.2.2.2.2.1) (Kd.freshB (kk BK422) k_), oe hk_ (fun h => h.2.2.2.2.2) (fun h => h.2.2.2.2.2) (Kd.freshB (kk BK433) k_)⟩)) (below_size (bb HB))); have HO449 := Aside0.mk (Kd.V_lower (Kd.V_mono (ok' := fun k_ => k_ ≠ gb340 ∧ k_ ≠ gb371 ∧ k_ ≠ gb383 ∧ k_ ≠ gb403 ∧ k_ ≠ gb422 ∧ k_ ≠ gb433) ho1 (fun k_ hk_ => ⟨oe hk_ (fun h => h.1) (fun h => h.1) (Kd.freshB (kk BK340) k_), oe hk_ (fun h => h.2.1) (fun h => h.2.1) (Kd.freshB (kk BK371) k_), oe hk_ (fun h => h.2.2.1) (fun h => h.2.2.1) (Kd.freshB (kk BK383) k_), oe hk_ (fun h => h.2.2.2.1) (fun h => h.2.2.2.1) (Kd.freshB (kk BK403) k_), oe hk_ (fun h => h.2.2.2.2.1) (fun h => h.2.2.2.2.1) (Kd.freshB (kk BK422) k_), oe hk_ (fun h => h.2.2.2.2.2) (fun h => h.2.2.2.2.2) (Kd.freshB (kk BK433) k_)⟩)) (below_size (bb HB))); replace BK340 := kB BK340 hb; replace BK371 := kB BK371 hb; replace BK383 := kB BK383 hb; replace BK403 := kB BK403 hb; replace BK422 := kB BK422 hb; replace BK433 := kB BK433 hb; replace HB := hB HB hb; (try clear hb); (try clear hb2); (try clear hk); (try clear hi); (try clear ho0); (try clear ho1)) | ((with_reducible refine gate_dst (N := 21) rfl ?_); (try (refine gate_guard (by rfl) ?_; dsimp only)); refine box_event ?hg (N := 21) ?hd (cs := #[.slice none 0 0, .bool false, .int .i64 0, .slice none 0 0]) (t := 27) ?hr ?_; (case hd => rfl); (case hg => rfl); (case hr => first | (go_simp; done) | (go_simp; rfl)); intro gb451 hg w226 hbox hb; replace HO_372000 := vE HO_372000 hg hb; replace HO_372003 := vE HO_372003 hg hb; replace HO_384000 := vE HO_384000 hg hb; replace HO_384003 := vE HO_384003 hg hb; replace HO_404000 := vE HO_404000 hg hb; replace HO_404003 := vE HO_404003 hg hb; replace HO406 := vE HO406 hg hb; replace HO411 := vE HO411 hg hb; replace HO415 := vE HO415 hg hb; replace HO420 := vE HO420 hg hb; replace HO426 := vE HO426 hg hb; replace HO431 := vE HO431 hg hb; replace HO436 := vE HO436 hg hb; replace HO441 := vE HO441 hg hb; replace HO444 := vE HO444 hg hb; replace HO449 := vE HO449 hg hb; have BK451 := Aside0.mk hbox; have GW451 := gE HB hg; have GE451 := gE HB hg; replace HB := hB HB hb; have NB340_451 := nL BK340 hg; have NB451_340 := nG BK340 hg; replace BK340 := kB BK340 hb; have NB371_451 := nL BK371 hg; have NB451_371 := nG BK371 hg; replace BK371 := kB BK371 hb; have NB383_451 := nL BK383 hg; have NB451_383 := nG BK383 hg; replace BK383 := kB BK383 hb; have NB403_451 := nL BK403 hg; have NB451_403 := nG BK403 hg; replace BK403 := kB BK403 hb; have NB422_451 := nL BK422 hg; have NB451_422 := nG BK422 hg; replace BK422 := kB BK422 hb; have NB433_451 := nL BK433 hg; have NB451_433 := nG BK433 hg; replace BK433 := kB BK433 hb; clear hb hbox hg; obtain ⟨Ao227, co227, eo227⟩ := Kd.V_slice HO444.out; subst eo227; have hnb228 := NB451_340.out; have hnc228 := NB340_451.out; have hnb229 := NB451_371.out; have hnc229 := NB371_451.out; have hnb230 := NB451_383.out; have hnc230 := NB383_451.out; have hnb231 := NB451_403.out; have hnc231 := NB403_451.out; have hnb232 := NB451_422.out; have hnc232 := NB422_451.out; have hnb233 := NB451_433.out; have hnc233 := NB433_451.out; obtain ⟨hcz234_0, hcz234_1, hcz234_2, hcz234_3, hfz234_0, hfz234_1, hfz234_2, hfz234_3⟩ := bc4 BK451; obtain ⟨Ao235, co235, eo235⟩ := Kd.V_slice HO449.out; subst eo235) | ((with_reducible refine gate_store (t := 27) (p := 21) rfl ?_); refine store_event (t := 27) (p := 21) (v := ?vo_w236) (w1 := ((((w226.setCell ⟨gb451, 0, none⟩ (.slice Ao227 t442.length co227)).setCell ⟨gb451, 1, none⟩ (.bool t445)).setCell ⟨gb451, 2, none⟩ (.int .i64 t446)).setCell ⟨gb451, 3, none⟩ (.slice Ao235 t447.length co235))) ?hg ?ho ?hn ?hr ?_; (case ho => rfl); (case hg => rfl); (case hn => rfl); (case hr => first | (go_simp; done) | (go_simp; rfl)); intro w236 hw; replace HO_372000 := vS (fun k_ => k_ ≠ gb340 ∧ k_ ≠ gb371 ∧ k_ ≠ gb383 ∧ k_ ≠ gb403 ∧ k_ ≠ gb422 ∧ k_ ≠ gb433 ∧ k_ ≠ gb451) HO_372000 hw; replace HO_372003 := vS (fun k_ => k_ ≠ gb340 ∧ k_ ≠ gb371 ∧ k_ ≠ gb383 ∧ k_ ≠ gb403 ∧ k_ ≠ gb422 ∧ k_ ≠ gb433 ∧ k_ ≠ gb451) HO_372003 hw; replace HO_384000 := vS (fun k_ => k_ ≠ gb340 ∧ k_ ≠ gb371 ∧ k_ ≠ gb383 ∧ k_ ≠ gb403 ∧ k_ ≠ gb422 ∧ k_ ≠ gb433 ∧ k_ ≠ gb451) HO_384000 hw; replace HO_384003 := vS (fun k_ => k_ ≠ gb340 ∧ k_ ≠ gb371 ∧ k_ ≠ gb383 ∧ k_ ≠ gb403 ∧ k_ ≠ gb422 ∧ k_ ≠ gb433 ∧ k_ ≠ gb451) HO_384003 hw; replace HO_404000 := vS (fun k_ => k_ ≠ gb340 ∧ k_ ≠ gb371 ∧ k_ ≠ gb383 ∧ k_ ≠ gb403 ∧ k_ ≠ gb422 ∧ k_ ≠ gb433 ∧ k_ ≠ gb451) HO_404000 hw; replace HO_404003 := vS (fun k_ => k_ ≠ gb340 ∧ k_ ≠ gb371 ∧ k_ ≠ gb383 ∧ k_ ≠ gb403 ∧ k_ ≠ gb422 ∧ k_ ≠ gb433 ∧ k_ ≠ gb451) HO_404003 hw; replace HO406 := vS (fun k_ => k_ ≠ gb340 ∧ k_ ≠ gb371 ∧ k_ ≠ gb383 ∧ k_ ≠ gb403 ∧ k_ ≠ gb422 ∧ k_ ≠ gb433 ∧ k_ ≠ gb451) HO406 hw; replace HO411 := vS (fun k_ => k_ ≠ gb340 ∧ k_ ≠ gb371 ∧ k_ ≠ gb383 ∧ k_ ≠ gb403 ∧ k_ ≠ gb422 ∧ k_ ≠ gb433 ∧ k_ ≠ gb451) HO411 hw; replace HO415 := vS (fun k_ => k_ ≠ gb340 ∧ k_ ≠ gb371 ∧ k_ ≠ gb383 ∧ k_ ≠ gb403 ∧ k_ ≠ gb422 ∧ k_ ≠ gb433 ∧ k_ ≠ gb451) HO415 hw; replace HO420 := vS (fun k_ => k_ ≠ gb340 ∧ k_ ≠ gb371 ∧ k_ ≠ gb383 ∧ k_ ≠ gb403 ∧ k_ ≠ gb422 ∧ k_ ≠ gb433 ∧ k_ ≠ gb451) HO420 hw; replace HO426 := vS (fun k_ => k_ ≠ gb340 ∧ k_ ≠ gb371 ∧ k_ ≠ gb383 ∧ k_ ≠ gb403 ∧ k_ ≠ gb422 ∧ k_ ≠ gb433 ∧ k_ ≠ gb451) HO426 hw; replace HO431 := vS (fun k_ => k_ ≠ gb340 ∧ k_ ≠ gb371 ∧ k_ ≠ gb383 ∧ k_ ≠ gb403 ∧ k_ ≠ gb422 ∧ k_ ≠ gb433 ∧ k_ ≠ gb451) HO431 hw; replace HO436 := vS (fun k_ => k_ ≠ gb340 ∧ k_ ≠ gb371 ∧ k_ ≠ gb383 ∧ k_ ≠ gb403 ∧ k_ ≠ gb422 ∧ k_ ≠ gb433 ∧ k_ ≠ gb451) HO436 hw; replace HO441 := vS (fun k_ => k_ ≠ gb340 ∧ k_ ≠ gb371 ∧ k_ ≠ gb383 ∧ k_ ≠ gb403 ∧ k_ ≠ gb422 ∧ k_ ≠ gb433 ∧ k_ ≠ gb451) HO441 hw; replace HO444 := vS (fun k_ => k_ ≠ gb340 ∧ k_ ≠ gb371 ∧ k_ ≠ gb383 ∧ k_ ≠ gb403 ∧ k_ ≠ gb422 ∧ k_ ≠ gb433 ∧ k_ ≠ gb451) HO444 hw; replace HO449 := vS (fun k_ => k_ ≠ gb340 ∧ k_ ≠ gb371 ∧ k_ ≠ gb383 ∧ k_ ≠ gb403 ∧ k_ ≠ gb422 ∧ k_ ≠ gb433 ∧ k_ ≠ gb451) HO449 hw; replace BK340 := kS BK340 hw; replace BK371 := kS BK371 hw; replace BK383 := kS BK383 hw; replace BK403 := kS BK403 hw; replace BK422 := kS BK422 hw; replace BK433 := kS BK433 hw; replace BK451 := kP4 BK451 hw; replace HB : Aside0 (Below w.heap.size w w236) := ⟨(by rw [hw]; exact (bb HB))⟩; clear hw; have hnb237 := NB433_371.out; have hnc237 := NB371_433.out; have hnb238 := NB433_383.out; have hnc238 := NB383_433.out; have hnb239 := NB433_403.out; have hnc239 := NB403_433.out; have hnb240 := NB433_422.out; have hnc240 := NB422_433.out; obtain ⟨hcz241_0, hcz241_1, hcz241_2, hcz241_3, hfz241_0, hfz241_1, hfz241_2, hfz241_3⟩ := bc4 BK433; have hcv242 := v_string (P := Try.prog) Try.underlying25 Try.underlying5 Try.underlying9 HO431.out; obtain ⟨hcz243_0, hcz243_1, hcz243_2, hcz243_3, hfz243_0, hfz243_1, hfz243_2, hfz243_3⟩ := bc4 BK451; have hcv244 := v_string (P := Try.prog) Try.underlying25 Try.underlying5 Try.underlying9 HO449.out))
               go_ret
               exact ⟨by first | rfl | (simp [errW_none, errW_some] <;> rfl) | (simp [*, errW_none, errW_some] <;> rfl), by repeat (first | (with_reducible first | exact HB.out | apply below_alloc | apply pw_below_drewN | apply below_drew1 | refine below_set ?_ GE340.out | refine below_set ?_ GE371.out | refine below_set ?_ GE383.out | refine below_set ?_ GE403.out | refine below_set ?_ GE422.out | refine below_set ?_ GE433.out | refine below_set ?_ GE451.out) | exact HB.out)⟩
              ·
               rw [if_neg c188] at H
               cases H; exact absurd HRT.out (by decide)
             ·
              rw [if_neg c187] at H
              cases H; exact absurd HRT.out (by decide)
            ·
             replace c186 := Bool.eq_false_iff.mpr c186
             subst c186
             rw [if_neg nf] at H
             cases H; exact absurd HRT.out (by decide)
          ·
           rw [if_neg c119] at H
           exact absurd H (by simp)
         ·
          rw [if_neg c118] at H
          exact absurd H (by simp)

end Go.Proofs.Ytocmnggcbpdnjaa.Q
