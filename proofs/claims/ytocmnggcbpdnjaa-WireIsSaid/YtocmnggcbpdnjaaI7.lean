-- Laid by mix.py, a program of this session, with the kit's print.py; walks by hand come out of wip/over.
import Derived.Test.YtocmnggcbpdnjaaShort
import Derived.Test.YtocmnggcbpdnjaaI0
import Derived.Test.YtocmnggcbpdnjaaI1
import Derived.Test.YtocmnggcbpdnjaaI2
import Derived.Test.YtocmnggcbpdnjaaI3
import Derived.Test.YtocmnggcbpdnjaaI4
import Derived.Test.YtocmnggcbpdnjaaI5
import Derived.Test.YtocmnggcbpdnjaaI6
namespace Go.Proofs.Ytocmnggcbpdnjaa.I
open Go.RowKit Go.Proofs.YtocmnggcbpdnjaaW.PrintWords Go.Proofs.YtocmnggcbpdnjaaW.PrintLast Go.Proofs.YtocmnggcbpdnjaaW.PrintMore Go.Proofs.YtocmnggcbpdnjaaW.Sh
attribute [local go_sem] max2_int min2_int max_two min_two max_three min_three max_four min_four   -- for this text's walks alone
set_option linter.unusedVariables false
set_option linter.unusedSimpArgs false

/-! ### pentroughlaw19_WireIs: function 6 -/
mutual
def pentroughlaw19_WireIs.j0 : Nat → List Int → Int → Bool → Bool → List Int → Bool → Int → List Int → Option (Bool)
  | 0, _, _, _, _, _, _, _, _ => none
  | k + 1, x1, x2, x7, x32, x351000, x351001, x351002, x351003 => if x32 = true then (some x7) else ((pentroughlaw19_ours.f x351000 x351001 x351002 x351003).bind fun bt353 => ((wire_Arrive.f bt353.1 bt353.2.1 bt353.2.2.1 bt353.2.2.2 x1).bind fun bt361 => ((pentroughref19_Arrive.f x351000 x351001 x351002 x351003 x1).bind fun bt371 => ((pentroughlaw19_ours.f x351000 x351001 x351002 x351003).bind fun bt381 => ((wire_Grant.f bt381.1 bt381.2.1 bt381.2.2.1 bt381.2.2.2 x2).bind fun bt389 => ((pentroughref19_Grant.f x351000 x351001 x351002 x351003 x2).bind fun bt399 => (if bt361.2.2.2.2 = bt371.2.2.2.2 then (if bt389.2.2.2.2 = bt399.2.2.2.2 then ((pentroughlaw19_same.f bt361.1 bt361.2.1 bt361.2.2.1 bt361.2.2.2.1 bt371.1 bt371.2.1 bt371.2.2.1 bt371.2.2.2.1).bind fun t409 => (if t409 = true then ((pentroughlaw19_same.f bt389.1 bt389.2.1 bt389.2.2.1 bt389.2.2.2.1 bt399.1 bt399.2.1 bt399.2.2.1 bt399.2.2.2.1).bind fun t410 => (pentroughlaw19_WireIs.j1 k x1 x2 x7 (!t410) x351000 x351001 x351002 x351003)) else (pentroughlaw19_WireIs.j1 k x1 x2 x7 true x351000 x351001 x351002 x351003))) else (pentroughlaw19_WireIs.j1 k x1 x2 x7 true x351000 x351001 x351002 x351003)) else (pentroughlaw19_WireIs.j1 k x1 x2 x7 true x351000 x351001 x351002 x351003))))))))
def pentroughlaw19_WireIs.j1 : Nat → List Int → Int → Bool → Bool → List Int → Bool → Int → List Int → Option (Bool)
  | 0, _, _, _, _, _, _, _, _ => none
  | k + 1, x1, x2, x7, x79, x351000, x351001, x351002, x351003 => if x79 = true then (some false) else ((pentroughlaw19_ours.f x351000 x351001 x351002 x351003).bind fun bt411 => ((wire_Read.f bt411.1 bt411.2.1 bt411.2.2.1 bt411.2.2.2 x2).bind fun bt419 => ((pentroughref19_Read.f x351000 x351001 x351002 x351003 x2).bind fun bt431 => ((pentroughlaw19_ours.f x351000 x351001 x351002 x351003).bind fun bt443 => ((wire_Write.f bt443.1 bt443.2.1 bt443.2.2.1 bt443.2.2.2 x1).bind fun bt451 => ((pentroughref19_Write.f x351000 x351001 x351002 x351003 x1).bind fun bt461 => (if x7 = true then (if (strOfNums bt419.2.2.2.2).toList = (strOfNums bt431.2.2.2.2).toList then (if bt451.2.2.2.2 = bt461.2.2.2.2 then ((pentroughlaw19_same.f bt419.1 bt419.2.1 bt419.2.2.1 bt419.2.2.2.1 bt431.1 bt431.2.1 bt431.2.2.1 bt431.2.2.2.1).bind fun t471 => (if t471 = true then ((pentroughlaw19_same.f bt451.1 bt451.2.1 bt451.2.2.1 bt451.2.2.2.1 bt461.1 bt461.2.1 bt461.2.2.1 bt461.2.2.2.1).bind fun t472 => (if t472 = true then ((pentroughlaw19_ours.f x351000 x351001 x351002 x351003).bind fun bt473 => ((wire_Sane.f bt473.1 bt473.2.1 bt473.2.2.1 bt473.2.2.2).bind fun t481 => ((pentroughref19_Sane.f x351000 x351001 x351002 x351003).bind fun t482 => (if (t481 == t482) = true then ((pentroughlaw19_ours.f x351000 x351001 x351002 x351003).bind fun bt483 => ((wire_Waits.f bt483.1 bt483.2.1 bt483.2.2.1 bt483.2.2.2).bind fun t491 => ((pentroughref19_Waits.f x351000 x351001 x351002 x351003).bind fun t492 => (if (t491 == t492) = true then ((pentroughlaw19_ours.f x351000 x351001 x351002 x351003).bind fun bt493 => ((wire_Finish.f bt493.1 bt493.2.1 bt493.2.2.1 bt493.2.2.2).bind fun bt501 => ((pentroughref19_Finish.f x351000 x351001 x351002 x351003).bind fun bt509 => ((pentroughlaw19_same.f bt501.1 bt501.2.1 bt501.2.2.1 bt501.2.2.2 bt509.1 bt509.2.1 bt509.2.2.1 bt509.2.2.2).bind fun t517 => (some t517))))) else (some false))))) else (some false))))) else (some false))) else (some false))) else (some false)) else (some false)) else (some false))))))))
end
def pentroughlaw19_WireIs.f (k : Nat) (l0_0 : List Int) (a0_1 : Bool) (a0_2 : Int) (l0_3 : List Int) (l1 : List Int) (a2 : Int) : Option (Bool) := (pentroughlaw19_awake.f).bind fun t351 => ((pentroughref19_Few.f l0_0 a0_1 a0_2 l0_3).bind fun t352 => (if t352 = true then (pentroughlaw19_WireIs.j0 k l1 a2 t351 (decide ((l1.length : Int) > 5000)) l0_0 a0_1 a0_2 l0_3) else (pentroughlaw19_WireIs.j0 k l1 a2 t351 true l0_0 a0_1 a0_2 l0_3)))
theorem pentroughlaw19_WireIs.mono_l : ∀ k, (∀ y0 y1 y2 y3 y4 y5 y6 y7, LeO (pentroughlaw19_WireIs.j0 k y0 y1 y2 y3 y4 y5 y6 y7) (pentroughlaw19_WireIs.j0 (k + 1) y0 y1 y2 y3 y4 y5 y6 y7)) ∧ (∀ y0 y1 y2 y3 y4 y5 y6 y7, LeO (pentroughlaw19_WireIs.j1 k y0 y1 y2 y3 y4 y5 y6 y7) (pentroughlaw19_WireIs.j1 (k + 1) y0 y1 y2 y3 y4 y5 y6 y7))
  | 0 => ⟨fun _ _ _ _ _ _ _ _ r h => by simp [pentroughlaw19_WireIs.j0] at h, fun _ _ _ _ _ _ _ _ r h => by simp [pentroughlaw19_WireIs.j1] at h⟩
  | k + 1 => by
    obtain ⟨ih0, ih1⟩ := pentroughlaw19_WireIs.mono_l k
    refine ⟨?_, ?_⟩
    · intro y0 y1 y2 y3 y4 y5 y6 y7
      unfold pentroughlaw19_WireIs.j0
      repeat' first
      | (with_reducible exact ih0 _ _ _ _ _ _ _ _)
      | (with_reducible exact ih1 _ _ _ _ _ _ _ _)
      | (with_reducible exact LeO.refl _)
      | (with_reducible exact LeO.none _)
      | (with_reducible refine LeO.ite ?_ ?_)
      | (with_reducible refine LeO.bind ?_ (fun _ => ?_))
      | exact ih0 _ _ _ _ _ _ _ _
      | exact ih1 _ _ _ _ _ _ _ _
      | exact LeO.none _
      | refine LeO.ite ?_ ?_
      | refine LeO.bind ?_ (fun _ => ?_)
    · intro y0 y1 y2 y3 y4 y5 y6 y7
      unfold pentroughlaw19_WireIs.j1
      repeat' first
      | (with_reducible exact ih0 _ _ _ _ _ _ _ _)
      | (with_reducible exact ih1 _ _ _ _ _ _ _ _)
      | (with_reducible exact LeO.refl _)
      | (with_reducible exact LeO.none _)
      | (with_reducible refine LeO.ite ?_ ?_)
      | (with_reducible refine LeO.bind ?_ (fun _ => ?_))
      | exact ih0 _ _ _ _ _ _ _ _
      | exact ih1 _ _ _ _ _ _ _ _
      | exact LeO.none _
      | refine LeO.ite ?_ ?_
      | refine LeO.bind ?_ (fun _ => ?_)
theorem pentroughlaw19_WireIs.mono : ∀ a0 a1 a2 a3 a4 a5 k, LeO (pentroughlaw19_WireIs.f k a0 a1 a2 a3 a4 a5) (pentroughlaw19_WireIs.f (k + 1) a0 a1 a2 a3 a4 a5) := by
  intro a0 a1 a2 a3 a4 a5 k
  obtain ⟨ih0, ih1⟩ := pentroughlaw19_WireIs.mono_l k
  unfold pentroughlaw19_WireIs.f
  repeat' first
      | (with_reducible exact ih0 _ _ _ _ _ _ _ _)
      | (with_reducible exact ih1 _ _ _ _ _ _ _ _)
      | (with_reducible exact LeO.refl _)
      | (with_reducible exact LeO.none _)
      | (with_reducible refine LeO.ite ?_ ?_)
      | (with_reducible refine LeO.bind ?_ (fun _ => ?_))
      | exact ih0 _ _ _ _ _ _ _ _
      | exact ih1 _ _ _ _ _ _ _ _
      | exact LeO.none _
      | refine LeO.ite ?_ ?_
      | refine LeO.bind ?_ (fun _ => ?_)
def pentroughlaw19_WireIs.T14 : Bool × List (List Nat × List Nat) := (true, [([], []), ([0], [0]), ([1], [1]), ([2, 1], [1, 2]), ([1], [1]), ([4, 1], [1, 4]), ([3, 5, 1], [1, 3, 5]), ([1, 6], [1, 6]), ([7, 1], [7]), ([8], [8]), ([8], [8]), ([9, 10, 8], [8, 9, 10]), ([8, 11], [8, 11]), ([12, 8], [12]), ([13], [13]), ([13], [13]), ([14, 15, 13, 13], [13, 14, 15]), ([13, 16], [13, 16]), ([17, 16], [17]), ([18], [18]), ([18], [18]), ([19, 20, 18, 18], [18, 19, 20]), ([18, 21], [18, 21]), ([22, 21], [22]), ([23], [23]), ([24, 23, 23], [23, 24]), ([25, 25, 23], [23, 25]), ([23], [23]), ([27, 26, 23], [23, 27]), ([26, 28, 23], [23, 26, 28]), ([23, 29], [23, 29]), ([30, 28], [30]), ([31], [31]), ([32, 31, 31], [31, 32]), ([33, 33, 31], [31, 33]), ([31], [31]), ([35, 34, 31], [31, 35]), ([34, 36, 31], [31, 34, 36]), ([31, 37], [31, 37]), ([38, 36], [38]), ([39], [39]), ([40, 39, 39], [39, 40]), ([41, 41, 39], [39, 41]), ([39], [39]), ([43, 42, 39], [39, 43]), ([42, 44, 44, 39], [39, 42, 44]), ([39, 45], [39, 45]), ([46, 45, 0, 1, 2, 3, 4, 5, 6, 7, 8, 9, 10, 11, 12, 13, 14, 15, 16, 17, 18, 19, 20, 21, 22, 23, 24, 25, 26, 27, 28, 29, 30, 31, 32, 33, 34, 35, 36, 37, 38, 39, 40, 41, 42, 43, 44, 45, 46], [46])])
def pentroughlaw19_WireIs.B14 : List Nat := [0, 1, 3, 7, 3, 19, 63, 127, 255, 511, 511, 2047, 4095, 8191, 16383, 16383, 65535, 131071, 262143, 524287, 524287, 2097151, 4194303, 8388607, 16777215, 33554431, 67108863, 16777215, 268435455, 536870911, 1073741823, 2147483647, 4294967295, 8589934591, 17179869183, 4294967295, 68719476735, 137438953471, 274877906943, 549755813887, 1099511627775, 2199023255551, 4398046511103, 1099511627775, 17592186044415, 35184372088831, 70368744177663, 140737488355327]
theorem pentroughlaw19_WireIs.tab14 : rtab .any (opsOf Try.f6 14) = pentroughlaw19_WireIs.T14 := by kernel_rfl
theorem pentroughlaw19_WireIs.bits14 : waitsOk pentroughlaw19_WireIs.T14.2 pentroughlaw19_WireIs.B14 = true := by kernel_rfl
set_option maxHeartbeats 8000000 in
set_option maxRecDepth 100000 in
theorem pentroughlaw19_WireIs.calls (k : Nat) (A0_0 : Option Addr) (c0_0 : Nat) (l0_0 : List Int) (a0_1 : Bool) (a0_2 : Int) (A0_3 : Option Addr) (c0_3 : Nat) (l0_3 : List Int) (A1 : Option Addr) (c1 : Nat) (l1 : List Int) (a2 : Int) (r : Bool) (w : World) (hr0_0 : Kd.C (Kd.int .u8) w A0_0 l0_0.length l0_0) (hc0_0 : l0_0.length ≤ c0_0) (hr0_3 : Kd.C (Kd.int .u8) w A0_3 l0_3.length l0_3) (hc0_3 : l0_3.length ≤ c0_3) (hr1 : Kd.C (Kd.int .u8) w A1 l1.length l1) (hc1 : l1.length ≤ c1) (h : pentroughlaw19_WireIs.f k l0_0 a0_1 a0_2 l0_3 l1 a2 = some r) (HRT : Aside0 (r = true)) :
    Calls Try.prog 6 #[.agg #[.slice A0_0 l0_0.length c0_0, .bool a0_1, .int .i64 a0_2, .slice A0_3 l0_3.length c0_3], .slice A1 l1.length c1, .int .i64 a2] w fun e w' => e = .returned (.bool r) ∧ Below w.heap.size w w' := by
  have hu36 := Try.underlying36
  have hu27 := Try.underlying27
  have HR0_0 := Aside0.mk hr0_0
  have HC0_0 := Aside0.mk hc0_0
  clear hr0_0 hc0_0
  have HR0_3 := Aside0.mk hr0_3
  have HC0_3 := Aside0.mk hc0_3
  clear hr0_3 hc0_3
  have HR1 := Aside0.mk hr1
  have HC1 := Aside0.mk hc1
  clear hr1 hc1
  have HB := Aside0.mk (Below.refl w.heap.size w)
  have H : ((pentroughlaw19_awake.f).bind fun t351 => ((pentroughref19_Few.f l0_0 a0_1 a0_2 l0_3).bind fun t352 => (if t352 = true then (pentroughlaw19_WireIs.j0 k l1 a2 t351 (decide ((l1.length : Int) > 5000)) l0_0 a0_1 a0_2 l0_3) else (pentroughlaw19_WireIs.j0 k l1 a2 t351 true l0_0 a0_1 a0_2 l0_3)))) = some r := h
  clear h
  obtain ⟨t351, A4, H⟩ := ob H
  have HC5 := Aside0.mk H
  clear H
  go_enter Try.func6, Try.ntmps6
  go_upto_region 2 with (first | ((with_reducible refine gate_dst (N := 3) rfl ?_); (try (refine gate_guard (by rfl) ?_; dsimp only)); refine box_event ?hg (N := 3) ?hd (cs := #[.slice A0_0 l0_0.length c0_0, .bool a0_1, .int .i64 a0_2, .slice A0_3 l0_3.length c0_3]) (t := 36) ?hr ?_; (case hd => rfl); (case hg => rfl); (case hr => first | (go_simp; done) | (go_simp; rfl)); intro gb350 hg w6 hbox hb; have BK350 := Aside0.mk hbox; have GW350 := gE HB hg; have GE350 := gE HB hg; replace HB := hB HB hb; clear hb hbox hg) | ((with_reducible refine gate_callee (f := 9) rfl ?_); refine gL (some 24) rfl rfl Try.func9 (by kernel_rfl) rfl #[] rfl ?_; (with_reducible refine (pentroughlaw19_awake.calls  t351 _ A4.out).mono ?_); rintro e w7 ⟨rfl, hb⟩; refine ⟨_, rfl, ?_⟩; replace BK350 := kB BK350 hb; replace HB := hB HB hb; (try clear hb); (try clear hb2); (try clear hk); (try clear hi)))
  (try simp only [Act.put, List.setIfInBounds_toArray, List.set_cons_zero, List.set_cons_succ])
  go_cut [32] (fun v32 wc => ∃ (kq : Nat) (x32_4 : Bool), v32 = .bool x32_4 ∧ Aside0 (pentroughlaw19_WireIs.j0 kq l1 a2 t351 x32_4 l0_0 a0_1 a0_2 l0_3 = some r) ∧ Aside0 (kq ≤ k) ∧ Aside0 (wc.heap[gb350]? = some (.cells #[(.slice A0_0 l0_0.length c0_0), .bool a0_1, .int .i64 a0_2, (.slice A0_3 l0_3.length c0_3)] 36 (0, 0))) ∧ Aside0 (Below w.heap.size w wc))
  case first =>
    have H := HC5.out
    clear HC5
    obtain ⟨t352, A8, H⟩ := ob H
    by_cases c9 : t352 = true
    · subst c9
      rw [if_pos rfl] at H
      have H' := Aside0.mk H
      clear H
      obtain ⟨hcz10_0, hcz10_1, hcz10_2, hcz10_3, hfz10_0, hfz10_1, hfz10_2, hfz10_3⟩ := bc4 BK350
      go_wp2_with (first | ((with_reducible refine gate_callee (f := 14) rfl ?_); refine gL (some 26) rfl rfl Try.func14 (by kernel_rfl) rfl #[.agg #[.slice A0_0 l0_0.length c0_0, .bool a0_1, .int .i64 a0_2, .slice A0_3 l0_3.length c0_3]] rfl ?_; (with_reducible refine (pentroughref19_Few.calls _ _ l0_0 a0_1 a0_2 _ _ l0_3 true _ ?side1 ?side2 ?side3 ?side4 A8.out).mono ?_); (case side1 => exact Kd.C_below HR0_0.out (bb HB)); (case side2 => exact HC0_0.out); (case side3 => exact Kd.C_below HR0_3.out (bb HB)); (case side4 => exact HC0_3.out); rintro e w11 ⟨rfl, hb⟩; refine ⟨_, rfl, ?_⟩; replace BK350 := kB BK350 hb; replace HB := hB HB hb; (try clear hb); (try clear hb2); (try clear hk); (try clear hi)))
      go_meet
      case rel => exact ⟨_, (decide ((l1.length : Int) > 5000)), (by first | rfl | (simp; done) | (simp [*]; done)), H', ⟨by first | omega | exact Nat.le_refl _⟩, ⟨kk BK350⟩, ⟨bb HB⟩⟩
    · replace c9 := Bool.eq_false_iff.mpr c9
      subst c9
      rw [if_neg nf] at H
      have H' := Aside0.mk H
      clear H
      obtain ⟨hcz12_0, hcz12_1, hcz12_2, hcz12_3, hfz12_0, hfz12_1, hfz12_2, hfz12_3⟩ := bc4 BK350
      go_wp2_with (first | ((with_reducible refine gate_callee (f := 14) rfl ?_); refine gL (some 26) rfl rfl Try.func14 (by kernel_rfl) rfl #[.agg #[.slice A0_0 l0_0.length c0_0, .bool a0_1, .int .i64 a0_2, .slice A0_3 l0_3.length c0_3]] rfl ?_; (with_reducible refine (pentroughref19_Few.calls _ _ l0_0 a0_1 a0_2 _ _ l0_3 false _ ?side1 ?side2 ?side3 ?side4 A8.out).mono ?_); (case side1 => exact Kd.C_below HR0_0.out (bb HB)); (case side2 => exact HC0_0.out); (case side3 => exact Kd.C_below HR0_3.out (bb HB)); (case side4 => exact HC0_3.out); rintro e w13 ⟨rfl, hb⟩; refine ⟨_, rfl, ?_⟩; replace BK350 := kB BK350 hb; replace HB := hB HB hb; (try clear hb); (try clear hb2); (try clear hk); (try clear hi)))
      go_meet
      case rel => exact ⟨_, (true), (by first | rfl | (simp; done) | (simp [*]; done)), H', ⟨by first | omega | exact Nat.le_refl _⟩, ⟨kk BK350⟩, ⟨bb HB⟩⟩
  case rest =>
    clear HC5
    try clear c1
    try clear p2
    try clear c6
    try clear c9
    try clear hcz10_0
    try clear hcz10_1
    try clear hcz10_2
    try clear hcz10_3
    try clear hcz12_0
    try clear hcz12_1
    try clear hcz12_2
    try clear hcz12_3
    try clear hfz10_0
    try clear hfz10_1
    try clear hfz10_2
    try clear hfz10_3
    try clear hfz12_0
    try clear hfz12_1
    try clear hfz12_2
    try clear hfz12_3
    obtain ⟨kq, x32_4, rfl, HA, HJ4, BK350, HB⟩ := hcut
    cases kq with
    | zero => exact absurd HA.out (by simp [pentroughlaw19_WireIs.j0])
    | succ kj4 =>
      have H := HA.out
      clear HA
      simp only [pentroughlaw19_WireIs.j0] at H
      by_cases c14 : x32_4 = true
      · subst c14
        rw [if_pos rfl] at H
        obtain rfl := Option.some.inj H
        go_wp2
        go_ret
        exact ⟨by first | rfl | (simp [errW_none, errW_some] <;> rfl) | (simp [*, errW_none, errW_some] <;> rfl), by repeat (first | (with_reducible first | exact HB.out | apply below_alloc | apply pw_below_drewN | apply below_drew1 | refine below_set ?_ GE350.out) | exact HB.out)⟩
      · replace c14 := Bool.eq_false_iff.mpr c14
        subst c14
        rw [if_neg nf] at H
        obtain ⟨⟨t353, t356, t357, t358⟩, A15, H⟩ := ob H
        (try dsimp only at H)
        obtain ⟨⟨t361, t364, t365, t366, t369⟩, A16, H⟩ := ob H
        (try dsimp only at H)
        obtain ⟨⟨t371, t374, t375, t376, t379⟩, A17, H⟩ := ob H
        (try dsimp only at H)
        obtain ⟨⟨t381, t384, t385, t386⟩, A18, H⟩ := ob H
        (try dsimp only at H)
        obtain ⟨⟨t389, t392, t393, t394, t397⟩, A19, H⟩ := ob H
        (try dsimp only at H)
        obtain ⟨⟨t399, t402, t403, t404, t407⟩, A20, H⟩ := ob H
        (try dsimp only at H)
        have HC21 := Aside0.mk H
        clear H
        obtain ⟨hcz22_0, hcz22_1, hcz22_2, hcz22_3, hfz22_0, hfz22_1, hfz22_2, hfz22_3⟩ := bc4 BK350
        go_upto_region 8 with (first | ((with_reducible refine gate_callee (f := 16) rfl ?_); refine gL (some 36) rfl rfl Try.func16 (by kernel_rfl) rfl #[.agg #[.slice A0_0 l0_0.length c0_0, .bool a0_1, .int .i64 a0_2, .slice A0_3 l0_3.length c0_3]] rfl ?_; (with_reducible refine (pentroughlaw19_ours.calls (fun k_ => k_ < w.heap.size) _ _ l0_0 a0_1 a0_2 (fun k_ => k_ < w.heap.size) _ _ l0_3 t353 t356 t357 t358 _ ?side1 ?side2 A15.out).mono ?_); (case side1 => exact Kd.V_mk HC0_0.out (Kd.F_below (Kd.C_F (Kd.heap_int .u8) HR0_0.out) (bb HB))); (case side2 => exact Kd.V_mk HC0_3.out (Kd.F_below (Kd.C_F (Kd.heap_int .u8) HR0_3.out) (bb HB))); rintro e w23 ⟨v354, v359, rfl, ho0, ho1, hb⟩; refine ⟨_, rfl, ?_⟩; have HO355 := Aside0.mk (Kd.V_lower (Kd.V_mono (ok' := fun k_ => k_ ≠ gb350) ho0 (fun k_ hk_ => oe hk_ (gw GW350) (gw GW350) (Kd.freshB (kk BK350) k_))) (below_size (bb HB))); have HO360 := Aside0.mk (Kd.V_lower (Kd.V_mono (ok' := fun k_ => k_ ≠ gb350) ho1 (fun k_ hk_ => oe hk_ (gw GW350) (gw GW350) (Kd.freshB (kk BK350) k_))) (below_size (bb HB))); replace BK350 := kB BK350 hb; replace HB := hB HB hb; (try clear hb); (try clear hb2); (try clear hk); (try clear hi); (try clear ho0); (try clear ho1); obtain ⟨Ao24, co24, eo24⟩ := Kd.V_slice HO355.out; subst eo24; obtain ⟨Ao25, co25, eo25⟩ := Kd.V_slice HO360.out; subst eo25) | ((with_reducible refine gate_callee (f := 13) rfl ?_); refine gL (some 38) rfl rfl Try.func13 (by kernel_rfl) rfl #[.agg #[.slice Ao24 t353.length co24, .bool t356, .int .i64 t357, .slice Ao25 t358.length co25], .slice A1 l1.length c1] rfl ?_; (with_reducible refine (wire_Arrive.calls (fun k_ => k_ ≠ gb350) _ _ t353 t356 t357 (fun k_ => k_ ≠ gb350) _ _ t358 _ _ l1 t361 t364 t365 t366 t369 _ ?side1 ?side2 ?side3 ?side4 A16.out).mono ?_); (case side1 => exact HO355.out); (case side2 => exact HO360.out); (case side3 => exact Kd.C_below HR1.out (bb HB)); (case side4 => exact HC1.out); rintro e w26 ⟨v362, v367, rfl, ho0, ho1, hb⟩; refine ⟨_, rfl, ?_⟩; replace HO355 := vB HO355 hb; replace HO360 := vB HO360 hb; have HO363 := Aside0.mk (Kd.V_lower (Kd.V_mono (ok' := fun k_ => k_ ≠ gb350) ho0 (fun k_ hk_ => oe hk_ (fun h => h) (fun h => h) (Kd.freshB (kk BK350) k_))) (below_size (bb HB))); have HO368 := Aside0.mk (Kd.V_lower (Kd.V_mono (ok' := fun k_ => k_ ≠ gb350) ho1 (fun k_ hk_ => oe hk_ (fun h => h) (fun h => h) (Kd.freshB (kk BK350) k_))) (below_size (bb HB))); replace BK350 := kB BK350 hb; replace HB := hB HB hb; (try clear hb); (try clear hb2); (try clear hk); (try clear hi); (try clear ho0); (try clear ho1)) | ((with_reducible refine gate_dst (N := 8) rfl ?_); (try (refine gate_guard (by rfl) ?_; dsimp only)); refine box_event ?hg (N := 8) ?hd (cs := #[.slice none 0 0, .bool false, .int .i64 0, .slice none 0 0]) (t := 27) ?hr ?_; (case hd => rfl); (case hg => rfl); (case hr => first | (go_simp; done) | (go_simp; rfl)); intro gb370 hg w27 hbox hb; replace HO355 := vE HO355 hg hb; replace HO360 := vE HO360 hg hb; replace HO363 := vE HO363 hg hb; replace HO368 := vE HO368 hg hb; have BK370 := Aside0.mk hbox; have GW370 := gE HB hg; have GE370 := gE HB hg; replace HB := hB HB hb; have NB350_370 := nL BK350 hg; have NB370_350 := nG BK350 hg; replace BK350 := kB BK350 hb; clear hb hbox hg; obtain ⟨Ao28, co28, eo28⟩ := Kd.V_slice HO363.out; subst eo28; have hnb29 := NB370_350.out; have hnc29 := NB350_370.out; obtain ⟨hcz30_0, hcz30_1, hcz30_2, hcz30_3, hfz30_0, hfz30_1, hfz30_2, hfz30_3⟩ := bc4 BK370; obtain ⟨Ao31, co31, eo31⟩ := Kd.V_slice HO368.out; subst eo31) | ((with_reducible refine gate_store (t := 27) (p := 8) rfl ?_); refine store_event (t := 27) (p := 8) (v := ?vo_w32) (w1 := ((((w27.setCell ⟨gb370, 0, none⟩ (.slice Ao28 t361.length co28)).setCell ⟨gb370, 1, none⟩ (.bool t364)).setCell ⟨gb370, 2, none⟩ (.int .i64 t365)).setCell ⟨gb370, 3, none⟩ (.slice Ao31 t366.length co31))) ?hg ?ho ?hn ?hr ?_; (case ho => rfl); (case hg => rfl); (case hn => rfl); (case hr => first | (go_simp; done) | (go_simp; rfl)); intro w32 hw; replace HO355 := vS (fun k_ => k_ ≠ gb350 ∧ k_ ≠ gb370) HO355 hw; replace HO360 := vS (fun k_ => k_ ≠ gb350 ∧ k_ ≠ gb370) HO360 hw; replace HO363 := vS (fun k_ => k_ ≠ gb350 ∧ k_ ≠ gb370) HO363 hw; replace HO368 := vS (fun k_ => k_ ≠ gb350 ∧ k_ ≠ gb370) HO368 hw; replace BK350 := kS BK350 hw; replace BK370 := kP4 BK370 hw; replace HB : Aside0 (Below w.heap.size w w32) := ⟨(by rw [hw]; exact (bb HB))⟩; clear hw; obtain ⟨hcz33_0, hcz33_1, hcz33_2, hcz33_3, hfz33_0, hfz33_1, hfz33_2, hfz33_3⟩ := bc4 BK350) | ((with_reducible refine gate_callee (f := 18) rfl ?_); refine gL (some 44) rfl rfl Try.func18 (by kernel_rfl) rfl #[.agg #[.slice A0_0 l0_0.length c0_0, .bool a0_1, .int .i64 a0_2, .slice A0_3 l0_3.length c0_3], .slice A1 l1.length c1] rfl ?_; (with_reducible refine (pentroughref19_Arrive.calls (fun k_ => k_ < w.heap.size) _ _ l0_0 a0_1 a0_2 (fun k_ => k_ < w.heap.size) _ _ l0_3 _ _ l1 t371 t374 t375 t376 t379 _ ?side1 ?side2 ?side3 ?side4 A17.out).mono ?_); (case side1 => exact Kd.V_mk HC0_0.out (Kd.F_below (Kd.C_F (Kd.heap_int .u8) HR0_0.out) (bb HB))); (case side2 => exact Kd.V_mk HC0_3.out (Kd.F_below (Kd.C_F (Kd.heap_int .u8) HR0_3.out) (bb HB))); (case side3 => exact Kd.C_below HR1.out (bb HB)); (case side4 => exact HC1.out); rintro e w34 ⟨v372, v377, rfl, ho0, ho1, hb⟩; refine ⟨_, rfl, ?_⟩; replace HO355 := vB HO355 hb; replace HO360 := vB HO360 hb; replace HO363 := vB HO363 hb; replace HO368 := vB HO368 hb; have HO373 := Aside0.mk (Kd.V_lower (Kd.V_mono (ok' := fun k_ => k_ ≠ gb350 ∧ k_ ≠ gb370) ho0 (fun k_ hk_ => ⟨oe hk_ (gw GW350) (gw GW350) (Kd.freshB (kk BK350) k_), oe hk_ (gw GW370) (gw GW370) (Kd.freshB (kk BK370) k_)⟩)) (below_size (bb HB))); have HO378 := Aside0.mk (Kd.V_lower (Kd.V_mono (ok' := fun k_ => k_ ≠ gb350 ∧ k_ ≠ gb370) ho1 (fun k_ hk_ => ⟨oe hk_ (gw GW350) (gw GW350) (Kd.freshB (kk BK350) k_), oe hk_ (gw GW370) (gw GW370) (Kd.freshB (kk BK370) k_)⟩)) (below_size (bb HB))); replace BK350 := kB BK350 hb; replace BK370 := kB BK370 hb; replace HB := hB HB hb; (try clear hb); (try clear hb2); (try clear hk); (try clear hi); (try clear ho0); (try clear ho1)) | ((with_reducible refine gate_dst (N := 10) rfl ?_); (try (refine gate_guard (by rfl) ?_; dsimp only)); refine box_event ?hg (N := 10) ?hd (cs := #[.slice none 0 0, .bool false, .int .i64 0, .slice none 0 0]) (t := 36) ?hr ?_; (case hd => rfl); (case hg => rfl); (case hr => first | (go_simp; done) | (go_simp; rfl)); intro gb380 hg w35 hbox hb; replace HO355 := vE HO355 hg hb; replace HO360 := vE HO360 hg hb; replace HO363 := vE HO363 hg hb; replace HO368 := vE HO368 hg hb; replace HO373 := vE HO373 hg hb; replace HO378 := vE HO378 hg hb; have BK380 := Aside0.mk hbox; have GW380 := gE HB hg; have GE380 := gE HB hg; replace HB := hB HB hb; have NB350_380 := nL BK350 hg; have NB380_350 := nG BK350 hg; replace BK350 := kB BK350 hb; have NB370_380 := nL BK370 hg; have NB380_370 := nG BK370 hg; replace BK370 := kB BK370 hb; clear hb hbox hg; obtain ⟨Ao36, co36, eo36⟩ := Kd.V_slice HO373.out; subst eo36; have hnb37 := NB380_350.out; have hnc37 := NB350_380.out; have hnb38 := NB380_370.out; have hnc38 := NB370_380.out; obtain ⟨hcz39_0, hcz39_1, hcz39_2, hcz39_3, hfz39_0, hfz39_1, hfz39_2, hfz39_3⟩ := bc4 BK380; obtain ⟨Ao40, co40, eo40⟩ := Kd.V_slice HO378.out; subst eo40) | ((with_reducible refine gate_store (t := 36) (p := 10) rfl ?_); refine store_event (t := 36) (p := 10) (v := ?vo_w41) (w1 := ((((w35.setCell ⟨gb380, 0, none⟩ (.slice Ao36 t371.length co36)).setCell ⟨gb380, 1, none⟩ (.bool t374)).setCell ⟨gb380, 2, none⟩ (.int .i64 t375)).setCell ⟨gb380, 3, none⟩ (.slice Ao40 t376.length co40))) ?hg ?ho ?hn ?hr ?_; (case ho => rfl); (case hg => rfl); (case hn => rfl); (case hr => first | (go_simp; done) | (go_simp; rfl)); intro w41 hw; replace HO355 := vS (fun k_ => k_ ≠ gb350 ∧ k_ ≠ gb370 ∧ k_ ≠ gb380) HO355 hw; replace HO360 := vS (fun k_ => k_ ≠ gb350 ∧ k_ ≠ gb370 ∧ k_ ≠ gb380) HO360 hw; replace HO363 := vS (fun k_ => k_ ≠ gb350 ∧ k_ ≠ gb370 ∧ k_ ≠ gb380) HO363 hw; replace HO368 := vS (fun k_ => k_ ≠ gb350 ∧ k_ ≠ gb370 ∧ k_ ≠ gb380) HO368 hw; replace HO373 := vS (fun k_ => k_ ≠ gb350 ∧ k_ ≠ gb370 ∧ k_ ≠ gb380) HO373 hw; replace HO378 := vS (fun k_ => k_ ≠ gb350 ∧ k_ ≠ gb370 ∧ k_ ≠ gb380) HO378 hw; replace BK350 := kS BK350 hw; replace BK370 := kS BK370 hw; replace BK380 := kP4 BK380 hw; replace HB : Aside0 (Below w.heap.size w w41) := ⟨(by rw [hw]; exact (bb HB))⟩; clear hw; obtain ⟨hcz42_0, hcz42_1, hcz42_2, hcz42_3, hfz42_0, hfz42_1, hfz42_2, hfz42_3⟩ := bc4 BK350) | ((with_reducible refine gate_callee (f := 16) rfl ?_); refine gL (some 49) rfl rfl Try.func16 (by kernel_rfl) rfl #[.agg #[.slice A0_0 l0_0.length c0_0, .bool a0_1, .int .i64 a0_2, .slice A0_3 l0_3.length c0_3]] rfl ?_; (with_reducible refine (pentroughlaw19_ours.calls (fun k_ => k_ < w.heap.size) _ _ l0_0 a0_1 a0_2 (fun k_ => k_ < w.heap.size) _ _ l0_3 t381 t384 t385 t386 _ ?side1 ?side2 A18.out).mono ?_); (case side1 => exact Kd.V_mk HC0_0.out (Kd.F_below (Kd.C_F (Kd.heap_int .u8) HR0_0.out) (bb HB))); (case side2 => exact Kd.V_mk HC0_3.out (Kd.F_below (Kd.C_F (Kd.heap_int .u8) HR0_3.out) (bb HB))); rintro e w43 ⟨v382, v387, rfl, ho0, ho1, hb⟩; refine ⟨_, rfl, ?_⟩; replace HO355 := vB HO355 hb; replace HO360 := vB HO360 hb; replace HO363 := vB HO363 hb; replace HO368 := vB HO368 hb; replace HO373 := vB HO373 hb; replace HO378 := vB HO378 hb; have HO383 := Aside0.mk (Kd.V_lower (Kd.V_mono (ok' := fun k_ => k_ ≠ gb350 ∧ k_ ≠ gb370 ∧ k_ ≠ gb380) ho0 (fun k_ hk_ => ⟨oe hk_ (gw GW350) (gw GW350) (Kd.freshB (kk BK350) k_), oe hk_ (gw GW370) (gw GW370) (Kd.freshB (kk BK370) k_), oe hk_ (gw GW380) (gw GW380) (Kd.freshB (kk BK380) k_)⟩)) (below_size (bb HB))); have HO388 := Aside0.mk (Kd.V_lower (Kd.V_mono (ok' := fun k_ => k_ ≠ gb350 ∧ k_ ≠ gb370 ∧ k_ ≠ gb380) ho1 (fun k_ hk_ => ⟨oe hk_ (gw GW350) (gw GW350) (Kd.freshB (kk BK350) k_), oe hk_ (gw GW370) (gw GW370) (Kd.freshB (kk BK370) k_), oe hk_ (gw GW380) (gw GW380) (Kd.freshB (kk BK380) k_)⟩)) (below_size (bb HB))); replace BK350 := kB BK350 hb; replace BK370 := kB BK370 hb; replace BK380 := kB BK380 hb; replace HB := hB HB hb; (try clear hb); (try clear hb2); (try clear hk); (try clear hi); (try clear ho0); (try clear ho1); obtain ⟨Ao44, co44, eo44⟩ := Kd.V_slice HO383.out; subst eo44; obtain ⟨Ao45, co45, eo45⟩ := Kd.V_slice HO388.out; subst eo45) | ((with_reducible refine gate_callee (f := 11) rfl ?_); refine gL (some 51) rfl rfl Try.func11 (by kernel_rfl) rfl #[.agg #[.slice Ao44 t381.length co44, .bool t384, .int .i64 t385, .slice Ao45 t386.length co45], .int .i64 a2] rfl ?_; (with_reducible refine (wire_Grant.calls (fun k_ => (k_ ≠ gb350 ∧ (k_ ≠ gb370 ∧ k_ ≠ gb380))) _ _ t381 t384 t385 (fun k_ => (k_ ≠ gb350 ∧ (k_ ≠ gb370 ∧ k_ ≠ gb380))) _ _ t386 a2 t389 t392 t393 t394 t397 _ ?side1 ?side2 A19.out).mono ?_); (case side1 => exact HO383.out); (case side2 => exact HO388.out); rintro e w46 ⟨v390, v395, rfl, ho0, ho1, hb⟩; refine ⟨_, rfl, ?_⟩; replace HO355 := vB HO355 hb; replace HO360 := vB HO360 hb; replace HO363 := vB HO363 hb; replace HO368 := vB HO368 hb; replace HO373 := vB HO373 hb; replace HO378 := vB HO378 hb; replace HO383 := vB HO383 hb; replace HO388 := vB HO388 hb; have HO391 := Aside0.mk (Kd.V_lower (Kd.V_mono (ok' := fun k_ => k_ ≠ gb350 ∧ k_ ≠ gb370 ∧ k_ ≠ gb380) ho0 (fun k_ hk_ => ⟨oe hk_ (fun h => h.1) (fun h => h.1) (Kd.freshB (kk BK350) k_), oe hk_ (fun h => h.2.1) (fun h => h.2.1) (Kd.freshB (kk BK370) k_), oe hk_ (fun h => h.2.2) (fun h => h.2.2) (Kd.freshB (kk BK380) k_)⟩)) (below_size (bb HB))); have HO396 := Aside0.mk (Kd.V_lower (Kd.V_mono (ok' := fun k_ => k_ ≠ gb350 ∧ k_ ≠ gb370 ∧ k_ ≠ gb380) ho1 (fun k_ hk_ => ⟨oe hk_ (fun h => h.1) (fun h => h.1) (Kd.freshB (kk BK350) k_), oe hk_ (fun h => h.2.1) (fun h => h.2.1) (Kd.freshB (kk BK370) k_), oe hk_ (fun h => h.2.2) (fun h => h.2.2) (Kd.freshB (kk BK380) k_)⟩)) (below_size (bb HB))); replace BK350 := kB BK350 hb; replace BK370 := kB BK370 hb; replace BK380 := kB BK380 hb; replace HB := hB HB hb; (try clear hb); (try clear hb2); (try clear hk); (try clear hi); (try clear ho0); (try clear ho1)) | ((with_reducible refine gate_dst (N := 12) rfl ?_); (try (refine gate_guard (by rfl) ?_; dsimp only)); refine box_event ?hg (N := 12) ?hd (cs := #[.slice none 0 0, .bool false, .int .i64 0, .slice none 0 0]) (t := 27) ?hr ?_; (case hd => rfl); (case hg => rfl); (case hr => first | (go_simp; done) | (go_simp; rfl)); intro gb398 hg w47 hbox hb; replace HO355 := vE HO355 hg hb; replace HO360 := vE HO360 hg hb; replace HO363 := vE HO363 hg hb; replace HO368 := vE HO368 hg hb; replace HO373 := vE HO373 hg hb; replace HO378 := vE HO378 hg hb; replace HO383 := vE HO383 hg hb; replace HO388 := vE HO388 hg hb; replace HO391 := vE HO391 hg hb; replace HO396 := vE HO396 hg hb; have BK398 := Aside0.mk hbox; have GW398 := gE HB hg; have GE398 := gE HB hg; replace HB := hB HB hb; have NB350_398 := nL BK350 hg; have NB398_350 := nG BK350 hg; replace BK350 := kB BK350 hb; have NB370_398 := nL BK370 hg; have NB398_370 := nG BK370 hg; replace BK370 := kB BK370 hb; have NB380_398 := nL BK380 hg; have NB398_380 := nG BK380 hg; replace BK380 := kB BK380 hb; clear hb hbox hg; obtain ⟨Ao48, co48, eo48⟩ := Kd.V_slice HO391.out; subst eo48; have hnb49 := NB398_350.out; have hnc49 := NB350_398.out; have hnb50 := NB398_370.out; have hnc50 := NB370_398.out; have hnb51 := NB398_380.out; have hnc51 := NB380_398.out; obtain ⟨hcz52_0, hcz52_1, hcz52_2, hcz52_3, hfz52_0, hfz52_1, hfz52_2, hfz52_3⟩ := bc4 BK398; obtain ⟨Ao53, co53, eo53⟩ := Kd.V_slice HO396.out; subst eo53) | ((with_reducible refine gate_store (t := 27) (p := 12) rfl ?_); refine store_event (t := 27) (p := 12) (v := ?vo_w54) (w1 := ((((w47.setCell ⟨gb398, 0, none⟩ (.slice Ao48 t389.length co48)).setCell ⟨gb398, 1, none⟩ (.bool t392)).setCell ⟨gb398, 2, none⟩ (.int .i64 t393)).setCell ⟨gb398, 3, none⟩ (.slice Ao53 t394.length co53))) ?hg ?ho ?hn ?hr ?_; (case ho => rfl); (case hg => rfl); (case hn => rfl); (case hr => first | (go_simp; done) | (go_simp; rfl)); intro w54 hw; replace HO355 := vS (fun k_ => k_ ≠ gb350 ∧ k_ ≠ gb370 ∧ k_ ≠ gb380 ∧ k_ ≠ gb398) HO355 hw; replace HO360 := vS (fun k_ => k_ ≠ gb350 ∧ k_ ≠ gb370 ∧ k_ ≠ gb380 ∧ k_ ≠ gb398) HO360 hw; replace HO363 := vS (fun k_ => k_ ≠ gb350 ∧ k_ ≠ gb370 ∧ k_ ≠ gb380 ∧ k_ ≠ gb398) HO363 hw; replace HO368 := vS (fun k_ => k_ ≠ gb350 ∧ k_ ≠ gb370 ∧ k_ ≠ gb380 ∧ k_ ≠ gb398) HO368 hw; replace HO373 := vS (fun k_ => k_ ≠ gb350 ∧ k_ ≠ gb370 ∧ k_ ≠ gb380 ∧ k_ ≠ gb398) HO373 hw; replace HO378 := vS (fun k_ => k_ ≠ gb350 ∧ k_ ≠ gb370 ∧ k_ ≠ gb380 ∧ k_ ≠ gb398) HO378 hw; replace HO383 := vS (fun k_ => k_ ≠ gb350 ∧ k_ ≠ gb370 ∧ k_ ≠ gb380 ∧ k_ ≠ gb398) HO383 hw; replace HO388 := vS (fun k_ => k_ ≠ gb350 ∧ k_ ≠ gb370 ∧ k_ ≠ gb380 ∧ k_ ≠ gb398) HO388 hw; replace HO391 := vS (fun k_ => k_ ≠ gb350 ∧ k_ ≠ gb370 ∧ k_ ≠ gb380 ∧ k_ ≠ gb398) HO391 hw; replace HO396 := vS (fun k_ => k_ ≠ gb350 ∧ k_ ≠ gb370 ∧ k_ ≠ gb380 ∧ k_ ≠ gb398) HO396 hw; replace BK350 := kS BK350 hw; replace BK370 := kS BK370 hw; replace BK380 := kS BK380 hw; replace BK398 := kP4 BK398 hw; replace HB : Aside0 (Below w.heap.size w w54) := ⟨(by rw [hw]; exact (bb HB))⟩; clear hw; obtain ⟨hcz55_0, hcz55_1, hcz55_2, hcz55_3, hfz55_0, hfz55_1, hfz55_2, hfz55_3⟩ := bc4 BK350) | ((with_reducible refine gate_callee (f := 19) rfl ?_); refine gL (some 57) rfl rfl Try.func19 (by kernel_rfl) rfl #[.agg #[.slice A0_0 l0_0.length c0_0, .bool a0_1, .int .i64 a0_2, .slice A0_3 l0_3.length c0_3], .int .i64 a2] rfl ?_; (with_reducible refine (pentroughref19_Grant.calls (fun k_ => k_ < w.heap.size) _ _ l0_0 a0_1 a0_2 (fun k_ => k_ < w.heap.size) _ _ l0_3 a2 t399 t402 t403 t404 t407 _ ?side1 ?side2 A20.out).mono ?_); (case side1 => exact Kd.V_mk HC0_0.out (Kd.F_below (Kd.C_F (Kd.heap_int .u8) HR0_0.out) (bb HB))); (case side2 => exact Kd.V_mk HC0_3.out (Kd.F_below (Kd.C_F (Kd.heap_int .u8) HR0_3.out) (bb HB))); rintro e w56 ⟨v400, v405, rfl, ho0, ho1, hb⟩; refine ⟨_, rfl, ?_⟩; replace HO355 := vB HO355 hb; replace HO360 := vB HO360 hb; replace HO363 := vB HO363 hb; replace HO368 := vB HO368 hb; replace HO373 := vB HO373 hb; replace HO378 := vB HO378 hb; replace HO383 := vB HO383 hb; replace HO388 := vB HO388 hb; replace HO391 := vB HO391 hb; replace HO396 := vB HO396 hb; have HO401 := Aside0.mk (Kd.V_lower (Kd.V_mono (ok' := fun k_ => k_ ≠ gb350 ∧ k_ ≠ gb370 ∧ k_ ≠ gb380 ∧ k_ ≠ gb398) ho0 (fun k_ hk_ => ⟨oe hk_ (gw GW350) (gw GW350) (Kd.freshB (kk BK350) k_), oe hk_ (gw GW370) (gw GW370) (Kd.freshB (kk BK370) k_), oe hk_ (gw GW380) (gw GW380) (Kd.freshB (kk BK380) k_), oe hk_ (gw GW398) (gw GW398) (Kd.freshB (kk BK398) k_)⟩)) (below_size (bb HB))); have HO406 := Aside0.mk (Kd.V_lower (Kd.V_mono (ok' := fun k_ => k_ ≠ gb350 ∧ k_ ≠ gb370 ∧ k_ ≠ gb380 ∧ k_ ≠ gb398) ho1 (fun k_ hk_ => ⟨oe hk_ (gw GW350) (gw GW350) (Kd.freshB (kk BK350) k_), oe hk_ (gw GW370) (gw GW370) (Kd.freshB (kk BK370) k_), oe hk_ (gw GW380) (gw GW380) (Kd.freshB (kk BK380) k_), oe hk_ (gw GW398) (gw GW398) (Kd.freshB (kk BK398) k_)⟩)) (below_size (bb HB))); replace BK350 := kB BK350 hb; replace BK370 := kB BK370 hb; replace BK380 := kB BK380 hb; replace BK398 := kB BK398 hb; replace HB := hB HB hb; (try clear hb); (try clear hb2); (try clear hk); (try clear hi); (try clear ho0); (try clear ho1)) | ((with_reducible refine gate_dst (N := 14) rfl ?_); (try (refine gate_guard (by rfl) ?_; dsimp only)); refine box_event ?hg (N := 14) ?hd (cs := #[.slice none 0 0, .bool false, .int .i64 0, .slice none 0 0]) (t := 36) ?hr ?_; (case hd => rfl); (case hg => rfl); (case hr => first | (go_simp; done) | (go_simp; rfl)); intro gb408 hg w57 hbox hb; replace HO355 := vE HO355 hg hb; replace HO360 := vE HO360 hg hb; replace HO363 := vE HO363 hg hb; replace HO368 := vE HO368 hg hb; replace HO373 := vE HO373 hg hb; replace HO378 := vE HO378 hg hb; replace HO383 := vE HO383 hg hb; replace HO388 := vE HO388 hg hb; replace HO391 := vE HO391 hg hb; replace HO396 := vE HO396 hg hb; replace HO401 := vE HO401 hg hb; replace HO406 := vE HO406 hg hb; have BK408 := Aside0.mk hbox; have GW408 := gE HB hg; have GE408 := gE HB hg; replace HB := hB HB hb; have NB350_408 := nL BK350 hg; have NB408_350 := nG BK350 hg; replace BK350 := kB BK350 hb; have NB370_408 := nL BK370 hg; have NB408_370 := nG BK370 hg; replace BK370 := kB BK370 hb; have NB380_408 := nL BK380 hg; have NB408_380 := nG BK380 hg; replace BK380 := kB BK380 hb; have NB398_408 := nL BK398 hg; have NB408_398 := nG BK398 hg; replace BK398 := kB BK398 hb; clear hb hbox hg; obtain ⟨Ao58, co58, eo58⟩ := Kd.V_slice HO401.out; subst eo58; have hnb59 := NB408_350.out; have hnc59 := NB350_408.out; have hnb60 := NB408_370.out; have hnc60 := NB370_408.out; have hnb61 := NB408_380.out; have hnc61 := NB380_408.out; have hnb62 := NB408_398.out; have hnc62 := NB398_408.out; obtain ⟨hcz63_0, hcz63_1, hcz63_2, hcz63_3, hfz63_0, hfz63_1, hfz63_2, hfz63_3⟩ := bc4 BK408; obtain ⟨Ao64, co64, eo64⟩ := Kd.V_slice HO406.out; subst eo64))
        (try simp only [Act.put, List.setIfInBounds_toArray, List.set_cons_zero, List.set_cons_succ])
        go_cut [79] (fun v79 wc => ∃ (kq : Nat) (x79_20 : Bool), v79 = .bool x79_20 ∧ Aside0 (pentroughlaw19_WireIs.j1 kq l1 a2 t351 x79_20 l0_0 a0_1 a0_2 l0_3 = some r) ∧ Aside0 (kq ≤ kj4) ∧ Aside0 (Kd.V (Kd.int .u8) 5 wc w.heap.size (fun k_ => k_ ≠ gb350 ∧ k_ ≠ gb370 ∧ k_ ≠ gb380 ∧ k_ ≠ gb398 ∧ k_ ≠ gb408) (.slice Ao28 t361.length co28) t361) ∧ Aside0 (Kd.V (Kd.int .u8) 5 wc w.heap.size (fun k_ => k_ ≠ gb350 ∧ k_ ≠ gb370 ∧ k_ ≠ gb380 ∧ k_ ≠ gb398 ∧ k_ ≠ gb408) (.slice Ao31 t366.length co31) t366) ∧ Aside0 (Kd.V (Kd.int .u8) 5 wc w.heap.size (fun k_ => k_ ≠ gb350 ∧ k_ ≠ gb370 ∧ k_ ≠ gb380 ∧ k_ ≠ gb398 ∧ k_ ≠ gb408) (.slice Ao36 t371.length co36) t371) ∧ Aside0 (Kd.V (Kd.int .u8) 5 wc w.heap.size (fun k_ => k_ ≠ gb350 ∧ k_ ≠ gb370 ∧ k_ ≠ gb380 ∧ k_ ≠ gb398 ∧ k_ ≠ gb408) (.slice Ao40 t376.length co40) t376) ∧ Aside0 (Kd.V (Kd.int .u8) 5 wc w.heap.size (fun k_ => k_ ≠ gb350 ∧ k_ ≠ gb370 ∧ k_ ≠ gb380 ∧ k_ ≠ gb398 ∧ k_ ≠ gb408) (.slice Ao48 t389.length co48) t389) ∧ Aside0 (Kd.V (Kd.int .u8) 5 wc w.heap.size (fun k_ => k_ ≠ gb350 ∧ k_ ≠ gb370 ∧ k_ ≠ gb380 ∧ k_ ≠ gb398 ∧ k_ ≠ gb408) (.slice Ao53 t394.length co53) t394) ∧ Aside0 (Kd.V (Kd.int .u8) 5 wc w.heap.size (fun k_ => k_ ≠ gb350 ∧ k_ ≠ gb370 ∧ k_ ≠ gb380 ∧ k_ ≠ gb398 ∧ k_ ≠ gb408) (.slice Ao58 t399.length co58) t399) ∧ Aside0 (Kd.V (Kd.int .u8) 5 wc w.heap.size (fun k_ => k_ ≠ gb350 ∧ k_ ≠ gb370 ∧ k_ ≠ gb380 ∧ k_ ≠ gb398 ∧ k_ ≠ gb408) (.slice Ao64 t404.length co64) t404) ∧ Aside0 (wc.heap[gb350]? = some (.cells #[(.slice A0_0 l0_0.length c0_0), .bool a0_1, .int .i64 a0_2, (.slice A0_3 l0_3.length c0_3)] 36 (0, 0))) ∧ Aside0 (wc.heap[gb370]? = some (.cells #[(.slice Ao28 t361.length co28), .bool t364, .int .i64 t365, (.slice Ao31 t366.length co31)] 27 (0, 0))) ∧ Aside0 (wc.heap[gb380]? = some (.cells #[(.slice Ao36 t371.length co36), .bool t374, .int .i64 t375, (.slice Ao40 t376.length co40)] 36 (0, 0))) ∧ Aside0 (wc.heap[gb398]? = some (.cells #[(.slice Ao48 t389.length co48), .bool t392, .int .i64 t393, (.slice Ao53 t394.length co53)] 27 (0, 0))) ∧ Aside0 (wc.heap[gb408]? = some (.cells #[(.slice Ao58 t399.length co58), .bool t402, .int .i64 t403, (.slice Ao64 t404.length co64)] 36 (0, 0))) ∧ Aside0 (Below w.heap.size w wc))
        case first =>
          have H := HC21.out
          clear HC21
          by_cases c65 : t369 = t379
          · rw [if_pos c65] at H
            have c65b0 : (t369 == t379) = true := beq_iff_eq.mpr c65
            have c65b1 : (t369 != t379) = false := bne_eq_false_iff_eq.mpr c65
            clear c65
            (first | rw [c65b0] | (simp only [i64_w, i32_w]; rw [c65b0]) | skip)
            by_cases c66 : t397 = t407
            · rw [if_pos c66] at H
              have c66b0 : (t397 == t407) = true := beq_iff_eq.mpr c66
              have c66b1 : (t397 != t407) = false := bne_eq_false_iff_eq.mpr c66
              clear c66
              obtain ⟨t409, A67, H⟩ := ob H
              by_cases c68 : t409 = true
              · subst c68
                rw [if_pos rfl] at H
                obtain ⟨t410, A69, H⟩ := ob H
                have H' := Aside0.mk H
                clear H
                have hnb70 := NB370_350.out
                have hnc70 := NB350_370.out
                have hnb71 := NB370_380.out
                have hnc71 := NB380_370.out
                have hnb72 := NB370_398.out
                have hnc72 := NB398_370.out
                have hnb73 := NB370_408.out
                have hnc73 := NB408_370.out
                obtain ⟨hcz74_0, hcz74_1, hcz74_2, hcz74_3, hfz74_0, hfz74_1, hfz74_2, hfz74_3⟩ := bc4 BK370
                have hnb75 := NB380_350.out
                have hnc75 := NB350_380.out
                have hnb76 := NB380_398.out
                have hnc76 := NB398_380.out
                have hnb77 := NB380_408.out
                have hnc77 := NB408_380.out
                obtain ⟨hcz78_0, hcz78_1, hcz78_2, hcz78_3, hfz78_0, hfz78_1, hfz78_2, hfz78_3⟩ := bc4 BK380
                go_wp2_with (first | (go_at_call 20; (with_reducible refine (pentroughlaw19_same.calls _ _ t361 t364 t365 _ _ t366 _ _ t371 t374 t375 _ _ t376 true _ ?side1 ?side2 ?side3 ?side4 ?side5 ?side6 ?side7 ?side8 A67.out).mono ?_); (case side1 => refine (Kd.V_reads' (e := 5) (base := w.heap.size) (ok := fun k_ => ((k_ ≠ gb350 ∧ (k_ ≠ gb370 ∧ (k_ ≠ gb380 ∧ k_ ≠ gb398))) ∧ k_ ≠ gb408)) (n := t361.length) (c := co28) ?_).2.2; exact (vX HO363)); (case side2 => exact (Kd.V_reads' HO363.out).2.1); (case side3 => refine (Kd.V_reads' (e := 5) (base := w.heap.size) (ok := fun k_ => ((k_ ≠ gb350 ∧ (k_ ≠ gb370 ∧ (k_ ≠ gb380 ∧ k_ ≠ gb398))) ∧ k_ ≠ gb408)) (n := t366.length) (c := co31) ?_).2.2; exact (vX HO368)); (case side4 => exact (Kd.V_reads' HO368.out).2.1); (case side5 => refine (Kd.V_reads' (e := 5) (base := w.heap.size) (ok := fun k_ => ((k_ ≠ gb350 ∧ (k_ ≠ gb370 ∧ (k_ ≠ gb380 ∧ k_ ≠ gb398))) ∧ k_ ≠ gb408)) (n := t371.length) (c := co36) ?_).2.2; exact (vX HO373)); (case side6 => exact (Kd.V_reads' HO373.out).2.1); (case side7 => refine (Kd.V_reads' (e := 5) (base := w.heap.size) (ok := fun k_ => ((k_ ≠ gb350 ∧ (k_ ≠ gb370 ∧ (k_ ≠ gb380 ∧ k_ ≠ gb398))) ∧ k_ ≠ gb408)) (n := t376.length) (c := co40) ?_).2.2; exact (vX HO378)); (case side8 => exact (Kd.V_reads' HO378.out).2.1); rintro e w79 ⟨rfl, hb⟩; replace HO355 := Aside0.mk (Kd.V_below (vX HO355) hb); replace HO360 := Aside0.mk (Kd.V_below (vX HO360) hb); replace HO363 := Aside0.mk (Kd.V_below (vX HO363) hb); replace HO368 := Aside0.mk (Kd.V_below (vX HO368) hb); replace HO373 := Aside0.mk (Kd.V_below (vX HO373) hb); replace HO378 := Aside0.mk (Kd.V_below (vX HO378) hb); replace HO383 := Aside0.mk (Kd.V_below (vX HO383) hb); replace HO388 := Aside0.mk (Kd.V_below (vX HO388) hb); replace HO391 := Aside0.mk (Kd.V_below (vX HO391) hb); replace HO396 := Aside0.mk (Kd.V_below (vX HO396) hb); replace HO401 := Aside0.mk (Kd.V_below (vX HO401) hb); replace HO406 := Aside0.mk (Kd.V_below (vX HO406) hb); replace BK350 := Aside0.mk (blk_below (g := gb350) (o := .cells #[.slice A0_0 l0_0.length c0_0, .bool a0_1, .int .i64 a0_2, .slice A0_3 l0_3.length c0_3] 36 (0, 0)) (kX BK350) hb); replace BK370 := Aside0.mk (blk_below (g := gb370) (o := .cells #[.slice Ao28 t361.length co28, .bool t364, .int .i64 t365, .slice Ao31 t366.length co31] 27 (0, 0)) (kX BK370) hb); replace BK380 := Aside0.mk (blk_below (g := gb380) (o := .cells #[.slice Ao36 t371.length co36, .bool t374, .int .i64 t375, .slice Ao40 t376.length co40] 36 (0, 0)) (kX BK380) hb); replace BK398 := Aside0.mk (blk_below (g := gb398) (o := .cells #[.slice Ao48 t389.length co48, .bool t392, .int .i64 t393, .slice Ao53 t394.length co53] 27 (0, 0)) (kX BK398) hb); replace BK408 := Aside0.mk (blk_below (g := gb408) (o := .cells #[.slice Ao58 t399.length co58, .bool t402, .int .i64 t403, .slice Ao64 t404.length co64] 36 (0, 0)) (by (with_reducible repeat (first | refine blk_drewN ?_ _ | refine blk_drew ?_ | refine blk_alloc ?_ _)); refine blk_put (cs := #[.slice Ao58 t399.length co58, .bool t402, .int .i64 t403, .slice none 0 0]) ?_ 3 _ rfl; (with_reducible repeat (first | refine blk_drewN ?_ _ | refine blk_drew ?_ | refine blk_alloc ?_ _)); refine blk_put (cs := #[.slice Ao58 t399.length co58, .bool t402, .int .i64 0, .slice none 0 0]) ?_ 2 _ rfl; (with_reducible repeat (first | refine blk_drewN ?_ _ | refine blk_drew ?_ | refine blk_alloc ?_ _)); refine blk_put (cs := #[.slice Ao58 t399.length co58, .bool false, .int .i64 0, .slice none 0 0]) ?_ 1 _ rfl; (with_reducible repeat (first | refine blk_drewN ?_ _ | refine blk_drew ?_ | refine blk_alloc ?_ _)); refine blk_put (cs := #[.slice none 0 0, .bool false, .int .i64 0, .slice none 0 0]) ?_ 0 _ rfl; (with_reducible repeat (first | refine blk_drewN ?_ _ | refine blk_drew ?_ | refine blk_alloc ?_ _)); exact BK408.out) hb); replace HB := hB HB hb; (try clear hb); (try clear hb2); (try clear hk); (try clear hi); have hnb80 := NB398_350.out; have hnc80 := NB350_398.out; have hnb81 := NB398_408.out; have hnc81 := NB408_398.out; obtain ⟨hcz82_0, hcz82_1, hcz82_2, hcz82_3, hfz82_0, hfz82_1, hfz82_2, hfz82_3⟩ := bc4 BK398; have hnb83 := NB408_350.out; have hnc83 := NB350_408.out; obtain ⟨hcz84_0, hcz84_1, hcz84_2, hcz84_3, hfz84_0, hfz84_1, hfz84_2, hfz84_3⟩ := bc4 BK408) | (go_at_call 20; (with_reducible refine (pentroughlaw19_same.calls _ _ t389 t392 t393 _ _ t394 _ _ t399 t402 t403 _ _ t404 t410 _ ?side1 ?side2 ?side3 ?side4 ?side5 ?side6 ?side7 ?side8 A69.out).mono ?_); (case side1 => exact (Kd.V_reads' (vv HO391)).2.2); (case side2 => exact (Kd.V_reads' HO391.out).2.1); (case side3 => exact (Kd.V_reads' (vv HO396)).2.2); (case side4 => exact (Kd.V_reads' HO396.out).2.1); (case side5 => exact (Kd.V_reads' (vv HO401)).2.2); (case side6 => exact (Kd.V_reads' HO401.out).2.1); (case side7 => exact (Kd.V_reads' (vv HO406)).2.2); (case side8 => exact (Kd.V_reads' HO406.out).2.1); rintro e w85 ⟨rfl, hb⟩; replace HO355 := vB HO355 hb; replace HO360 := vB HO360 hb; replace HO363 := vB HO363 hb; replace HO368 := vB HO368 hb; replace HO373 := vB HO373 hb; replace HO378 := vB HO378 hb; replace HO383 := vB HO383 hb; replace HO388 := vB HO388 hb; replace HO391 := vB HO391 hb; replace HO396 := vB HO396 hb; replace HO401 := vB HO401 hb; replace HO406 := vB HO406 hb; replace BK350 := kB BK350 hb; replace BK370 := kB BK370 hb; replace BK380 := kB BK380 hb; replace BK398 := kB BK398 hb; replace BK408 := kB BK408 hb; replace HB := hB HB hb; (try clear hb); (try clear hb2); (try clear hk); (try clear hi)))
                go_meet
                case rel => exact ⟨_, (!t410), (by first | rfl | (simp; done) | (simp [*]; done)), H', ⟨by have := HJ4.out; first | omega | exact Nat.le_refl _⟩, ⟨vM HO363⟩, ⟨vM HO368⟩, ⟨vM HO373⟩, ⟨vM HO378⟩, ⟨vM HO391⟩, ⟨vM HO396⟩, ⟨vM HO401⟩, ⟨vM HO406⟩, ⟨kk BK350⟩, ⟨kk BK370⟩, ⟨kk BK380⟩, ⟨kk BK398⟩, ⟨kk BK408⟩, ⟨bb HB⟩⟩
              · replace c68 := Bool.eq_false_iff.mpr c68
                subst c68
                rw [if_neg nf] at H
                have H' := Aside0.mk H
                clear H
                have hnb86 := NB370_350.out
                have hnc86 := NB350_370.out
                have hnb87 := NB370_380.out
                have hnc87 := NB380_370.out
                have hnb88 := NB370_398.out
                have hnc88 := NB398_370.out
                have hnb89 := NB370_408.out
                have hnc89 := NB408_370.out
                obtain ⟨hcz90_0, hcz90_1, hcz90_2, hcz90_3, hfz90_0, hfz90_1, hfz90_2, hfz90_3⟩ := bc4 BK370
                have hnb91 := NB380_350.out
                have hnc91 := NB350_380.out
                have hnb92 := NB380_398.out
                have hnc92 := NB398_380.out
                have hnb93 := NB380_408.out
                have hnc93 := NB408_380.out
                obtain ⟨hcz94_0, hcz94_1, hcz94_2, hcz94_3, hfz94_0, hfz94_1, hfz94_2, hfz94_3⟩ := bc4 BK380
                go_wp2_with (first | (go_at_call 20; (with_reducible refine (pentroughlaw19_same.calls _ _ t361 t364 t365 _ _ t366 _ _ t371 t374 t375 _ _ t376 false _ ?side1 ?side2 ?side3 ?side4 ?side5 ?side6 ?side7 ?side8 A67.out).mono ?_); (case side1 => refine (Kd.V_reads' (e := 5) (base := w.heap.size) (ok := fun k_ => ((k_ ≠ gb350 ∧ (k_ ≠ gb370 ∧ (k_ ≠ gb380 ∧ k_ ≠ gb398))) ∧ k_ ≠ gb408)) (n := t361.length) (c := co28) ?_).2.2; exact (vX HO363)); (case side2 => exact (Kd.V_reads' HO363.out).2.1); (case side3 => refine (Kd.V_reads' (e := 5) (base := w.heap.size) (ok := fun k_ => ((k_ ≠ gb350 ∧ (k_ ≠ gb370 ∧ (k_ ≠ gb380 ∧ k_ ≠ gb398))) ∧ k_ ≠ gb408)) (n := t366.length) (c := co31) ?_).2.2; exact (vX HO368)); (case side4 => exact (Kd.V_reads' HO368.out).2.1); (case side5 => refine (Kd.V_reads' (e := 5) (base := w.heap.size) (ok := fun k_ => ((k_ ≠ gb350 ∧ (k_ ≠ gb370 ∧ (k_ ≠ gb380 ∧ k_ ≠ gb398))) ∧ k_ ≠ gb408)) (n := t371.length) (c := co36) ?_).2.2; exact (vX HO373)); (case side6 => exact (Kd.V_reads' HO373.out).2.1); (case side7 => refine (Kd.V_reads' (e := 5) (base := w.heap.size) (ok := fun k_ => ((k_ ≠ gb350 ∧ (k_ ≠ gb370 ∧ (k_ ≠ gb380 ∧ k_ ≠ gb398))) ∧ k_ ≠ gb408)) (n := t376.length) (c := co40) ?_).2.2; exact (vX HO378)); (case side8 => exact (Kd.V_reads' HO378.out).2.1); rintro e w95 ⟨rfl, hb⟩; replace HO355 := Aside0.mk (Kd.V_below (vX HO355) hb); replace HO360 := Aside0.mk (Kd.V_below (vX HO360) hb); replace HO363 := Aside0.mk (Kd.V_below (vX HO363) hb); replace HO368 := Aside0.mk (Kd.V_below (vX HO368) hb); replace HO373 := Aside0.mk (Kd.V_below (vX HO373) hb); replace HO378 := Aside0.mk (Kd.V_below (vX HO378) hb); replace HO383 := Aside0.mk (Kd.V_below (vX HO383) hb); replace HO388 := Aside0.mk (Kd.V_below (vX HO388) hb); replace HO391 := Aside0.mk (Kd.V_below (vX HO391) hb); replace HO396 := Aside0.mk (Kd.V_below (vX HO396) hb); replace HO401 := Aside0.mk (Kd.V_below (vX HO401) hb); replace HO406 := Aside0.mk (Kd.V_below (vX HO406) hb); replace BK350 := Aside0.mk (blk_below (g := gb350) (o := .cells #[.slice A0_0 l0_0.length c0_0, .bool a0_1, .int .i64 a0_2, .slice A0_3 l0_3.length c0_3] 36 (0, 0)) (kX BK350) hb); replace BK370 := Aside0.mk (blk_below (g := gb370) (o := .cells #[.slice Ao28 t361.length co28, .bool t364, .int .i64 t365, .slice Ao31 t366.length co31] 27 (0, 0)) (kX BK370) hb); replace BK380 := Aside0.mk (blk_below (g := gb380) (o := .cells #[.slice Ao36 t371.length co36, .bool t374, .int .i64 t375, .slice Ao40 t376.length co40] 36 (0, 0)) (kX BK380) hb); replace BK398 := Aside0.mk (blk_below (g := gb398) (o := .cells #[.slice Ao48 t389.length co48, .bool t392, .int .i64 t393, .slice Ao53 t394.length co53] 27 (0, 0)) (kX BK398) hb); replace BK408 := Aside0.mk (blk_below (g := gb408) (o := .cells #[.slice Ao58 t399.length co58, .bool t402, .int .i64 t403, .slice Ao64 t404.length co64] 36 (0, 0)) (by (with_reducible repeat (first | refine blk_drewN ?_ _ | refine blk_drew ?_ | refine blk_alloc ?_ _)); refine blk_put (cs := #[.slice Ao58 t399.length co58, .bool t402, .int .i64 t403, .slice none 0 0]) ?_ 3 _ rfl; (with_reducible repeat (first | refine blk_drewN ?_ _ | refine blk_drew ?_ | refine blk_alloc ?_ _)); refine blk_put (cs := #[.slice Ao58 t399.length co58, .bool t402, .int .i64 0, .slice none 0 0]) ?_ 2 _ rfl; (with_reducible repeat (first | refine blk_drewN ?_ _ | refine blk_drew ?_ | refine blk_alloc ?_ _)); refine blk_put (cs := #[.slice Ao58 t399.length co58, .bool false, .int .i64 0, .slice none 0 0]) ?_ 1 _ rfl; (with_reducible repeat (first | refine blk_drewN ?_ _ | refine blk_drew ?_ | refine blk_alloc ?_ _)); refine blk_put (cs := #[.slice none 0 0, .bool false, .int .i64 0, .slice none 0 0]) ?_ 0 _ rfl; (with_reducible repeat (first | refine blk_drewN ?_ _ | refine blk_drew ?_ | refine blk_alloc ?_ _)); exact BK408.out) hb); replace HB := hB HB hb; (try clear hb); (try clear hb2); (try clear hk); (try clear hi)))
                go_meet
                case rel => exact ⟨_, (true), (by first | rfl | (simp; done) | (simp [*]; done)), H', ⟨by have := HJ4.out; first | omega | exact Nat.le_refl _⟩, ⟨vM HO363⟩, ⟨vM HO368⟩, ⟨vM HO373⟩, ⟨vM HO378⟩, ⟨vM HO391⟩, ⟨vM HO396⟩, ⟨vM HO401⟩, ⟨vM HO406⟩, ⟨kk BK350⟩, ⟨kk BK370⟩, ⟨kk BK380⟩, ⟨kk BK398⟩, ⟨kk BK408⟩, ⟨bb HB⟩⟩
            · rw [if_neg c66] at H
              have c66b0 : (t397 == t407) = false := beq_eq_false_iff_ne.mpr c66
              have c66b1 : (t397 != t407) = true := bne_iff_ne.mpr c66
              have H' := Aside0.mk H
              clear H
              go_wp2
              go_meet
              case rel => exact ⟨_, (true), (by first | rfl | (simp; done) | (simp [*]; done)), H', ⟨by have := HJ4.out; first | omega | exact Nat.le_refl _⟩, ⟨vX HO363⟩, ⟨vX HO368⟩, ⟨vX HO373⟩, ⟨vX HO378⟩, ⟨vX HO391⟩, ⟨vX HO396⟩, ⟨vX HO401⟩, ⟨vX HO406⟩, ⟨kX BK350⟩, ⟨kX BK370⟩, ⟨kX BK380⟩, ⟨kX BK398⟩, ⟨by (with_reducible repeat (first | refine blk_drewN ?_ _ | refine blk_drew ?_ | refine blk_alloc ?_ _)); refine blk_put (cs := #[.slice Ao58 t399.length co58, .bool t402, .int .i64 t403, .slice none 0 0]) ?_ 3 _ rfl; (with_reducible repeat (first | refine blk_drewN ?_ _ | refine blk_drew ?_ | refine blk_alloc ?_ _)); refine blk_put (cs := #[.slice Ao58 t399.length co58, .bool t402, .int .i64 0, .slice none 0 0]) ?_ 2 _ rfl; (with_reducible repeat (first | refine blk_drewN ?_ _ | refine blk_drew ?_ | refine blk_alloc ?_ _)); refine blk_put (cs := #[.slice Ao58 t399.length co58, .bool false, .int .i64 0, .slice none 0 0]) ?_ 1 _ rfl; (with_reducible repeat (first | refine blk_drewN ?_ _ | refine blk_drew ?_ | refine blk_alloc ?_ _)); refine blk_put (cs := #[.slice none 0 0, .bool false, .int .i64 0, .slice none 0 0]) ?_ 0 _ rfl; (with_reducible repeat (first | refine blk_drewN ?_ _ | refine blk_drew ?_ | refine blk_alloc ?_ _)); exact BK408.out⟩, ⟨bb HB⟩⟩
          · rw [if_neg c65] at H
            have c65b0 : (t369 == t379) = false := beq_eq_false_iff_ne.mpr c65
            have c65b1 : (t369 != t379) = true := bne_iff_ne.mpr c65
            (first | rw [c65b0] | (simp only [i64_w, i32_w]; rw [c65b0]) | skip)
            have H' := Aside0.mk H
            clear H
            go_wp2
            go_meet
            case rel => exact ⟨_, (true), (by first | rfl | (simp; done) | (simp [*]; done)), H', ⟨by have := HJ4.out; first | omega | exact Nat.le_refl _⟩, ⟨vX HO363⟩, ⟨vX HO368⟩, ⟨vX HO373⟩, ⟨vX HO378⟩, ⟨vX HO391⟩, ⟨vX HO396⟩, ⟨vX HO401⟩, ⟨vX HO406⟩, ⟨kX BK350⟩, ⟨kX BK370⟩, ⟨kX BK380⟩, ⟨kX BK398⟩, ⟨by (with_reducible repeat (first | refine blk_drewN ?_ _ | refine blk_drew ?_ | refine blk_alloc ?_ _)); refine blk_put (cs := #[.slice Ao58 t399.length co58, .bool t402, .int .i64 t403, .slice none 0 0]) ?_ 3 _ rfl; (with_reducible repeat (first | refine blk_drewN ?_ _ | refine blk_drew ?_ | refine blk_alloc ?_ _)); refine blk_put (cs := #[.slice Ao58 t399.length co58, .bool t402, .int .i64 0, .slice none 0 0]) ?_ 2 _ rfl; (with_reducible repeat (first | refine blk_drewN ?_ _ | refine blk_drew ?_ | refine blk_alloc ?_ _)); refine blk_put (cs := #[.slice Ao58 t399.length co58, .bool false, .int .i64 0, .slice none 0 0]) ?_ 1 _ rfl; (with_reducible repeat (first | refine blk_drewN ?_ _ | refine blk_drew ?_ | refine blk_alloc ?_ _)); refine blk_put (cs := #[.slice none 0 0, .bool false, .int .i64 0, .slice none 0 0]) ?_ 0 _ rfl; (with_reducible repeat (first | refine blk_drewN ?_ _ | refine blk_drew ?_ | refine blk_alloc ?_ _)); exact BK408.out⟩, ⟨bb HB⟩⟩
        case rest =>
          clear HC21
          try clear c1
          try clear c2
          try clear p2
          try clear c3
          try clear c4
          try clear c5
          try clear c6
          try clear c7
          try clear c8
          try clear c9
          try clear c11
          try clear c13
          try clear c14
          try clear c16
          try clear c18
          try clear c19
          try clear c29
          try clear c37
          try clear c38
          try clear c49
          try clear c50
          try clear c51
          try clear c59
          try clear c60
          try clear c61
          try clear c62
          try clear c65
          try clear c65b0
          try clear c65b1
          try clear c66
          try clear c66b0
          try clear c66b1
          try clear c68
          try clear c70
          try clear c71
          try clear c72
          try clear c73
          try clear c75
          try clear c76
          try clear c77
          try clear c80
          try clear c81
          try clear c83
          try clear c86
          try clear c87
          try clear c88
          try clear c89
          try clear c91
          try clear c92
          try clear c93
          try clear hcz10_0
          try clear hcz10_1
          try clear hcz10_2
          try clear hcz10_3
          try clear hcz12_0
          try clear hcz12_1
          try clear hcz12_2
          try clear hcz12_3
          try clear hcz22_0
          try clear hcz22_1
          try clear hcz22_2
          try clear hcz22_3
          try clear hcz30_0
          try clear hcz30_1
          try clear hcz30_2
          try clear hcz30_3
          try clear hcz33_0
          try clear hcz33_1
          try clear hcz33_2
          try clear hcz33_3
          try clear hcz39_0
          try clear hcz39_1
          try clear hcz39_2
          try clear hcz39_3
          try clear hcz42_0
          try clear hcz42_1
          try clear hcz42_2
          try clear hcz42_3
          try clear hcz52_0
          try clear hcz52_1
          try clear hcz52_2
          try clear hcz52_3
          try clear hcz55_0
          try clear hcz55_1
          try clear hcz55_2
          try clear hcz55_3
          try clear hcz63_0
          try clear hcz63_1
          try clear hcz63_2
          try clear hcz63_3
          try clear hcz74_0
          try clear hcz74_1
          try clear hcz74_2
          try clear hcz74_3
          try clear hcz78_0
          try clear hcz78_1
          try clear hcz78_2
          try clear hcz78_3
          try clear hcz82_0
          try clear hcz82_1
          try clear hcz82_2
          try clear hcz82_3
          try clear hcz84_0
          try clear hcz84_1
          try clear hcz84_2
          try clear hcz84_3
          try clear hcz90_0
          try clear hcz90_1
          try clear hcz90_2
          try clear hcz90_3
          try clear hcz94_0
          try clear hcz94_1
          try clear hcz94_2
          try clear hcz94_3
          try clear hfz10_0
          try clear hfz10_1
          try clear hfz10_2
          try clear hfz10_3
          try clear hfz12_0
          try clear hfz12_1
          try clear hfz12_2
          try clear hfz12_3
          try clear hfz22_0
          try clear hfz22_1
          try clear hfz22_2
          try clear hfz22_3
          try clear hfz30_0
          try clear hfz30_1
          try clear hfz30_2
          try clear hfz30_3
          try clear hfz33_0
          try clear hfz33_1
          try clear hfz33_2
          try clear hfz33_3
          try clear hfz39_0
          try clear hfz39_1
          try clear hfz39_2
          try clear hfz39_3
          try clear hfz42_0
          try clear hfz42_1
          try clear hfz42_2
          try clear hfz42_3
          try clear hfz52_0
          try clear hfz52_1
          try clear hfz52_2
          try clear hfz52_3
          try clear hfz55_0
          try clear hfz55_1
          try clear hfz55_2
          try clear hfz55_3
          try clear hfz63_0
          try clear hfz63_1
          try clear hfz63_2
          try clear hfz63_3
          try clear hfz74_0
          try clear hfz74_1
          try clear hfz74_2
          try clear hfz74_3
          try clear hfz78_0
          try clear hfz78_1
          try clear hfz78_2
          try clear hfz78_3
          try clear hfz82_0
          try clear hfz82_1
          try clear hfz82_2
          try clear hfz82_3
          try clear hfz84_0
          try clear hfz84_1
          try clear hfz84_2
          try clear hfz84_3
          try clear hfz90_0
          try clear hfz90_1
          try clear hfz90_2
          try clear hfz90_3
          try clear hfz94_0
          try clear hfz94_1
          try clear hfz94_2
          try clear hfz94_3
          try clear p2
          obtain ⟨kq, x79_20, rfl, HA, HJ20, HO_371000, HO_371003, HO_381000, HO_381003, HO_399000, HO_399003, HO_409000, HO_409003, BK350, BK370, BK380, BK398, BK408, HB⟩ := hcut
          cases kq with
          | zero => exact absurd HA.out (by simp [pentroughlaw19_WireIs.j1])
          | succ kj20 =>
            have H := HA.out
            clear HA
            simp only [pentroughlaw19_WireIs.j1] at H
            by_cases c96 : x79_20 = true
            · subst c96
              rw [if_pos rfl] at H
              cases H; exact absurd HRT.out (by decide)
            · replace c96 := Bool.eq_false_iff.mpr c96
              subst c96
              rw [if_neg nf] at H
              obtain ⟨⟨t411, t414, t415, t416⟩, A97, H⟩ := ob H
              (try dsimp only at H)
              obtain ⟨⟨t419, t422, t423, t424, t427⟩, A98, H⟩ := ob H
              (try dsimp only at H)
              obtain ⟨⟨t431, t434, t435, t436, t439⟩, A99, H⟩ := ob H
              (try dsimp only at H)
              obtain ⟨⟨t443, t446, t447, t448⟩, A100, H⟩ := ob H
              (try dsimp only at H)
              obtain ⟨⟨t451, t454, t455, t456, t459⟩, A101, H⟩ := ob H
              (try dsimp only at H)
              obtain ⟨⟨t461, t464, t465, t466, t469⟩, A102, H⟩ := ob H
              (try dsimp only at H)
              by_cases c103 : t351 = true
              · subst c103
                rw [if_pos rfl] at H
                by_cases c104 : (strOfNums t427).toList = (strOfNums t439).toList
                · rw [if_pos c104] at H
                  have c104b0 : ((strOfNums t427).toList == (strOfNums t439).toList) = true := beq_iff_eq.mpr c104
                  have c104b1 : ((strOfNums t427).toList != (strOfNums t439).toList) = false := bne_eq_false_iff_eq.mpr c104
                  clear c104
                  by_cases c105 : t459 = t469
                  · rw [if_pos c105] at H
                    have c105b0 : (t459 == t469) = true := beq_iff_eq.mpr c105
                    have c105b1 : (t459 != t469) = false := bne_eq_false_iff_eq.mpr c105
                    clear c105
                    obtain ⟨t471, A106, H⟩ := ob H
                    by_cases c107 : t471 = true
                    · subst c107
                      rw [if_pos rfl] at H
                      obtain ⟨t472, A108, H⟩ := ob H
                      by_cases c109 : t472 = true
                      · subst c109
                        rw [if_pos rfl] at H
                        obtain ⟨⟨t473, t476, t477, t478⟩, A110, H⟩ := ob H
                        (try dsimp only at H)
                        obtain ⟨t481, A111, H⟩ := ob H
                        obtain ⟨t482, A112, H⟩ := ob H
                        by_cases c113 : (t481 == t482) = true
                        · rw [if_pos c113] at H
                          have c113b0 : (t481 == t482) = true := c113
                          (try (have c113b1 : decide (t481 = t482) = true := by simpa using c113))
                          (try (have c113b2 : (t481 == t482) = true := by simpa using c113))
                          clear c113
                          obtain ⟨⟨t483, t486, t487, t488⟩, A114, H⟩ := ob H
                          (try dsimp only at H)
                          obtain ⟨t491, A115, H⟩ := ob H
                          obtain ⟨t492, A116, H⟩ := ob H
                          by_cases c117 : (t491 == t492) = true
                          · rw [if_pos c117] at H
                            have c117b0 : (t491 == t492) = true := c117
                            (try (have c117b1 : decide (t491 = t492) = true := by simpa using c117))
                            (try (have c117b2 : (t491 == t492) = true := by simpa using c117))
                            clear c117
                            obtain ⟨⟨t493, t496, t497, t498⟩, A118, H⟩ := ob H
                            (try dsimp only at H)
                            obtain ⟨⟨t501, t504, t505, t506⟩, A119, H⟩ := ob H
                            (try dsimp only at H)
                            obtain ⟨⟨t509, t512, t513, t514⟩, A120, H⟩ := ob H
                            (try dsimp only at H)
                            obtain ⟨t517, A121, H⟩ := ob H
                            obtain rfl := Option.some.inj H
                            have hnb122 := NB350_370.out
                            have hnc122 := NB370_350.out
                            have hnb123 := NB350_380.out
                            have hnc123 := NB380_350.out
                            have hnb124 := NB350_398.out
                            have hnc124 := NB398_350.out
                            have hnb125 := NB350_408.out
                            have hnc125 := NB408_350.out
                            obtain ⟨hcz126_0, hcz126_1, hcz126_2, hcz126_3, hfz126_0, hfz126_1, hfz126_2, hfz126_3⟩ := bc4 BK350
                            try go_wp2_with (first | ((with_reducible refine gate_callee (f := 16) rfl ?_); refine gL (some 82) rfl rfl Try.func16 (by kernel_rfl) rfl #[.agg #[.slice A0_0 l0_0.length c0_0, .bool a0_1, .int .i64 a0_2, .slice A0_3 l0_3.length c0_3]] rfl ?_; (with_reducible refine (pentroughlaw19_ours.calls (fun k_ => k_ < w.heap.size) _ _ l0_0 a0_1 a0_2 (fun k_ => k_ < w.heap.size) _ _ l0_3 t411 t414 t415 t416 _ ?side1 ?side2 A97.out).mono ?_); (case side1 => exact Kd.V_mk HC0_0.out (Kd.F_below (Kd.C_F (Kd.heap_int .u8) HR0_0.out) (bb HB))); (case side2 => exact Kd.V_mk HC0_3.out (Kd.F_below (Kd.C_F (Kd.heap_int .u8) HR0_3.out) (bb HB))); rintro e w127 ⟨v412, v417, rfl, ho0, ho1, hb⟩; refine ⟨_, rfl, ?_⟩; replace HO_371000 := vB HO_371000 hb; replace HO_371003 := vB HO_371003 hb; replace HO_381000 := vB HO_381000 hb; replace HO_381003 := vB HO_381003 hb; replace HO_399000 := vB HO_399000 hb; replace HO_399003 := vB HO_399003 hb; replace HO_409000 := vB HO_409000 hb; replace HO_409003 := vB HO_409003 hb; have HO413 := Aside0.mk (Kd.V_lower (Kd.V_mono (ok' := fun k_ => k_ ≠ gb350 ∧ k_ ≠ gb370 ∧ k_ ≠ gb380 ∧ k_ ≠ gb398 ∧ k_ ≠ gb408) ho0 (fun k_ hk_ => ⟨oe hk_ (gw GW350) (gw GW350) (Kd.freshB (kk BK350) k_), oe hk_ (gw GW370) (gw GW370) (Kd.freshB (kk BK370) k_), oe hk_ (gw GW380) (gw GW380) (Kd.freshB (kk BK380) k_), oe hk_ (gw GW398) (gw GW398) (Kd.freshB (kk BK398) k_), oe hk_ (gw GW408) (gw GW408) (Kd.freshB (kk BK408) k_)⟩)) (below_size (bb HB))); have HO418 := Aside0.mk (Kd.V_lower (Kd.V_mono (ok' := fun k_ => k_ ≠ gb350 ∧ k_ ≠ gb370 ∧ k_ ≠ gb380 ∧ k_ ≠ gb398 ∧ k_ ≠ gb408) ho1 (fun k_ hk_ => ⟨oe hk_ (gw GW350) (gw GW350) (Kd.freshB (kk BK350) k_), oe hk_ (gw GW370) (gw GW370) (Kd.freshB (kk BK370) k_), oe hk_ (gw GW380) (gw GW380) (Kd.freshB (kk BK380) k_), oe hk_ (gw GW398) (gw GW398) (Kd.freshB (kk BK398) k_), oe hk_ (gw GW408) (gw GW408) (Kd.freshB (kk BK408) k_)⟩)) (below_size (bb HB))); replace BK350 := kB BK350 hb; replace BK370 := kB BK370 hb; replace BK380 := kB BK380 hb; replace BK398 := kB BK398 hb; replace BK408 := kB BK408 hb; replace HB := hB HB hb; (try clear hb); (try clear hb2); (try clear hk); (try clear hi); (try clear ho0); (try clear ho1); obtain ⟨Ao128, co128, eo128⟩ := Kd.V_slice HO413.out; subst eo128; obtain ⟨Ao129, co129, eo129⟩ := Kd.V_slice HO418.out; subst eo129) | ((with_reducible refine gate_callee (f := 17) rfl ?_); refine gL (some 84) rfl rfl Try.func17 (by kernel_rfl) rfl #[.agg #[.slice Ao128 t411.length co128, .bool t414, .int .i64 t415, .slice Ao129 t416.length co129], .int .i64 a2] rfl ?_; (with_reducible refine (wire_Read.calls (fun k_ => (k_ ≠ gb350 ∧ (k_ ≠ gb370 ∧ (k_ ≠ gb380 ∧ (k_ ≠ gb398 ∧ k_ ≠ gb408))))) _ _ t411 t414 t415 (fun k_ => (k_ ≠ gb350 ∧ (k_ ≠ gb370 ∧ (k_ ≠ gb380 ∧ (k_ ≠ gb398 ∧ k_ ≠ gb408))))) _ _ t416 a2 t419 t422 t423 t424 t427 _ ?side1 ?side2 A98.out).mono ?_); (case side1 => exact HO413.out); (case side2 => exact HO418.out); rintro e w130 ⟨v420, v425, v428, rfl, ho0, ho1, ho2, hb⟩; refine ⟨_, rfl, ?_⟩; replace HO_371000 := vB HO_371000 hb; replace HO_371003 := vB HO_371003 hb; replace HO_381000 := vB HO_381000 hb; replace HO_381003 := vB HO_381003 hb; replace HO_399000 := vB HO_399000 hb; replace HO_399003 := vB HO_399003 hb; replace HO_409000 := vB HO_409000 hb; replace HO_409003 := vB HO_409003 hb; replace HO413 := vB HO413 hb; replace HO418 := vB HO418 hb; have HO421 := Aside0.mk (Kd.V_lower (Kd.V_mono (ok' := fun k_ => k_ ≠ gb350 ∧ k_ ≠ gb370 ∧ k_ ≠ gb380 ∧ k_ ≠ gb398 ∧ k_ ≠ gb408) ho0 (fun k_ hk_ => ⟨oe hk_ (fun h => h.1) (fun h => h.1) (Kd.freshB (kk BK350) k_), oe hk_ (fun h => h.2.1) (fun h => h.2.1) (Kd.freshB (kk BK370) k_), oe hk_ (fun h => h.2.2.1) (fun h => h.2.2.1) (Kd.freshB (kk BK380) k_), oe hk_ (fun h => h.2.2.2.1) (fun h => h.2.2.2.1) (Kd.freshB (kk BK398) k_), oe hk_ (fun h => h.2.2.2.2) (fun h => h.2.2.2.2) (Kd.freshB (kk BK408) k_)⟩)) (below_size (bb HB))); have HO426 := Aside0.mk (Kd.V_lower (Kd.V_mono (ok' := fun k_ => k_ ≠ gb350 ∧ k_ ≠ gb370 ∧ k_ ≠ gb380 ∧ k_ ≠ gb398 ∧ k_ ≠ gb408) ho1 (fun k_ hk_ => ⟨oe hk_ (fun h => h.1) (fun h => h.1) (Kd.freshB (kk BK350) k_), oe hk_ (fun h => h.2.1) (fun h => h.2.1) (Kd.freshB (kk BK370) k_), oe hk_ (fun h => h.2.2.1) (fun h => h.2.2.1) (Kd.freshB (kk BK380) k_), oe hk_ (fun h => h.2.2.2.1) (fun h => h.2.2.2.1) (Kd.freshB (kk BK398) k_), oe hk_ (fun h => h.2.2.2.2) (fun h => h.2.2.2.2) (Kd.freshB (kk BK408) k_)⟩)) (below_size (bb HB))); have HO429 := Aside0.mk (Kd.V_lower (Kd.V_mono (ok' := fun k_ => k_ ≠ gb350 ∧ k_ ≠ gb370 ∧ k_ ≠ gb380 ∧ k_ ≠ gb398 ∧ k_ ≠ gb408) ho2 (fun k_ hk_ => ⟨oe hk_ (fun h => h.1) (fun h => h.1) (Kd.freshB (kk BK350) k_), oe hk_ (fun h => h.2.1) (fun h => h.2.1) (Kd.freshB (kk BK370) k_), oe hk_ (fun h => h.2.2.1) (fun h => h.2.2.1) (Kd.freshB (kk BK380) k_), oe hk_ (fun h => h.2.2.2.1) (fun h => h.2.2.2.1) (Kd.freshB (kk BK398) k_), oe hk_ (fun h => h.2.2.2.2) (fun h => h.2.2.2.2) (Kd.freshB (kk BK408) k_)⟩)) (below_size (bb HB))); replace BK350 := kB BK350 hb; replace BK370 := kB BK370 hb; replace BK380 := kB BK380 hb; replace BK398 := kB BK398 hb; replace BK408 := kB BK408 hb; replace HB := hB HB hb; (try clear hb); (try clear hb2); (try clear hk); (try clear hi); (try clear ho0); (try clear ho1); (try clear ho2)) | ((with_reducible refine gate_dst (N := 16) rfl ?_); (try (refine gate_guard (by rfl) ?_; dsimp only)); refine box_event ?hg (N := 16) ?hd (cs := #[.slice none 0 0, .bool false, .int .i64 0, .slice none 0 0]) (t := 27) ?hr ?_; (case hd => rfl); (case hg => rfl); (case hr => first | (go_simp; done) | (go_simp; rfl)); intro gb430 hg w131 hbox hb; replace HO_371000 := vE HO_371000 hg hb; replace HO_371003 := vE HO_371003 hg hb; replace HO_381000 := vE HO_381000 hg hb; replace HO_381003 := vE HO_381003 hg hb; replace HO_399000 := vE HO_399000 hg hb; replace HO_399003 := vE HO_399003 hg hb; replace HO_409000 := vE HO_409000 hg hb; replace HO_409003 := vE HO_409003 hg hb; replace HO413 := vE HO413 hg hb; replace HO418 := vE HO418 hg hb; replace HO421 := vE HO421 hg hb; replace HO426 := vE HO426 hg hb; replace HO429 := vE HO429 hg hb; have BK430 := Aside0.mk hbox; have GW430 := gE HB hg; have GE430 := gE HB hg; replace HB := hB HB hb; have NB350_430 := nL BK350 hg; have NB430_350 := nG BK350 hg; replace BK350 := kB BK350 hb; have NB370_430 := nL BK370 hg; have NB430_370 := nG BK370 hg; replace BK370 := kB BK370 hb; have NB380_430 := nL BK380 hg; have NB430_380 := nG BK380 hg; replace BK380 := kB BK380 hb; have NB398_430 := nL BK398 hg; have NB430_398 := nG BK398 hg; replace BK398 := kB BK398 hb; have NB408_430 := nL BK408 hg; have NB430_408 := nG BK408 hg; replace BK408 := kB BK408 hb; clear hb hbox hg; obtain ⟨Ao132, co132, eo132⟩ := Kd.V_slice HO421.out; subst eo132; have hnb133 := NB430_350.out; have hnc133 := NB350_430.out; have hnb134 := NB430_370.out; have hnc134 := NB370_430.out; have hnb135 := NB430_380.out; have hnc135 := NB380_430.out; have hnb136 := NB430_398.out; have hnc136 := NB398_430.out; have hnb137 := NB430_408.out; have hnc137 := NB408_430.out; obtain ⟨hcz138_0, hcz138_1, hcz138_2, hcz138_3, hfz138_0, hfz138_1, hfz138_2, hfz138_3⟩ := bc4 BK430; obtain ⟨Ao139, co139, eo139⟩ := Kd.V_slice HO426.out; subst eo139) | ((with_reducible refine gate_store (t := 27) (p := 16) rfl ?_); refine store_event (t := 27) (p := 16) (v := ?vo_w140) (w1 := ((((w131.setCell ⟨gb430, 0, none⟩ (.slice Ao132 t419.length co132)).setCell ⟨gb430, 1, none⟩ (.bool t422)).setCell ⟨gb430, 2, none⟩ (.int .i64 t423)).setCell ⟨gb430, 3, none⟩ (.slice Ao139 t424.length co139))) ?hg ?ho ?hn ?hr ?_; (case ho => rfl); (case hg => rfl); (case hn => rfl); (case hr => first | (go_simp; done) | (go_simp; rfl)); intro w140 hw; replace HO_371000 := vS (fun k_ => k_ ≠ gb350 ∧ k_ ≠ gb370 ∧ k_ ≠ gb380 ∧ k_ ≠ gb398 ∧ k_ ≠ gb408 ∧ k_ ≠ gb430) HO_371000 hw; replace HO_371003 := vS (fun k_ => k_ ≠ gb350 ∧ k_ ≠ gb370 ∧ k_ ≠ gb380 ∧ k_ ≠ gb398 ∧ k_ ≠ gb408 ∧ k_ ≠ gb430) HO_371003 hw; replace HO_381000 := vS (fun k_ => k_ ≠ gb350 ∧ k_ ≠ gb370 ∧ k_ ≠ gb380 ∧ k_ ≠ gb398 ∧ k_ ≠ gb408 ∧ k_ ≠ gb430) HO_381000 hw; replace HO_381003 := vS (fun k_ => k_ ≠ gb350 ∧ k_ ≠ gb370 ∧ k_ ≠ gb380 ∧ k_ ≠ gb398 ∧ k_ ≠ gb408 ∧ k_ ≠ gb430) HO_381003 hw; replace HO_399000 := vS (fun k_ => k_ ≠ gb350 ∧ k_ ≠ gb370 ∧ k_ ≠ gb380 ∧ k_ ≠ gb398 ∧ k_ ≠ gb408 ∧ k_ ≠ gb430) HO_399000 hw; replace HO_399003 := vS (fun k_ => k_ ≠ gb350 ∧ k_ ≠ gb370 ∧ k_ ≠ gb380 ∧ k_ ≠ gb398 ∧ k_ ≠ gb408 ∧ k_ ≠ gb430) HO_399003 hw; replace HO_409000 := vS (fun k_ => k_ ≠ gb350 ∧ k_ ≠ gb370 ∧ k_ ≠ gb380 ∧ k_ ≠ gb398 ∧ k_ ≠ gb408 ∧ k_ ≠ gb430) HO_409000 hw; replace HO_409003 := vS (fun k_ => k_ ≠ gb350 ∧ k_ ≠ gb370 ∧ k_ ≠ gb380 ∧ k_ ≠ gb398 ∧ k_ ≠ gb408 ∧ k_ ≠ gb430) HO_409003 hw; replace HO413 := vS (fun k_ => k_ ≠ gb350 ∧ k_ ≠ gb370 ∧ k_ ≠ gb380 ∧ k_ ≠ gb398 ∧ k_ ≠ gb408 ∧ k_ ≠ gb430) HO413 hw; replace HO418 := vS (fun k_ => k_ ≠ gb350 ∧ k_ ≠ gb370 ∧ k_ ≠ gb380 ∧ k_ ≠ gb398 ∧ k_ ≠ gb408 ∧ k_ ≠ gb430) HO418 hw; replace HO421 := vS (fun k_ => k_ ≠ gb350 ∧ k_ ≠ gb370 ∧ k_ ≠ gb380 ∧ k_ ≠ gb398 ∧ k_ ≠ gb408 ∧ k_ ≠ gb430) HO421 hw; replace HO426 := vS (fun k_ => k_ ≠ gb350 ∧ k_ ≠ gb370 ∧ k_ ≠ gb380 ∧ k_ ≠ gb398 ∧ k_ ≠ gb408 ∧ k_ ≠ gb430) HO426 hw; replace HO429 := vS (fun k_ => k_ ≠ gb350 ∧ k_ ≠ gb370 ∧ k_ ≠ gb380 ∧ k_ ≠ gb398 ∧ k_ ≠ gb408 ∧ k_ ≠ gb430) HO429 hw; replace BK350 := kS BK350 hw; replace BK370 := kS BK370 hw; replace BK380 := kS BK380 hw; replace BK398 := kS BK398 hw; replace BK408 := kS BK408 hw; replace BK430 := kP4 BK430 hw; replace HB : Aside0 (Below w.heap.size w w140) := ⟨(by rw [hw]; exact (bb HB))⟩; clear hw; obtain ⟨hcz141_0, hcz141_1, hcz141_2, hcz141_3, hfz141_0, hfz141_1, hfz141_2, hfz141_3⟩ := bc4 BK350) | ((with_reducible refine gate_callee (f := 21) rfl ?_); refine gL (some 90) rfl rfl Try.func21 (by kernel_rfl) rfl #[.agg #[.slice A0_0 l0_0.length c0_0, .bool a0_1, .int .i64 a0_2, .slice A0_3 l0_3.length c0_3], .int .i64 a2] rfl ?_; (with_reducible refine (pentroughref19_Read.calls (fun k_ => k_ < w.heap.size) _ _ l0_0 a0_1 a0_2 (fun k_ => k_ < w.heap.size) _ _ l0_3 a2 t431 t434 t435 t436 t439 _ ?side1 ?side2 A99.out).mono ?_); (case side1 => exact Kd.V_mk HC0_0.out (Kd.F_below (Kd.C_F (Kd.heap_int .u8) HR0_0.out) (bb HB))); (case side2 => exact Kd.V_mk HC0_3.out (Kd.F_below (Kd.C_F (Kd.heap_int .u8) HR0_3.out) (bb HB))); rintro e w142 ⟨v432, v437, v440, rfl, ho0, ho1, ho2, hb⟩; refine ⟨_, rfl, ?_⟩; replace HO_371000 := vB HO_371000 hb; replace HO_371003 := vB HO_371003 hb; replace HO_381000 := vB HO_381000 hb; replace HO_381003 := vB HO_381003 hb; replace HO_399000 := vB HO_399000 hb; replace HO_399003 := vB HO_399003 hb; replace HO_409000 := vB HO_409000 hb; replace HO_409003 := vB HO_409003 hb; replace HO413 := vB HO413 hb; replace HO418 := vB HO418 hb; replace HO421 := vB HO421 hb; replace HO426 := vB HO426 hb; replace HO429 := vB HO429 hb; have HO433 := Aside0.mk (Kd.V_lower (Kd.V_mono (ok' := fun k_ => k_ ≠ gb350 ∧ k_ ≠ gb370 ∧ k_ ≠ gb380 ∧ k_ ≠ gb398 ∧ k_ ≠ gb408 ∧ k_ ≠ gb430) ho0 (fun k_ hk_ => ⟨oe hk_ (gw GW350) (gw GW350) (Kd.freshB (kk BK350) k_), oe hk_ (gw GW370) (gw GW370) (Kd.freshB (kk BK370) k_), oe hk_ (gw GW380) (gw GW380) (Kd.freshB (kk BK380) k_), oe hk_ (gw GW398) (gw GW398) (Kd.freshB (kk BK398) k_), oe hk_ (gw GW408) (gw GW408) (Kd.freshB (kk BK408) k_), oe hk_ (gw GW430) (gw GW430) (Kd.freshB (kk BK430) k_)⟩)) (below_size (bb HB))); have HO438 := Aside0.mk (Kd.V_lower (Kd.V_mono (ok' := fun k_ => k_ ≠ gb350 ∧ k_ ≠ gb370 ∧ k_ ≠ gb380 ∧ k_ ≠ gb398 ∧ k_ ≠ gb408 ∧ k_ ≠ gb430) ho1 (fun k_ hk_ => ⟨oe hk_ (gw GW350) (gw GW350) (Kd.freshB (kk BK350) k_), oe hk_ (gw GW370) (gw GW370) (Kd.freshB (kk BK370) k_), oe hk_ (gw GW380) (gw GW380) (Kd.freshB (kk BK380) k_), oe hk_ (gw GW398) (gw GW398) (Kd.freshB (kk BK398) k_), oe hk_ (gw GW408) (gw GW408) (Kd.freshB (kk BK408) k_), oe hk_ (gw GW430) (gw GW430) (Kd.freshB (kk BK430) k_)⟩)) (below_size (bb HB))); have HO441 := Aside0.mk (Kd.V_lower (Kd.V_mono (ok' := fun k_ => k_ ≠ gb350 ∧ k_ ≠ gb370 ∧ k_ ≠ gb380 ∧ k_ ≠ gb398 ∧ k_ ≠ gb408 ∧ k_ ≠ gb430) ho2 (fun k_ hk_ => ⟨oe hk_ (gw GW350) (gw GW350) (Kd.freshB (kk BK350) k_), oe hk_ (gw GW370) (gw GW370) (Kd.freshB (kk BK370) k_), oe hk_ (gw GW380) (gw GW380) (Kd.freshB (kk BK380) k_), oe hk_ (gw GW398) (gw GW398) (Kd.freshB (kk BK398) k_), oe hk_ (gw GW408) (gw GW408) (Kd.freshB (kk BK408) k_), oe hk_ (gw GW430) (gw GW430) (Kd.freshB (kk BK430) k_)⟩)) (below_size (bb HB))); replace BK350 := kB BK350 hb; replace BK370 := kB BK370 hb; replace BK380 := kB BK380 hb; replace BK398 := kB BK398 hb; replace BK408 := kB BK408 hb; replace BK430 := kB BK430 hb; replace HB := hB HB hb; (try clear hb); (try clear hb2); (try clear hk); (try clear hi); (try clear ho0); (try clear ho1); (try clear ho2)) | ((with_reducible refine gate_dst (N := 18) rfl ?_); (try (refine gate_guard (by rfl) ?_; dsimp only)); refine box_event ?hg (N := 18) ?hd (cs := #[.slice none 0 0, .bool false, .int .i64 0, .slice none 0 0]) (t := 36) ?hr ?_; (case hd => rfl); (case hg => rfl); (case hr => first | (go_simp; done) | (go_simp; rfl)); intro gb442 hg w143 hbox hb; replace HO_371000 := vE HO_371000 hg hb; replace HO_371003 := vE HO_371003 hg hb; replace HO_381000 := vE HO_381000 hg hb; replace HO_381003 := vE HO_381003 hg hb; replace HO_399000 := vE HO_399000 hg hb; replace HO_399003 := vE HO_399003 hg hb; replace HO_409000 := vE HO_409000 hg hb; replace HO_409003 := vE HO_409003 hg hb; replace HO413 := vE HO413 hg hb; replace HO418 := vE HO418 hg hb; replace HO421 := vE HO421 hg hb; replace HO426 := vE HO426 hg hb; replace HO429 := vE HO429 hg hb; replace HO433 := vE HO433 hg hb; replace HO438 := vE HO438 hg hb; replace HO441 := vE HO441 hg hb; have BK442 := Aside0.mk hbox; have GW442 := gE HB hg; have GE442 := gE HB hg; replace HB := hB HB hb; have NB350_442 := nL BK350 hg; have NB442_350 := nG BK350 hg; replace BK350 := kB BK350 hb; have NB370_442 := nL BK370 hg; have NB442_370 := nG BK370 hg; replace BK370 := kB BK370 hb; have NB380_442 := nL BK380 hg; have NB442_380 := nG BK380 hg; replace BK380 := kB BK380 hb; have NB398_442 := nL BK398 hg; have NB442_398 := nG BK398 hg; replace BK398 := kB BK398 hb; have NB408_442 := nL BK408 hg; have NB442_408 := nG BK408 hg; replace BK408 := kB BK408 hb; have NB430_442 := nL BK430 hg; have NB442_430 := nG BK430 hg; replace BK430 := kB BK430 hb; clear hb hbox hg; obtain ⟨Ao144, co144, eo144⟩ := Kd.V_slice HO433.out; subst eo144; have hnb145 := NB442_350.out; have hnc145 := NB350_442.out; have hnb146 := NB442_370.out; have hnc146 := NB370_442.out; have hnb147 := NB442_380.out; have hnc147 := NB380_442.out; have hnb148 := NB442_398.out; have hnc148 := NB398_442.out; have hnb149 := NB442_408.out; have hnc149 := NB408_442.out; have hnb150 := NB442_430.out; have hnc150 := NB430_442.out; obtain ⟨hcz151_0, hcz151_1, hcz151_2, hcz151_3, hfz151_0, hfz151_1, hfz151_2, hfz151_3⟩ := bc4 BK442; obtain ⟨Ao152, co152, eo152⟩ := Kd.V_slice HO438.out; subst eo152) | ((with_reducible refine gate_store (t := 36) (p := 18) rfl ?_); refine store_event (t := 36) (p := 18) (v := ?vo_w153) (w1 := ((((w143.setCell ⟨gb442, 0, none⟩ (.slice Ao144 t431.length co144)).setCell ⟨gb442, 1, none⟩ (.bool t434)).setCell ⟨gb442, 2, none⟩ (.int .i64 t435)).setCell ⟨gb442, 3, none⟩ (.slice Ao152 t436.length co152))) ?hg ?ho ?hn ?hr ?_; (case ho => rfl); (case hg => rfl); (case hn => rfl); (case hr => first | (go_simp; done) | (go_simp; rfl)); intro w153 hw; replace HO_371000 := vS (fun k_ => k_ ≠ gb350 ∧ k_ ≠ gb370 ∧ k_ ≠ gb380 ∧ k_ ≠ gb398 ∧ k_ ≠ gb408 ∧ k_ ≠ gb430 ∧ k_ ≠ gb442) HO_371000 hw; replace HO_371003 := vS (fun k_ => k_ ≠ gb350 ∧ k_ ≠ gb370 ∧ k_ ≠ gb380 ∧ k_ ≠ gb398 ∧ k_ ≠ gb408 ∧ k_ ≠ gb430 ∧ k_ ≠ gb442) HO_371003 hw; replace HO_381000 := vS (fun k_ => k_ ≠ gb350 ∧ k_ ≠ gb370 ∧ k_ ≠ gb380 ∧ k_ ≠ gb398 ∧ k_ ≠ gb408 ∧ k_ ≠ gb430 ∧ k_ ≠ gb442) HO_381000 hw; replace HO_381003 := vS (fun k_ => k_ ≠ gb350 ∧ k_ ≠ gb370 ∧ k_ ≠ gb380 ∧ k_ ≠ gb398 ∧ k_ ≠ gb408 ∧ k_ ≠ gb430 ∧ k_ ≠ gb442) HO_381003 hw; replace HO_399000 := vS (fun k_ => k_ ≠ gb350 ∧ k_ ≠ gb370 ∧ k_ ≠ gb380 ∧ k_ ≠ gb398 ∧ k_ ≠ gb408 ∧ k_ ≠ gb430 ∧ k_ ≠ gb442) HO_399000 hw; replace HO_399003 := vS (fun k_ => k_ ≠ gb350 ∧ k_ ≠ gb370 ∧ k_ ≠ gb380 ∧ k_ ≠ gb398 ∧ k_ ≠ gb408 ∧ k_ ≠ gb430 ∧ k_ ≠ gb442) HO_399003 hw; replace HO_409000 := vS (fun k_ => k_ ≠ gb350 ∧ k_ ≠ gb370 ∧ k_ ≠ gb380 ∧ k_ ≠ gb398 ∧ k_ ≠ gb408 ∧ k_ ≠ gb430 ∧ k_ ≠ gb442) HO_409000 hw; replace HO_409003 := vS (fun k_ => k_ ≠ gb350 ∧ k_ ≠ gb370 ∧ k_ ≠ gb380 ∧ k_ ≠ gb398 ∧ k_ ≠ gb408 ∧ k_ ≠ gb430 ∧ k_ ≠ gb442) HO_409003 hw; replace HO413 := vS (fun k_ => k_ ≠ gb350 ∧ k_ ≠ gb370 ∧ k_ ≠ gb380 ∧ k_ ≠ gb398 ∧ k_ ≠ gb408 ∧ k_ ≠ gb430 ∧ k_ ≠ gb442) HO413 hw; replace HO418 := vS (fun k_ => k_ ≠ gb350 ∧ k_ ≠ gb370 ∧ k_ ≠ gb380 ∧ k_ ≠ gb398 ∧ k_ ≠ gb408 ∧ k_ ≠ gb430 ∧ k_ ≠ gb442) HO418 hw; replace HO421 := vS (fun k_ => k_ ≠ gb350 ∧ k_ ≠ gb370 ∧ k_ ≠ gb380 ∧ k_ ≠ gb398 ∧ k_ ≠ gb408 ∧ k_ ≠ gb430 ∧ k_ ≠ gb442) HO421 hw; replace HO426 := vS (fun k_ => k_ ≠ gb350 ∧ k_ ≠ gb370 ∧ k_ ≠ gb380 ∧ k_ ≠ gb398 ∧ k_ ≠ gb408 ∧ k_ ≠ gb430 ∧ k_ ≠ gb442) HO426 hw; replace HO429 := vS (fun k_ => k_ ≠ gb350 ∧ k_ ≠ gb370 ∧ k_ ≠ gb380 ∧ k_ ≠ gb398 ∧ k_ ≠ gb408 ∧ k_ ≠ gb430 ∧ k_ ≠ gb442) HO429 hw; replace HO433 := vS (fun k_ => k_ ≠ gb350 ∧ k_ ≠ gb370 ∧ k_ ≠ gb380 ∧ k_ ≠ gb398 ∧ k_ ≠ gb408 ∧ k_ ≠ gb430 ∧ k_ ≠ gb442) HO433 hw; replace HO438 := vS (fun k_ => k_ ≠ gb350 ∧ k_ ≠ gb370 ∧ k_ ≠ gb380 ∧ k_ ≠ gb398 ∧ k_ ≠ gb408 ∧ k_ ≠ gb430 ∧ k_ ≠ gb442) HO438 hw; replace HO441 := vS (fun k_ => k_ ≠ gb350 ∧ k_ ≠ gb370 ∧ k_ ≠ gb380 ∧ k_ ≠ gb398 ∧ k_ ≠ gb408 ∧ k_ ≠ gb430 ∧ k_ ≠ gb442) HO441 hw; replace BK350 := kS BK350 hw; replace BK370 := kS BK370 hw; replace BK380 := kS BK380 hw; replace BK398 := kS BK398 hw; replace BK408 := kS BK408 hw; replace BK430 := kS BK430 hw; replace BK442 := kP4 BK442 hw; replace HB : Aside0 (Below w.heap.size w w153) := ⟨(by rw [hw]; exact (bb HB))⟩; clear hw; obtain ⟨hcz154_0, hcz154_1, hcz154_2, hcz154_3, hfz154_0, hfz154_1, hfz154_2, hfz154_3⟩ := bc4 BK350) | ((with_reducible refine gate_callee (f := 16) rfl ?_); refine gL (some 95) rfl rfl Try.func16 (by kernel_rfl) rfl #[.agg #[.slice A0_0 l0_0.length c0_0, .bool a0_1, .int .i64 a0_2, .slice A0_3 l0_3.length c0_3]] rfl ?_; (with_reducible refine (pentroughlaw19_ours.calls (fun k_ => k_ < w.heap.size) _ _ l0_0 a0_1 a0_2 (fun k_ => k_ < w.heap.size) _ _ l0_3 t443 t446 t447 t448 _ ?side1 ?side2 A100.out).mono ?_); (case side1 => exact Kd.V_mk HC0_0.out (Kd.F_below (Kd.C_F (Kd.heap_int .u8) HR0_0.out) (bb HB))); (case side2 => exact Kd.V_mk HC0_3.out (Kd.F_below (Kd.C_F (Kd.heap_int .u8) HR0_3.out) (bb HB))); rintro e w155 ⟨v444, v449, rfl, ho0, ho1, hb⟩; refine ⟨_, rfl, ?_⟩; replace HO_371000 := vB HO_371000 hb; replace HO_371003 := vB HO_371003 hb; replace HO_381000 := vB HO_381000 hb; replace HO_381003 := vB HO_381003 hb; replace HO_399000 := vB HO_399000 hb; replace HO_399003 := vB HO_399003 hb; replace HO_409000 := vB HO_409000 hb; replace HO_409003 := vB HO_409003 hb; replace HO413 := vB HO413 hb; replace HO418 := vB HO418 hb; replace HO421 := vB HO421 hb; replace HO426 := vB HO426 hb; replace HO429 := vB HO429 hb; replace HO433 := vB HO433 hb; replace HO438 := vB HO438 hb; replace HO441 := vB HO441 hb; have HO445 := Aside0.mk (Kd.V_lower (Kd.V_mono (ok' := fun k_ => k_ ≠ gb350 ∧ k_ ≠ gb370 ∧ k_ ≠ gb380 ∧ k_ ≠ gb398 ∧ k_ ≠ gb408 ∧ k_ ≠ gb430 ∧ k_ ≠ gb442) ho0 (fun k_ hk_ => ⟨oe hk_ (gw GW350) (gw GW350) (Kd.freshB (kk BK350) k_), oe hk_ (gw GW370) (gw GW370) (Kd.freshB (kk BK370) k_), oe hk_ (gw GW380) (gw GW380) (Kd.freshB (kk BK380) k_), oe hk_ (gw GW398) (gw GW398) (Kd.freshB (kk BK398) k_), oe hk_ (gw GW408) (gw GW408) (Kd.freshB (kk BK408) k_), oe hk_ (gw GW430) (gw GW430) (Kd.freshB (kk BK430) k_), oe hk_ (gw GW442) (gw GW442) (Kd.freshB (kk BK442) k_)⟩)) (below_size (bb HB))); have HO450 := Aside0.mk (Kd.V_lower (Kd.V_mono (ok' := fun k_ => k_ ≠ gb350 ∧ k_ ≠ gb370 ∧ k_ ≠ gb380 ∧ k_ ≠ gb398 ∧ k_ ≠ gb408 ∧ k_ ≠ gb430 ∧ k_ ≠ gb442) ho1 (fun k_ hk_ => ⟨oe hk_ (gw GW350) (gw GW350) (Kd.freshB (kk BK350) k_), oe hk_ (gw GW370) (gw GW370) (Kd.freshB (kk BK370) k_), oe hk_ (gw GW380) (gw GW380) (Kd.freshB (kk BK380) k_), oe hk_ (gw GW398) (gw GW398) (Kd.freshB (kk BK398) k_), oe hk_ (gw GW408) (gw GW408) (Kd.freshB (kk BK408) k_), oe hk_ (gw GW430) (gw GW430) (Kd.freshB (kk BK430) k_), oe hk_ (gw GW442) (gw GW442) (Kd.freshB (kk BK442) k_)⟩)) (below_size (bb HB))); replace BK350 := kB BK350 hb; replace BK370 := kB BK370 hb; replace BK380 := kB BK380 hb; replace BK398 := kB BK398 hb; replace BK408 := kB BK408 hb; replace BK430 := kB BK430 hb; replace BK442 := kB BK442 hb; replace HB := hB HB hb; (try clear hb); (try clear hb2); (try clear hk); (try clear hi); (try clear ho0); (try clear ho1); obtain ⟨Ao156, co156, eo156⟩ := Kd.V_slice HO445.out; subst eo156; obtain ⟨Ao157, co157, eo157⟩ := Kd.V_slice HO450.out; subst eo157) | ((with_reducible refine gate_callee (f := 12) rfl ?_); refine gL (some 97) rfl rfl Try.func12 (by kernel_rfl) rfl #[.agg #[.slice Ao156 t443.length co156, .bool t446, .int .i64 t447, .slice Ao157 t448.length co157], .slice A1 l1.length c1] rfl ?_; (with_reducible refine (wire_Write.calls (fun k_ => (k_ ≠ gb350 ∧ (k_ ≠ gb370 ∧ (k_ ≠ gb380 ∧ (k_ ≠ gb398 ∧ (k_ ≠ gb408 ∧ (k_ ≠ gb430 ∧ k_ ≠ gb442))))))) _ _ t443 t446 t447 (fun k_ => (k_ ≠ gb350 ∧ (k_ ≠ gb370 ∧ (k_ ≠ gb380 ∧ (k_ ≠ gb398 ∧ (k_ ≠ gb408 ∧ (k_ ≠ gb430 ∧ k_ ≠ gb442))))))) _ _ t448 _ _ l1 t451 t454 t455 t456 t459 _ ?side1 ?side2 ?side3 ?side4 A101.out).mono ?_); (case side1 => exact HO445.out); (case side2 => exact HO450.out); (case side3 => exact Kd.C_below HR1.out (bb HB)); (case side4 => exact HC1.out); rintro e w158 ⟨v452, v457, rfl, ho0, ho1, hb⟩; refine ⟨_, rfl, ?_⟩; replace HO_371000 := vB HO_371000 hb; replace HO_371003 := vB HO_371003 hb; replace HO_381000 := vB HO_381000 hb; replace HO_381003 := vB HO_381003 hb; replace HO_399000 := vB HO_399000 hb; replace HO_399003 := vB HO_399003 hb; replace HO_409000 := vB HO_409000 hb; replace HO_409003 := vB HO_409003 hb; replace HO413 := vB HO413 hb; replace HO418 := vB HO418 hb; replace HO421 := vB HO421 hb; replace HO426 := vB HO426 hb; replace HO429 := vB HO429 hb; replace HO433 := vB HO433 hb; replace HO438 := vB HO438 hb; replace HO441 := vB HO441 hb; replace HO445 := vB HO445 hb; replace HO450 := vB HO450 hb; have HO453 := Aside0.mk (Kd.V_lower (Kd.V_mono (ok' := fun k_ => k_ ≠ gb350 ∧ k_ ≠ gb370 ∧ k_ ≠ gb380 ∧ k_ ≠ gb398 ∧ k_ ≠ gb408 ∧ k_ ≠ gb430 ∧ k_ ≠ gb442) ho0 (fun k_ hk_ => ⟨oe hk_ (fun h => h.1) (fun h => h.1) (Kd.freshB (kk BK350) k_), oe hk_ (fun h => h.2.1) (fun h => h.2.1) (Kd.freshB (kk BK370) k_), oe hk_ (fun h => h.2.2.1) (fun h => h.2.2.1) (Kd.freshB (kk BK380) k_), oe hk_ (fun h => h.2.2.2.1) (fun h => h.2.2.2.1) (Kd.freshB (kk BK398) k_), oe hk_ (fun h => h.2.2.2.2.1) (fun h => h.2.2.2.2.1) (Kd.freshB (kk BK408) k_), oe hk_ (fun h => h.2.2.2.2.2.1) (fun h => h.2.2.2.2.2.1) (Kd.freshB (kk BK430) k_), oe hk_ (fun h => h.2.2.2.2.2.2) (fun h => h.2.2.2.2.2.2) (Kd.freshB (kk BK442) k_)⟩)) (below_size (bb HB))); have HO458 := Aside0.mk (Kd.V_lower (Kd.V_mono (ok' := fun k_ => k_ ≠ gb350 ∧ k_ ≠ gb370 ∧ k_ ≠ gb380 ∧ k_ ≠ gb398 ∧ k_ ≠ gb408 ∧ k_ ≠ gb430 ∧ k_ ≠ gb442) ho1 (fun k_ hk_ => ⟨oe hk_ (fun h => h.1) (fun h => h.1) (Kd.freshB (kk BK350) k_), oe hk_ (fun h => h.2.1) (fun h => h.2.1) (Kd.freshB (kk BK370) k_), oe hk_ (fun h => h.2.2.1) (fun h => h.2.2.1) (Kd.freshB (kk BK380) k_), oe hk_ (fun h => h.2.2.2.1) (fun h => h.2.2.2.1) (Kd.freshB (kk BK398) k_), oe hk_ (fun h => h.2.2.2.2.1) (fun h => h.2.2.2.2.1) (Kd.freshB (kk BK408) k_), oe hk_ (fun h => h.2.2.2.2.2.1) (fun h => h.2.2.2.2.2.1) (Kd.freshB (kk BK430) k_), oe hk_ (fun h => h.2.2.2.2.2.2) (fun h => h.2.2.2.2.2.2) (Kd.freshB (kk BK442) k_)⟩)) (below_size (bb HB))); replace BK350 := kB BK350 hb; replace BK370 := kB BK370 hb; replace BK380 := kB BK380 hb; replace BK398 := kB BK398 hb; replace BK408 := kB BK408 hb; replace BK430 := kB BK430 hb; replace BK442 := kB BK442 hb; replace HB := hB HB hb; (try clear hb); (try clear hb2); (try clear hk); (try clear hi); (try clear ho0); (try clear ho1)) | ((with_reducible refine gate_dst (N := 20) rfl ?_); (try (refine gate_guard (by rfl) ?_; dsimp only)); refine box_event ?hg (N := 20) ?hd (cs := #[.slice none 0 0, .bool false, .int .i64 0, .slice none 0 0]) (t := 27) ?hr ?_; (case hd => rfl); (case hg => rfl); (case hr => first | (go_simp; done) | (go_simp; rfl)); intro gb460 hg w159 hbox hb; replace HO_371000 := vE HO_371000 hg hb; replace HO_371003 := vE HO_371003 hg hb; replace HO_381000 := vE HO_381000 hg hb; replace HO_381003 := vE HO_381003 hg hb; replace HO_399000 := vE HO_399000 hg hb; replace HO_399003 := vE HO_399003 hg hb; replace HO_409000 := vE HO_409000 hg hb; replace HO_409003 := vE HO_409003 hg hb; replace HO413 := vE HO413 hg hb; replace HO418 := vE HO418 hg hb; replace HO421 := vE HO421 hg hb; replace HO426 := vE HO426 hg hb; replace HO429 := vE HO429 hg hb; replace HO433 := vE HO433 hg hb; replace HO438 := vE HO438 hg hb; replace HO441 := vE HO441 hg hb; replace HO445 := vE HO445 hg hb; replace HO450 := vE HO450 hg hb; replace HO453 := vE HO453 hg hb; replace HO458 := vE HO458 hg hb; have BK460 := Aside0.mk hbox; have GW460 := gE HB hg; have GE460 := gE HB hg; replace HB := hB HB hb; have NB350_460 := nL BK350 hg; have NB460_350 := nG BK350 hg; replace BK350 := kB BK350 hb; have NB370_460 := nL BK370 hg; have NB460_370 := nG BK370 hg; replace BK370 := kB BK370 hb; have NB380_460 := nL BK380 hg; have NB460_380 := nG BK380 hg; replace BK380 := kB BK380 hb; have NB398_460 := nL BK398 hg; have NB460_398 := nG BK398 hg; replace BK398 := kB BK398 hb; have NB408_460 := nL BK408 hg; have NB460_408 := nG BK408 hg; replace BK408 := kB BK408 hb; have NB430_460 := nL BK430 hg; have NB460_430 := nG BK430 hg; replace BK430 := kB BK430 hb; have NB442_460 := nL BK442 hg; have NB460_442 := nG BK442 hg; replace BK442 := kB BK442 hb; clear hb hbox hg; obtain ⟨Ao160, co160, eo160⟩ := Kd.V_slice HO453.out; subst eo160; have hnb161 := NB460_350.out; have hnc161 := NB350_460.out; have hnb162 := NB460_370.out; have hnc162 := NB370_460.out; have hnb163 := NB460_380.out; have hnc163 := NB380_460.out; have hnb164 := NB460_398.out; have hnc164 := NB398_460.out; have hnb165 := NB460_408.out; have hnc165 := NB408_460.out; have hnb166 := NB460_430.out; have hnc166 := NB430_460.out; have hnb167 := NB460_442.out; have hnc167 := NB442_460.out; obtain ⟨hcz168_0, hcz168_1, hcz168_2, hcz168_3, hfz168_0, hfz168_1, hfz168_2, hfz168_3⟩ := bc4 BK460; obtain ⟨Ao169, co169, eo169⟩ := Kd.V_slice HO458.out; subst eo169) | ((with_reducible refine gate_store (t := 27) (p := 20) rfl ?_); refine store_event (t := 27) (p := 20) (v := ?vo_w170) (w1 := ((((w159.setCell ⟨gb460, 0, none⟩ (.slice Ao160 t451.length co160)).setCell ⟨gb460, 1, none⟩ (.bool t454)).setCell ⟨gb460, 2, none⟩ (.int .i64 t455)).setCell ⟨gb460, 3, none⟩ (.slice Ao169 t456.length co169))) ?hg ?ho ?hn ?hr ?_; (case ho => rfl); (case hg => rfl); (case hn => rfl); (case hr => first | (go_simp; done) | (go_simp; rfl)); intro w170 hw; replace HO_371000 := vS (fun k_ => k_ ≠ gb350 ∧ k_ ≠ gb370 ∧ k_ ≠ gb380 ∧ k_ ≠ gb398 ∧ k_ ≠ gb408 ∧ k_ ≠ gb430 ∧ k_ ≠ gb442 ∧ k_ ≠ gb460) HO_371000 hw; replace HO_371003 := vS (fun k_ => k_ ≠ gb350 ∧ k_ ≠ gb370 ∧ k_ ≠ gb380 ∧ k_ ≠ gb398 ∧ k_ ≠ gb408 ∧ k_ ≠ gb430 ∧ k_ ≠ gb442 ∧ k_ ≠ gb460) HO_371003 hw; replace HO_381000 := vS (fun k_ => k_ ≠ gb350 ∧ k_ ≠ gb370 ∧ k_ ≠ gb380 ∧ k_ ≠ gb398 ∧ k_ ≠ gb408 ∧ k_ ≠ gb430 ∧ k_ ≠ gb442 ∧ k_ ≠ gb460) HO_381000 hw; replace HO_381003 := vS (fun k_ => k_ ≠ gb350 ∧ k_ ≠ gb370 ∧ k_ ≠ gb380 ∧ k_ ≠ gb398 ∧ k_ ≠ gb408 ∧ k_ ≠ gb430 ∧ k_ ≠ gb442 ∧ k_ ≠ gb460) HO_381003 hw; replace HO_399000 := vS (fun k_ => k_ ≠ gb350 ∧ k_ ≠ gb370 ∧ k_ ≠ gb380 ∧ k_ ≠ gb398 ∧ k_ ≠ gb408 ∧ k_ ≠ gb430 ∧ k_ ≠ gb442 ∧ k_ ≠ gb460) HO_399000 hw; replace HO_399003 := vS (fun k_ => k_ ≠ gb350 ∧ k_ ≠ gb370 ∧ k_ ≠ gb380 ∧ k_ ≠ gb398 ∧ k_ ≠ gb408 ∧ k_ ≠ gb430 ∧ k_ ≠ gb442 ∧ k_ ≠ gb460) HO_399003 hw; replace HO_409000 := vS (fun k_ => k_ ≠ gb350 ∧ k_ ≠ gb370 ∧ k_ ≠ gb380 ∧ k_ ≠ gb398 ∧ k_ ≠ gb408 ∧ k_ ≠ gb430 ∧ k_ ≠ gb442 ∧ k_ ≠ gb460) HO_409000 hw; replace HO_409003 := vS (fun k_ => k_ ≠ gb350 ∧ k_ ≠ gb370 ∧ k_ ≠ gb380 ∧ k_ ≠ gb398 ∧ k_ ≠ gb408 ∧ k_ ≠ gb430 ∧ k_ ≠ gb442 ∧ k_ ≠ gb460) HO_409003 hw; replace HO413 := vS (fun k_ => k_ ≠ gb350 ∧ k_ ≠ gb370 ∧ k_ ≠ gb380 ∧ k_ ≠ gb398 ∧ k_ ≠ gb408 ∧ k_ ≠ gb430 ∧ k_ ≠ gb442 ∧ k_ ≠ gb460) HO413 hw; replace HO418 := vS (fun k_ => k_ ≠ gb350 ∧ k_ ≠ gb370 ∧ k_ ≠ gb380 ∧ k_ ≠ gb398 ∧ k_ ≠ gb408 ∧ k_ ≠ gb430 ∧ k_ ≠ gb442 ∧ k_ ≠ gb460) HO418 hw; replace HO421 := vS (fun k_ => k_ ≠ gb350 ∧ k_ ≠ gb370 ∧ k_ ≠ gb380 ∧ k_ ≠ gb398 ∧ k_ ≠ gb408 ∧ k_ ≠ gb430 ∧ k_ ≠ gb442 ∧ k_ ≠ gb460) HO421 hw; replace HO426 := vS (fun k_ => k_ ≠ gb350 ∧ k_ ≠ gb370 ∧ k_ ≠ gb380 ∧ k_ ≠ gb398 ∧ k_ ≠ gb408 ∧ k_ ≠ gb430 ∧ k_ ≠ gb442 ∧ k_ ≠ gb460) HO426 hw; replace HO429 := vS (fun k_ => k_ ≠ gb350 ∧ k_ ≠ gb370 ∧ k_ ≠ gb380 ∧ k_ ≠ gb398 ∧ k_ ≠ gb408 ∧ k_ ≠ gb430 ∧ k_ ≠ gb442 ∧ k_ ≠ gb460) HO429 hw; replace HO433 := vS (fun k_ => k_ ≠ gb350 ∧ k_ ≠ gb370 ∧ k_ ≠ gb380 ∧ k_ ≠ gb398 ∧ k_ ≠ gb408 ∧ k_ ≠ gb430 ∧ k_ ≠ gb442 ∧ k_ ≠ gb460) HO433 hw; replace HO438 := vS (fun k_ => k_ ≠ gb350 ∧ k_ ≠ gb370 ∧ k_ ≠ gb380 ∧ k_ ≠ gb398 ∧ k_ ≠ gb408 ∧ k_ ≠ gb430 ∧ k_ ≠ gb442 ∧ k_ ≠ gb460) HO438 hw; replace HO441 := vS (fun k_ => k_ ≠ gb350 ∧ k_ ≠ gb370 ∧ k_ ≠ gb380 ∧ k_ ≠ gb398 ∧ k_ ≠ gb408 ∧ k_ ≠ gb430 ∧ k_ ≠ gb442 ∧ k_ ≠ gb460) HO441 hw; replace HO445 := vS (fun k_ => k_ ≠ gb350 ∧ k_ ≠ gb370 ∧ k_ ≠ gb380 ∧ k_ ≠ gb398 ∧ k_ ≠ gb408 ∧ k_ ≠ gb430 ∧ k_ ≠ gb442 ∧ k_ ≠ gb460) HO445 hw; replace HO450 := vS (fun k_ => k_ ≠ gb350 ∧ k_ ≠ gb370 ∧ k_ ≠ gb380 ∧ k_ ≠ gb398 ∧ k_ ≠ gb408 ∧ k_ ≠ gb430 ∧ k_ ≠ gb442 ∧ k_ ≠ gb460) HO450 hw; replace HO453 := vS (fun k_ => k_ ≠ gb350 ∧ k_ ≠ gb370 ∧ k_ ≠ gb380 ∧ k_ ≠ gb398 ∧ k_ ≠ gb408 ∧ k_ ≠ gb430 ∧ k_ ≠ gb442 ∧ k_ ≠ gb460) HO453 hw; replace HO458 := vS (fun k_ => k_ ≠ gb350 ∧ k_ ≠ gb370 ∧ k_ ≠ gb380 ∧ k_ ≠ gb398 ∧ k_ ≠ gb408 ∧ k_ ≠ gb430 ∧ k_ ≠ gb442 ∧ k_ ≠ gb460) HO458 hw; replace BK350 := kS BK350 hw; replace BK370 := kS BK370 hw; replace BK380 := kS BK380 hw; replace BK398 := kS BK398 hw; replace BK408 := kS BK408 hw; replace BK430 := kS BK430 hw; replace BK442 := kS BK442 hw; replace BK460 := kP4 BK460 hw; replace HB : Aside0 (Below w.heap.size w w170) := ⟨(by rw [hw]; exact (bb HB))⟩; clear hw; obtain ⟨hcz171_0, hcz171_1, hcz171_2, hcz171_3, hfz171_0, hfz171_1, hfz171_2, hfz171_3⟩ := bc4 BK350) | ((with_reducible refine gate_callee (f := 22) rfl ?_); refine gL (some 103) rfl rfl Try.func22 (by kernel_rfl) rfl #[.agg #[.slice A0_0 l0_0.length c0_0, .bool a0_1, .int .i64 a0_2, .slice A0_3 l0_3.length c0_3], .slice A1 l1.length c1] rfl ?_; (with_reducible refine (pentroughref19_Write.calls (fun k_ => k_ < w.heap.size) _ _ l0_0 a0_1 a0_2 (fun k_ => k_ < w.heap.size) _ _ l0_3 _ _ l1 t461 t464 t465 t466 t469 _ ?side1 ?side2 ?side3 ?side4 A102.out).mono ?_); (case side1 => exact Kd.V_mk HC0_0.out (Kd.F_below (Kd.C_F (Kd.heap_int .u8) HR0_0.out) (bb HB))); (case side2 => exact Kd.V_mk HC0_3.out (Kd.F_below (Kd.C_F (Kd.heap_int .u8) HR0_3.out) (bb HB))); (case side3 => exact Kd.C_below HR1.out (bb HB)); (case side4 => exact HC1.out); rintro e w172 ⟨v462, v467, rfl, ho0, ho1, hb⟩; refine ⟨_, rfl, ?_⟩; replace HO_371000 := Aside0.mk (Kd.V_elder' (vv HO_371000) (Kd.R_base ho1) hb); replace HO_371003 := Aside0.mk (Kd.V_elder' (vv HO_371003) (Kd.R_base ho1) hb); replace HO_381000 := Aside0.mk (Kd.V_elder' (vv HO_381000) (Kd.R_base ho1) hb); replace HO_381003 := Aside0.mk (Kd.V_elder' (vv HO_381003) (Kd.R_base ho1) hb); replace HO_399000 := Aside0.mk (Kd.V_elder' (vv HO_399000) (Kd.R_base ho1) hb); replace HO_399003 := Aside0.mk (Kd.V_elder' (vv HO_399003) (Kd.R_base ho1) hb); replace HO_409000 := Aside0.mk (Kd.V_elder' (vv HO_409000) (Kd.R_base ho1) hb); replace HO_409003 := Aside0.mk (Kd.V_elder' (vv HO_409003) (Kd.R_base ho1) hb); replace HO413 := Aside0.mk (Kd.V_elder' (vv HO413) (Kd.R_base ho1) hb); replace HO418 := Aside0.mk (Kd.V_elder' (vv HO418) (Kd.R_base ho1) hb); replace HO421 := Aside0.mk (Kd.V_elder' (vv HO421) (Kd.R_base ho1) hb); replace HO426 := Aside0.mk (Kd.V_elder' (vv HO426) (Kd.R_base ho1) hb); replace HO429 := Aside0.mk (Kd.V_elder' (vv HO429) (Kd.R_base ho1) hb); replace HO433 := Aside0.mk (Kd.V_elder' (vv HO433) (Kd.R_base ho1) hb); replace HO438 := Aside0.mk (Kd.V_elder' (vv HO438) (Kd.R_base ho1) hb); replace HO441 := Aside0.mk (Kd.V_elder' (vv HO441) (Kd.R_base ho1) hb); replace HO445 := Aside0.mk (Kd.V_elder' (vv HO445) (Kd.R_base ho1) hb); replace HO450 := Aside0.mk (Kd.V_elder' (vv HO450) (Kd.R_base ho1) hb); replace HO453 := Aside0.mk (Kd.V_elder' (vv HO453) (Kd.R_base ho1) hb); replace HO458 := Aside0.mk (Kd.V_elder' (vv HO458) (Kd.R_base ho1) hb); have HO463 := Aside0.mk (Kd.V_lower (Kd.V_mono (ok' := fun k_ => some k_ ≠ (v467 : Value).ownBlock ∧ k_ ≠ gb350 ∧ k_ ≠ gb370 ∧ k_ ≠ gb380 ∧ k_ ≠ gb398 ∧ k_ ≠ gb408 ∧ k_ ≠ gb430 ∧ k_ ≠ gb442 ∧ k_ ≠ gb460) ho0 (fun k_ hk_ => ⟨hk_.2, Or.elim hk_.1 (fun hs_ => Or.elim hs_ (gw GW350) (gw GW350)) (fun hn_ => (Kd.freshB (kk BK350) k_ hn_)), Or.elim hk_.1 (fun hs_ => Or.elim hs_ (gw GW370) (gw GW370)) (fun hn_ => (Kd.freshB (kk BK370) k_ hn_)), Or.elim hk_.1 (fun hs_ => Or.elim hs_ (gw GW380) (gw GW380)) (fun hn_ => (Kd.freshB (kk BK380) k_ hn_)), Or.elim hk_.1 (fun hs_ => Or.elim hs_ (gw GW398) (gw GW398)) (fun hn_ => (Kd.freshB (kk BK398) k_ hn_)), Or.elim hk_.1 (fun hs_ => Or.elim hs_ (gw GW408) (gw GW408)) (fun hn_ => (Kd.freshB (kk BK408) k_ hn_)), Or.elim hk_.1 (fun hs_ => Or.elim hs_ (gw GW430) (gw GW430)) (fun hn_ => (Kd.freshB (kk BK430) k_ hn_)), Or.elim hk_.1 (fun hs_ => Or.elim hs_ (gw GW442) (gw GW442)) (fun hn_ => (Kd.freshB (kk BK442) k_ hn_)), Or.elim hk_.1 (fun hs_ => Or.elim hs_ (gw GW460) (gw GW460)) (fun hn_ => (Kd.freshB (kk BK460) k_ hn_))⟩)) (below_size (bb HB))); have HO468 := Aside0.mk (Kd.R_lower (Kd.R_mono (ok' := fun k_ => True) ho1 (fun _ hk_ => trivial)) (below_size (bb HB))); replace BK350 := kB BK350 hb; replace BK370 := kB BK370 hb; replace BK380 := kB BK380 hb; replace BK398 := kB BK398 hb; replace BK408 := kB BK408 hb; replace BK430 := kB BK430 hb; replace BK442 := kB BK442 hb; replace BK460 := kB BK460 hb; replace HB := hB HB hb; (try clear hb); (try clear hb2); (try clear hk); (try clear hi); (try clear ho0); (try clear ho1)) | ((with_reducible refine gate_dst (N := 22) rfl ?_); (try (refine gate_guard (by rfl) ?_; dsimp only)); refine box_event ?hg (N := 22) ?hd (cs := #[.slice none 0 0, .bool false, .int .i64 0, .slice none 0 0]) (t := 36) ?hr ?_; (case hd => rfl); (case hg => rfl); (case hr => first | (go_simp; done) | (go_simp; rfl)); intro gb470 hg w173 hbox hb; replace HO_371000 := vE HO_371000 hg hb; replace HO_371003 := vE HO_371003 hg hb; replace HO_381000 := vE HO_381000 hg hb; replace HO_381003 := vE HO_381003 hg hb; replace HO_399000 := vE HO_399000 hg hb; replace HO_399003 := vE HO_399003 hg hb; replace HO_409000 := vE HO_409000 hg hb; replace HO_409003 := vE HO_409003 hg hb; replace HO413 := vE HO413 hg hb; replace HO418 := vE HO418 hg hb; replace HO421 := vE HO421 hg hb; replace HO426 := vE HO426 hg hb; replace HO429 := vE HO429 hg hb; replace HO433 := vE HO433 hg hb; replace HO438 := vE HO438 hg hb; replace HO441 := vE HO441 hg hb; replace HO445 := vE HO445 hg hb; replace HO450 := vE HO450 hg hb; replace HO453 := vE HO453 hg hb; replace HO458 := vE HO458 hg hb; replace HO463 := vE HO463 hg hb; replace HO468 := Aside0.mk (Kd.R_below (by (with_reducible repeat (first | apply Kd.R_alloc | apply Kd.R_drewN | apply Kd.R_drew)); exact HO468.out) hb); have BK470 := Aside0.mk hbox; have GW470 := gE HB hg; have GE470 := gE HB hg; replace HB := hB HB hb; have NB350_470 := nL BK350 hg; have NB470_350 := nG BK350 hg; replace BK350 := kB BK350 hb; have NB370_470 := nL BK370 hg; have NB470_370 := nG BK370 hg; replace BK370 := kB BK370 hb; have NB380_470 := nL BK380 hg; have NB470_380 := nG BK380 hg; replace BK380 := kB BK380 hb; have NB398_470 := nL BK398 hg; have NB470_398 := nG BK398 hg; replace BK398 := kB BK398 hb; have NB408_470 := nL BK408 hg; have NB470_408 := nG BK408 hg; replace BK408 := kB BK408 hb; have NB430_470 := nL BK430 hg; have NB470_430 := nG BK430 hg; replace BK430 := kB BK430 hb; have NB442_470 := nL BK442 hg; have NB470_442 := nG BK442 hg; replace BK442 := kB BK442 hb; have NB460_470 := nL BK460 hg; have NB470_460 := nG BK460 hg; replace BK460 := kB BK460 hb; clear hb hbox hg; obtain ⟨Ao174, co174, eo174⟩ := Kd.V_slice HO463.out; subst eo174; have hnb175 := NB470_350.out; have hnc175 := NB350_470.out; have hnb176 := NB470_370.out; have hnc176 := NB370_470.out; have hnb177 := NB470_380.out; have hnc177 := NB380_470.out; have hnb178 := NB470_398.out; have hnc178 := NB398_470.out; have hnb179 := NB470_408.out; have hnc179 := NB408_470.out; have hnb180 := NB470_430.out; have hnc180 := NB430_470.out; have hnb181 := NB470_442.out; have hnc181 := NB442_470.out; have hnb182 := NB470_460.out; have hnc182 := NB460_470.out; obtain ⟨hcz183_0, hcz183_1, hcz183_2, hcz183_3, hfz183_0, hfz183_1, hfz183_2, hfz183_3⟩ := bc4 BK470; obtain ⟨Ao184, co184, eo184⟩ := Kd.R_slice HO468.out; subst eo184))
                            have n0_ : Aside0 (Kd.V (Kd.int .u8) 5 ((((w173.setCell ⟨gb470, 0, none⟩ (.slice Ao174 t461.length co174)).setCell ⟨gb470, 1, none⟩ (.bool t464)).setCell ⟨gb470, 2, none⟩ (.int .i64 t465)).setCell ⟨gb470, 3, none⟩ (.slice Ao184 t466.length co184)) w.heap.size (fun k_ => some k_ ≠ (.slice Ao184 t466.length co184 : Value).ownBlock ∧ k_ ≠ gb350 ∧ k_ ≠ gb370 ∧ k_ ≠ gb380 ∧ k_ ≠ gb398 ∧ k_ ≠ gb408 ∧ k_ ≠ gb430 ∧ k_ ≠ gb442 ∧ k_ ≠ gb460 ∧ k_ ≠ gb470) (.slice Ao28 t361.length co28) t361) := ⟨vX HO_371000⟩
                            have n1_ : Aside0 (Kd.V (Kd.int .u8) 5 ((((w173.setCell ⟨gb470, 0, none⟩ (.slice Ao174 t461.length co174)).setCell ⟨gb470, 1, none⟩ (.bool t464)).setCell ⟨gb470, 2, none⟩ (.int .i64 t465)).setCell ⟨gb470, 3, none⟩ (.slice Ao184 t466.length co184)) w.heap.size (fun k_ => some k_ ≠ (.slice Ao184 t466.length co184 : Value).ownBlock ∧ k_ ≠ gb350 ∧ k_ ≠ gb370 ∧ k_ ≠ gb380 ∧ k_ ≠ gb398 ∧ k_ ≠ gb408 ∧ k_ ≠ gb430 ∧ k_ ≠ gb442 ∧ k_ ≠ gb460 ∧ k_ ≠ gb470) (.slice Ao31 t366.length co31) t366) := ⟨vX HO_371003⟩
                            have n2_ : Aside0 (Kd.V (Kd.int .u8) 5 ((((w173.setCell ⟨gb470, 0, none⟩ (.slice Ao174 t461.length co174)).setCell ⟨gb470, 1, none⟩ (.bool t464)).setCell ⟨gb470, 2, none⟩ (.int .i64 t465)).setCell ⟨gb470, 3, none⟩ (.slice Ao184 t466.length co184)) w.heap.size (fun k_ => some k_ ≠ (.slice Ao184 t466.length co184 : Value).ownBlock ∧ k_ ≠ gb350 ∧ k_ ≠ gb370 ∧ k_ ≠ gb380 ∧ k_ ≠ gb398 ∧ k_ ≠ gb408 ∧ k_ ≠ gb430 ∧ k_ ≠ gb442 ∧ k_ ≠ gb460 ∧ k_ ≠ gb470) (.slice Ao36 t371.length co36) t371) := ⟨vX HO_381000⟩
                            have n3_ : Aside0 (Kd.V (Kd.int .u8) 5 ((((w173.setCell ⟨gb470, 0, none⟩ (.slice Ao174 t461.length co174)).setCell ⟨gb470, 1, none⟩ (.bool t464)).setCell ⟨gb470, 2, none⟩ (.int .i64 t465)).setCell ⟨gb470, 3, none⟩ (.slice Ao184 t466.length co184)) w.heap.size (fun k_ => some k_ ≠ (.slice Ao184 t466.length co184 : Value).ownBlock ∧ k_ ≠ gb350 ∧ k_ ≠ gb370 ∧ k_ ≠ gb380 ∧ k_ ≠ gb398 ∧ k_ ≠ gb408 ∧ k_ ≠ gb430 ∧ k_ ≠ gb442 ∧ k_ ≠ gb460 ∧ k_ ≠ gb470) (.slice Ao40 t376.length co40) t376) := ⟨vX HO_381003⟩
                            have n4_ : Aside0 (Kd.V (Kd.int .u8) 5 ((((w173.setCell ⟨gb470, 0, none⟩ (.slice Ao174 t461.length co174)).setCell ⟨gb470, 1, none⟩ (.bool t464)).setCell ⟨gb470, 2, none⟩ (.int .i64 t465)).setCell ⟨gb470, 3, none⟩ (.slice Ao184 t466.length co184)) w.heap.size (fun k_ => some k_ ≠ (.slice Ao184 t466.length co184 : Value).ownBlock ∧ k_ ≠ gb350 ∧ k_ ≠ gb370 ∧ k_ ≠ gb380 ∧ k_ ≠ gb398 ∧ k_ ≠ gb408 ∧ k_ ≠ gb430 ∧ k_ ≠ gb442 ∧ k_ ≠ gb460 ∧ k_ ≠ gb470) (.slice Ao48 t389.length co48) t389) := ⟨vX HO_399000⟩
                            have n5_ : Aside0 (Kd.V (Kd.int .u8) 5 ((((w173.setCell ⟨gb470, 0, none⟩ (.slice Ao174 t461.length co174)).setCell ⟨gb470, 1, none⟩ (.bool t464)).setCell ⟨gb470, 2, none⟩ (.int .i64 t465)).setCell ⟨gb470, 3, none⟩ (.slice Ao184 t466.length co184)) w.heap.size (fun k_ => some k_ ≠ (.slice Ao184 t466.length co184 : Value).ownBlock ∧ k_ ≠ gb350 ∧ k_ ≠ gb370 ∧ k_ ≠ gb380 ∧ k_ ≠ gb398 ∧ k_ ≠ gb408 ∧ k_ ≠ gb430 ∧ k_ ≠ gb442 ∧ k_ ≠ gb460 ∧ k_ ≠ gb470) (.slice Ao53 t394.length co53) t394) := ⟨vX HO_399003⟩
                            have n6_ : Aside0 (Kd.V (Kd.int .u8) 5 ((((w173.setCell ⟨gb470, 0, none⟩ (.slice Ao174 t461.length co174)).setCell ⟨gb470, 1, none⟩ (.bool t464)).setCell ⟨gb470, 2, none⟩ (.int .i64 t465)).setCell ⟨gb470, 3, none⟩ (.slice Ao184 t466.length co184)) w.heap.size (fun k_ => some k_ ≠ (.slice Ao184 t466.length co184 : Value).ownBlock ∧ k_ ≠ gb350 ∧ k_ ≠ gb370 ∧ k_ ≠ gb380 ∧ k_ ≠ gb398 ∧ k_ ≠ gb408 ∧ k_ ≠ gb430 ∧ k_ ≠ gb442 ∧ k_ ≠ gb460 ∧ k_ ≠ gb470) (.slice Ao58 t399.length co58) t399) := ⟨vX HO_409000⟩
                            have n7_ : Aside0 (Kd.V (Kd.int .u8) 5 ((((w173.setCell ⟨gb470, 0, none⟩ (.slice Ao174 t461.length co174)).setCell ⟨gb470, 1, none⟩ (.bool t464)).setCell ⟨gb470, 2, none⟩ (.int .i64 t465)).setCell ⟨gb470, 3, none⟩ (.slice Ao184 t466.length co184)) w.heap.size (fun k_ => some k_ ≠ (.slice Ao184 t466.length co184 : Value).ownBlock ∧ k_ ≠ gb350 ∧ k_ ≠ gb370 ∧ k_ ≠ gb380 ∧ k_ ≠ gb398 ∧ k_ ≠ gb408 ∧ k_ ≠ gb430 ∧ k_ ≠ gb442 ∧ k_ ≠ gb460 ∧ k_ ≠ gb470) (.slice Ao64 t404.length co64) t404) := ⟨vX HO_409003⟩
                            have n8_ : Aside0 (Kd.V (Kd.int .u8) 5 ((((w173.setCell ⟨gb470, 0, none⟩ (.slice Ao174 t461.length co174)).setCell ⟨gb470, 1, none⟩ (.bool t464)).setCell ⟨gb470, 2, none⟩ (.int .i64 t465)).setCell ⟨gb470, 3, none⟩ (.slice Ao184 t466.length co184)) w.heap.size (fun k_ => some k_ ≠ (.slice Ao184 t466.length co184 : Value).ownBlock ∧ k_ ≠ gb350 ∧ k_ ≠ gb370 ∧ k_ ≠ gb380 ∧ k_ ≠ gb398 ∧ k_ ≠ gb408 ∧ k_ ≠ gb430 ∧ k_ ≠ gb442 ∧ k_ ≠ gb460 ∧ k_ ≠ gb470) (.slice Ao128 t411.length co128) t411) := ⟨vX HO413⟩
                            have n9_ : Aside0 (Kd.V (Kd.int .u8) 5 ((((w173.setCell ⟨gb470, 0, none⟩ (.slice Ao174 t461.length co174)).setCell ⟨gb470, 1, none⟩ (.bool t464)).setCell ⟨gb470, 2, none⟩ (.int .i64 t465)).setCell ⟨gb470, 3, none⟩ (.slice Ao184 t466.length co184)) w.heap.size (fun k_ => some k_ ≠ (.slice Ao184 t466.length co184 : Value).ownBlock ∧ k_ ≠ gb350 ∧ k_ ≠ gb370 ∧ k_ ≠ gb380 ∧ k_ ≠ gb398 ∧ k_ ≠ gb408 ∧ k_ ≠ gb430 ∧ k_ ≠ gb442 ∧ k_ ≠ gb460 ∧ k_ ≠ gb470) (.slice Ao129 t416.length co129) t416) := ⟨vX HO418⟩
                            have n10_ : Aside0 (Kd.V (Kd.int .u8) 5 ((((w173.setCell ⟨gb470, 0, none⟩ (.slice Ao174 t461.length co174)).setCell ⟨gb470, 1, none⟩ (.bool t464)).setCell ⟨gb470, 2, none⟩ (.int .i64 t465)).setCell ⟨gb470, 3, none⟩ (.slice Ao184 t466.length co184)) w.heap.size (fun k_ => some k_ ≠ (.slice Ao184 t466.length co184 : Value).ownBlock ∧ k_ ≠ gb350 ∧ k_ ≠ gb370 ∧ k_ ≠ gb380 ∧ k_ ≠ gb398 ∧ k_ ≠ gb408 ∧ k_ ≠ gb430 ∧ k_ ≠ gb442 ∧ k_ ≠ gb460 ∧ k_ ≠ gb470) (.slice Ao132 t419.length co132) t419) := ⟨vX HO421⟩
                            have n11_ : Aside0 (Kd.V (Kd.int .u8) 5 ((((w173.setCell ⟨gb470, 0, none⟩ (.slice Ao174 t461.length co174)).setCell ⟨gb470, 1, none⟩ (.bool t464)).setCell ⟨gb470, 2, none⟩ (.int .i64 t465)).setCell ⟨gb470, 3, none⟩ (.slice Ao184 t466.length co184)) w.heap.size (fun k_ => some k_ ≠ (.slice Ao184 t466.length co184 : Value).ownBlock ∧ k_ ≠ gb350 ∧ k_ ≠ gb370 ∧ k_ ≠ gb380 ∧ k_ ≠ gb398 ∧ k_ ≠ gb408 ∧ k_ ≠ gb430 ∧ k_ ≠ gb442 ∧ k_ ≠ gb460 ∧ k_ ≠ gb470) (.slice Ao139 t424.length co139) t424) := ⟨vX HO426⟩
                            have n12_ : Aside0 (Kd.V (Kd.int .u8) 5 ((((w173.setCell ⟨gb470, 0, none⟩ (.slice Ao174 t461.length co174)).setCell ⟨gb470, 1, none⟩ (.bool t464)).setCell ⟨gb470, 2, none⟩ (.int .i64 t465)).setCell ⟨gb470, 3, none⟩ (.slice Ao184 t466.length co184)) w.heap.size (fun k_ => some k_ ≠ (.slice Ao184 t466.length co184 : Value).ownBlock ∧ k_ ≠ gb350 ∧ k_ ≠ gb370 ∧ k_ ≠ gb380 ∧ k_ ≠ gb398 ∧ k_ ≠ gb408 ∧ k_ ≠ gb430 ∧ k_ ≠ gb442 ∧ k_ ≠ gb460 ∧ k_ ≠ gb470) v428 t427) := ⟨vX HO429⟩
                            have n13_ : Aside0 (Kd.V (Kd.int .u8) 5 ((((w173.setCell ⟨gb470, 0, none⟩ (.slice Ao174 t461.length co174)).setCell ⟨gb470, 1, none⟩ (.bool t464)).setCell ⟨gb470, 2, none⟩ (.int .i64 t465)).setCell ⟨gb470, 3, none⟩ (.slice Ao184 t466.length co184)) w.heap.size (fun k_ => some k_ ≠ (.slice Ao184 t466.length co184 : Value).ownBlock ∧ k_ ≠ gb350 ∧ k_ ≠ gb370 ∧ k_ ≠ gb380 ∧ k_ ≠ gb398 ∧ k_ ≠ gb408 ∧ k_ ≠ gb430 ∧ k_ ≠ gb442 ∧ k_ ≠ gb460 ∧ k_ ≠ gb470) (.slice Ao144 t431.length co144) t431) := ⟨vX HO433⟩
                            have n14_ : Aside0 (Kd.V (Kd.int .u8) 5 ((((w173.setCell ⟨gb470, 0, none⟩ (.slice Ao174 t461.length co174)).setCell ⟨gb470, 1, none⟩ (.bool t464)).setCell ⟨gb470, 2, none⟩ (.int .i64 t465)).setCell ⟨gb470, 3, none⟩ (.slice Ao184 t466.length co184)) w.heap.size (fun k_ => some k_ ≠ (.slice Ao184 t466.length co184 : Value).ownBlock ∧ k_ ≠ gb350 ∧ k_ ≠ gb370 ∧ k_ ≠ gb380 ∧ k_ ≠ gb398 ∧ k_ ≠ gb408 ∧ k_ ≠ gb430 ∧ k_ ≠ gb442 ∧ k_ ≠ gb460 ∧ k_ ≠ gb470) (.slice Ao152 t436.length co152) t436) := ⟨vX HO438⟩
                            have n15_ : Aside0 (Kd.V (Kd.int .u8) 5 ((((w173.setCell ⟨gb470, 0, none⟩ (.slice Ao174 t461.length co174)).setCell ⟨gb470, 1, none⟩ (.bool t464)).setCell ⟨gb470, 2, none⟩ (.int .i64 t465)).setCell ⟨gb470, 3, none⟩ (.slice Ao184 t466.length co184)) w.heap.size (fun k_ => some k_ ≠ (.slice Ao184 t466.length co184 : Value).ownBlock ∧ k_ ≠ gb350 ∧ k_ ≠ gb370 ∧ k_ ≠ gb380 ∧ k_ ≠ gb398 ∧ k_ ≠ gb408 ∧ k_ ≠ gb430 ∧ k_ ≠ gb442 ∧ k_ ≠ gb460 ∧ k_ ≠ gb470) v440 t439) := ⟨vX HO441⟩
                            have n16_ : Aside0 (Kd.V (Kd.int .u8) 5 ((((w173.setCell ⟨gb470, 0, none⟩ (.slice Ao174 t461.length co174)).setCell ⟨gb470, 1, none⟩ (.bool t464)).setCell ⟨gb470, 2, none⟩ (.int .i64 t465)).setCell ⟨gb470, 3, none⟩ (.slice Ao184 t466.length co184)) w.heap.size (fun k_ => some k_ ≠ (.slice Ao184 t466.length co184 : Value).ownBlock ∧ k_ ≠ gb350 ∧ k_ ≠ gb370 ∧ k_ ≠ gb380 ∧ k_ ≠ gb398 ∧ k_ ≠ gb408 ∧ k_ ≠ gb430 ∧ k_ ≠ gb442 ∧ k_ ≠ gb460 ∧ k_ ≠ gb470) (.slice Ao156 t443.length co156) t443) := ⟨vX HO445⟩
                            have n17_ : Aside0 (Kd.V (Kd.int .u8) 5 ((((w173.setCell ⟨gb470, 0, none⟩ (.slice Ao174 t461.length co174)).setCell ⟨gb470, 1, none⟩ (.bool t464)).setCell ⟨gb470, 2, none⟩ (.int .i64 t465)).setCell ⟨gb470, 3, none⟩ (.slice Ao184 t466.length co184)) w.heap.size (fun k_ => some k_ ≠ (.slice Ao184 t466.length co184 : Value).ownBlock ∧ k_ ≠ gb350 ∧ k_ ≠ gb370 ∧ k_ ≠ gb380 ∧ k_ ≠ gb398 ∧ k_ ≠ gb408 ∧ k_ ≠ gb430 ∧ k_ ≠ gb442 ∧ k_ ≠ gb460 ∧ k_ ≠ gb470) (.slice Ao157 t448.length co157) t448) := ⟨vX HO450⟩
                            have n18_ : Aside0 (Kd.V (Kd.int .u8) 5 ((((w173.setCell ⟨gb470, 0, none⟩ (.slice Ao174 t461.length co174)).setCell ⟨gb470, 1, none⟩ (.bool t464)).setCell ⟨gb470, 2, none⟩ (.int .i64 t465)).setCell ⟨gb470, 3, none⟩ (.slice Ao184 t466.length co184)) w.heap.size (fun k_ => some k_ ≠ (.slice Ao184 t466.length co184 : Value).ownBlock ∧ k_ ≠ gb350 ∧ k_ ≠ gb370 ∧ k_ ≠ gb380 ∧ k_ ≠ gb398 ∧ k_ ≠ gb408 ∧ k_ ≠ gb430 ∧ k_ ≠ gb442 ∧ k_ ≠ gb460 ∧ k_ ≠ gb470) (.slice Ao160 t451.length co160) t451) := ⟨vX HO453⟩
                            have n19_ : Aside0 (Kd.V (Kd.int .u8) 5 ((((w173.setCell ⟨gb470, 0, none⟩ (.slice Ao174 t461.length co174)).setCell ⟨gb470, 1, none⟩ (.bool t464)).setCell ⟨gb470, 2, none⟩ (.int .i64 t465)).setCell ⟨gb470, 3, none⟩ (.slice Ao184 t466.length co184)) w.heap.size (fun k_ => some k_ ≠ (.slice Ao184 t466.length co184 : Value).ownBlock ∧ k_ ≠ gb350 ∧ k_ ≠ gb370 ∧ k_ ≠ gb380 ∧ k_ ≠ gb398 ∧ k_ ≠ gb408 ∧ k_ ≠ gb430 ∧ k_ ≠ gb442 ∧ k_ ≠ gb460 ∧ k_ ≠ gb470) (.slice Ao169 t456.length co169) t456) := ⟨vX HO458⟩
                            have n20_ : Aside0 (Kd.V (Kd.int .u8) 5 ((((w173.setCell ⟨gb470, 0, none⟩ (.slice Ao174 t461.length co174)).setCell ⟨gb470, 1, none⟩ (.bool t464)).setCell ⟨gb470, 2, none⟩ (.int .i64 t465)).setCell ⟨gb470, 3, none⟩ (.slice Ao184 t466.length co184)) w.heap.size (fun k_ => some k_ ≠ (.slice Ao184 t466.length co184 : Value).ownBlock ∧ k_ ≠ gb350 ∧ k_ ≠ gb370 ∧ k_ ≠ gb380 ∧ k_ ≠ gb398 ∧ k_ ≠ gb408 ∧ k_ ≠ gb430 ∧ k_ ≠ gb442 ∧ k_ ≠ gb460 ∧ k_ ≠ gb470) (.slice Ao174 t461.length co174) t461) := ⟨vX HO463⟩
                            have n21_ : Aside0 (Kd.R (Kd.int .u8) 5 ((((w173.setCell ⟨gb470, 0, none⟩ (.slice Ao174 t461.length co174)).setCell ⟨gb470, 1, none⟩ (.bool t464)).setCell ⟨gb470, 2, none⟩ (.int .i64 t465)).setCell ⟨gb470, 3, none⟩ (.slice Ao184 t466.length co184)) w.heap.size (fun _ => True) (.slice Ao184 t466.length co184) t466) := ⟨by (with_reducible repeat (first | apply Kd.R_alloc | apply Kd.R_drewN | apply Kd.R_drew)); exact Kd.R_mono (Kd.R_far (p := ⟨gb470, 3, none⟩) (Kd.R_far (p := ⟨gb470, 2, none⟩) (Kd.R_far (p := ⟨gb470, 1, none⟩) (Kd.R_far (p := ⟨gb470, 0, none⟩) (Kd.R_types HO468.out BK470.out (by decide)) (fun _ hk => hk.2) (.slice Ao174 t461.length co174)) (fun _ hk => hk.2) (.bool t464)) (fun _ hk => hk.2) (.int .i64 t465)) (fun _ hk => hk.2) (.slice Ao184 t466.length co184)) (fun _ hk => trivial)⟩
                            have n22_ : Aside0 (((((w173.setCell ⟨gb470, 0, none⟩ (.slice Ao174 t461.length co174)).setCell ⟨gb470, 1, none⟩ (.bool t464)).setCell ⟨gb470, 2, none⟩ (.int .i64 t465)).setCell ⟨gb470, 3, none⟩ (.slice Ao184 t466.length co184)).heap[gb350]? = some (.cells #[.slice A0_0 l0_0.length c0_0, .bool a0_1, .int .i64 a0_2, .slice A0_3 l0_3.length c0_3] 36 (0, 0))) := ⟨kX BK350⟩
                            have n23_ : Aside0 (((((w173.setCell ⟨gb470, 0, none⟩ (.slice Ao174 t461.length co174)).setCell ⟨gb470, 1, none⟩ (.bool t464)).setCell ⟨gb470, 2, none⟩ (.int .i64 t465)).setCell ⟨gb470, 3, none⟩ (.slice Ao184 t466.length co184)).heap[gb370]? = some (.cells #[.slice Ao28 t361.length co28, .bool t364, .int .i64 t365, .slice Ao31 t366.length co31] 27 (0, 0))) := ⟨kX BK370⟩
                            have n24_ : Aside0 (((((w173.setCell ⟨gb470, 0, none⟩ (.slice Ao174 t461.length co174)).setCell ⟨gb470, 1, none⟩ (.bool t464)).setCell ⟨gb470, 2, none⟩ (.int .i64 t465)).setCell ⟨gb470, 3, none⟩ (.slice Ao184 t466.length co184)).heap[gb380]? = some (.cells #[.slice Ao36 t371.length co36, .bool t374, .int .i64 t375, .slice Ao40 t376.length co40] 36 (0, 0))) := ⟨kX BK380⟩
                            have n25_ : Aside0 (((((w173.setCell ⟨gb470, 0, none⟩ (.slice Ao174 t461.length co174)).setCell ⟨gb470, 1, none⟩ (.bool t464)).setCell ⟨gb470, 2, none⟩ (.int .i64 t465)).setCell ⟨gb470, 3, none⟩ (.slice Ao184 t466.length co184)).heap[gb398]? = some (.cells #[.slice Ao48 t389.length co48, .bool t392, .int .i64 t393, .slice Ao53 t394.length co53] 27 (0, 0))) := ⟨kX BK398⟩
                            have n26_ : Aside0 (((((w173.setCell ⟨gb470, 0, none⟩ (.slice Ao174 t461.length co174)).setCell ⟨gb470, 1, none⟩ (.bool t464)).setCell ⟨gb470, 2, none⟩ (.int .i64 t465)).setCell ⟨gb470, 3, none⟩ (.slice Ao184 t466.length co184)).heap[gb408]? = some (.cells #[.slice Ao58 t399.length co58, .bool t402, .int .i64 t403, .slice Ao64 t404.length co64] 36 (0, 0))) := ⟨kX BK408⟩
                            have n27_ : Aside0 (((((w173.setCell ⟨gb470, 0, none⟩ (.slice Ao174 t461.length co174)).setCell ⟨gb470, 1, none⟩ (.bool t464)).setCell ⟨gb470, 2, none⟩ (.int .i64 t465)).setCell ⟨gb470, 3, none⟩ (.slice Ao184 t466.length co184)).heap[gb430]? = some (.cells #[.slice Ao132 t419.length co132, .bool t422, .int .i64 t423, .slice Ao139 t424.length co139] 27 (0, 0))) := ⟨kX BK430⟩
                            have n28_ : Aside0 (((((w173.setCell ⟨gb470, 0, none⟩ (.slice Ao174 t461.length co174)).setCell ⟨gb470, 1, none⟩ (.bool t464)).setCell ⟨gb470, 2, none⟩ (.int .i64 t465)).setCell ⟨gb470, 3, none⟩ (.slice Ao184 t466.length co184)).heap[gb442]? = some (.cells #[.slice Ao144 t431.length co144, .bool t434, .int .i64 t435, .slice Ao152 t436.length co152] 36 (0, 0))) := ⟨kX BK442⟩
                            have n29_ : Aside0 (((((w173.setCell ⟨gb470, 0, none⟩ (.slice Ao174 t461.length co174)).setCell ⟨gb470, 1, none⟩ (.bool t464)).setCell ⟨gb470, 2, none⟩ (.int .i64 t465)).setCell ⟨gb470, 3, none⟩ (.slice Ao184 t466.length co184)).heap[gb460]? = some (.cells #[.slice Ao160 t451.length co160, .bool t454, .int .i64 t455, .slice Ao169 t456.length co169] 27 (0, 0))) := ⟨kX BK460⟩
                            have n30_ : Aside0 (((((w173.setCell ⟨gb470, 0, none⟩ (.slice Ao174 t461.length co174)).setCell ⟨gb470, 1, none⟩ (.bool t464)).setCell ⟨gb470, 2, none⟩ (.int .i64 t465)).setCell ⟨gb470, 3, none⟩ (.slice Ao184 t466.length co184)).heap[gb470]? = some (.cells #[.slice Ao174 t461.length co174, .bool t464, .int .i64 t465, .slice Ao184 t466.length co184] 36 (0, 0))) := ⟨by (with_reducible repeat (first | refine blk_drewN ?_ _ | refine blk_drew ?_ | refine blk_alloc ?_ _)); refine blk_put (cs := #[.slice Ao174 t461.length co174, .bool t464, .int .i64 t465, .slice none 0 0]) ?_ 3 _ rfl; (with_reducible repeat (first | refine blk_drewN ?_ _ | refine blk_drew ?_ | refine blk_alloc ?_ _)); refine blk_put (cs := #[.slice Ao174 t461.length co174, .bool t464, .int .i64 0, .slice none 0 0]) ?_ 2 _ rfl; (with_reducible repeat (first | refine blk_drewN ?_ _ | refine blk_drew ?_ | refine blk_alloc ?_ _)); refine blk_put (cs := #[.slice Ao174 t461.length co174, .bool false, .int .i64 0, .slice none 0 0]) ?_ 1 _ rfl; (with_reducible repeat (first | refine blk_drewN ?_ _ | refine blk_drew ?_ | refine blk_alloc ?_ _)); refine blk_put (cs := #[.slice none 0 0, .bool false, .int .i64 0, .slice none 0 0]) ?_ 0 _ rfl; (with_reducible repeat (first | refine blk_drewN ?_ _ | refine blk_drew ?_ | refine blk_alloc ?_ _)); exact BK470.out⟩
                            have n31_ : Aside0 (Below w.heap.size w ((((w173.setCell ⟨gb470, 0, none⟩ (.slice Ao174 t461.length co174)).setCell ⟨gb470, 1, none⟩ (.bool t464)).setCell ⟨gb470, 2, none⟩ (.int .i64 t465)).setCell ⟨gb470, 3, none⟩ (.slice Ao184 t466.length co184))) := ⟨bb HB⟩
                            (try clear HO_371000)
                            (try clear HO_371003)
                            (try clear HO_381000)
                            (try clear HO_381003)
                            (try clear HO_399000)
                            (try clear HO_399003)
                            (try clear HO_409000)
                            (try clear HO_409003)
                            (try clear HO413)
                            (try clear HO418)
                            (try clear HO421)
                            (try clear HO426)
                            (try clear HO429)
                            (try clear HO433)
                            (try clear HO438)
                            (try clear HO441)
                            (try clear HO445)
                            (try clear HO450)
                            (try clear HO453)
                            (try clear HO458)
                            (try clear HO463)
                            (try clear HO468)
                            (try clear BK350)
                            (try clear BK370)
                            (try clear BK380)
                            (try clear BK398)
                            (try clear BK408)
                            (try clear BK430)
                            (try clear BK442)
                            (try clear BK460)
                            (try clear BK470)
                            (try clear HB)
                            generalize ((((w173.setCell ⟨gb470, 0, none⟩ (.slice Ao174 t461.length co174)).setCell ⟨gb470, 1, none⟩ (.bool t464)).setCell ⟨gb470, 2, none⟩ (.int .i64 t465)).setCell ⟨gb470, 3, none⟩ (.slice Ao184 t466.length co184)) = w185 at n0_ n1_ n2_ n3_ n4_ n5_ n6_ n7_ n8_ n9_ n10_ n11_ n12_ n13_ n14_ n15_ n16_ n17_ n18_ n19_ n20_ n21_ n22_ n23_ n24_ n25_ n26_ n27_ n28_ n29_ n30_ n31_ ⊢
                            have HO_371000 := n0_
                            have HO_371003 := n1_
                            have HO_381000 := n2_
                            have HO_381003 := n3_
                            have HO_399000 := n4_
                            have HO_399003 := n5_
                            have HO_409000 := n6_
                            have HO_409003 := n7_
                            have HO413 := n8_
                            have HO418 := n9_
                            have HO421 := n10_
                            have HO426 := n11_
                            have HO429 := n12_
                            have HO433 := n13_
                            have HO438 := n14_
                            have HO441 := n15_
                            have HO445 := n16_
                            have HO450 := n17_
                            have HO453 := n18_
                            have HO458 := n19_
                            have HO463 := n20_
                            have HO468 := n21_
                            have BK350 := n22_
                            have BK370 := n23_
                            have BK380 := n24_
                            have BK398 := n25_
                            have BK408 := n26_
                            have BK430 := n27_
                            have BK442 := n28_
                            have BK460 := n29_
                            have BK470 := n30_
                            have HB := n31_
                            clear n0_ n1_ n2_ n3_ n4_ n5_ n6_ n7_ n8_ n9_ n10_ n11_ n12_ n13_ n14_ n15_ n16_ n17_ n18_ n19_ n20_ n21_ n22_ n23_ n24_ n25_ n26_ n27_ n28_ n29_ n30_ n31_
                            replace HO_371000 := Aside0.mk (Kd.V_drew HO_371000.out)
                            replace HO_371003 := Aside0.mk (Kd.V_drew HO_371003.out)
                            replace HO_381000 := Aside0.mk (Kd.V_drew HO_381000.out)
                            replace HO_381003 := Aside0.mk (Kd.V_drew HO_381003.out)
                            replace HO_399000 := Aside0.mk (Kd.V_drew HO_399000.out)
                            replace HO_399003 := Aside0.mk (Kd.V_drew HO_399003.out)
                            replace HO_409000 := Aside0.mk (Kd.V_drew HO_409000.out)
                            replace HO_409003 := Aside0.mk (Kd.V_drew HO_409003.out)
                            replace HO413 := Aside0.mk (Kd.V_drew HO413.out)
                            replace HO418 := Aside0.mk (Kd.V_drew HO418.out)
                            replace HO421 := Aside0.mk (Kd.V_drew HO421.out)
                            replace HO426 := Aside0.mk (Kd.V_drew HO426.out)
                            replace HO429 := Aside0.mk (Kd.V_drew HO429.out)
                            replace HO433 := Aside0.mk (Kd.V_drew HO433.out)
                            replace HO438 := Aside0.mk (Kd.V_drew HO438.out)
                            replace HO441 := Aside0.mk (Kd.V_drew HO441.out)
                            replace HO445 := Aside0.mk (Kd.V_drew HO445.out)
                            replace HO450 := Aside0.mk (Kd.V_drew HO450.out)
                            replace HO453 := Aside0.mk (Kd.V_drew HO453.out)
                            replace HO458 := Aside0.mk (Kd.V_drew HO458.out)
                            replace HO463 := Aside0.mk (Kd.V_drew HO463.out)
                            replace HO468 := Aside0.mk (Kd.R_drew HO468.out)
                            replace BK350 := Aside0.mk (blk_drew BK350.out)
                            replace BK370 := Aside0.mk (blk_drew BK370.out)
                            replace BK380 := Aside0.mk (blk_drew BK380.out)
                            replace BK398 := Aside0.mk (blk_drew BK398.out)
                            replace BK408 := Aside0.mk (blk_drew BK408.out)
                            replace BK430 := Aside0.mk (blk_drew BK430.out)
                            replace BK442 := Aside0.mk (blk_drew BK442.out)
                            replace BK460 := Aside0.mk (blk_drew BK460.out)
                            replace BK470 := Aside0.mk (blk_drew BK470.out)
                            replace HB := Aside0.mk (below_drew1 HB.out)
                            have hcv187 := v_string (P := Try.prog) Try.underlying25 Try.underlying5 Try.underlying9 HO429.out
                            have hcv188 := v_string (P := Try.prog) Try.underlying25 Try.underlying5 Try.underlying9 HO441.out
                            refine start_ (n := 48) (S := fun w' => (convert 25 9 v428).run Try.prog w' = .ok (.string (strOfNums t427)) w' ∧ (convert 25 9 v440).run Try.prog w' = .ok (.string (strOfNums t439)) w' ∧ w'.cell? ⟨gb430, 0, none⟩ = some (.slice Ao132 t419.length co132) ∧ w'.cell? ⟨gb430, 1, none⟩ = some (.bool t422) ∧ w'.cell? ⟨gb430, 2, none⟩ = some (.int .i64 t423) ∧ w'.cell? ⟨gb430, 3, none⟩ = some (.slice Ao139 t424.length co139) ∧ w'.cell? ⟨gb442, 0, none⟩ = some (.slice Ao144 t431.length co144) ∧ w'.cell? ⟨gb442, 1, none⟩ = some (.bool t434) ∧ w'.cell? ⟨gb442, 2, none⟩ = some (.int .i64 t435) ∧ w'.cell? ⟨gb442, 3, none⟩ = some (.slice Ao152 t436.length co152) ∧ w'.cell? ⟨gb460, 0, none⟩ = some (.slice Ao160 t451.length co160) ∧ w'.cell? ⟨gb460, 1, none⟩ = some (.bool t454) ∧ w'.cell? ⟨gb460, 2, none⟩ = some (.int .i64 t455) ∧ w'.cell? ⟨gb460, 3, none⟩ = some (.slice Ao169 t456.length co169) ∧ w'.cell? ⟨gb470, 0, none⟩ = some (.slice Ao174 t461.length co174) ∧ w'.cell? ⟨gb470, 1, none⟩ = some (.bool t464) ∧ w'.cell? ⟨gb470, 2, none⟩ = some (.int .i64 t465) ∧ w'.cell? ⟨gb470, 3, none⟩ = some (.slice Ao184 t466.length co184) ∧ w'.cell? ⟨gb350, 0, none⟩ = some (.slice A0_0 l0_0.length c0_0) ∧ w'.cell? ⟨gb350, 1, none⟩ = some (.bool a0_1) ∧ w'.cell? ⟨gb350, 2, none⟩ = some (.int .i64 a0_2) ∧ w'.cell? ⟨gb350, 3, none⟩ = some (.slice A0_3 l0_3.length c0_3)) (ds := []) #[false, false, false, false, false, false, false, false, false, false, false, false, false, false, false, false, false, false, false, false, false, false, false, false, false, false, false, false, false, false, false, false, false, false, false, false, false, false, false, false, false, false, false, false, false, false, false, false] (by kernel_rfl) rfl rfl ⟨hcv187, hcv188, cx BK430 0, cx BK430 1, cx BK430 2, cx BK430 3, cx BK442 0, cx BK442 1, cx BK442 2, cx BK442 3, cx BK460 0, cx BK460 1, cx BK460 2, cx BK460 3, cx BK470 0, cx BK470 1, cx BK470 2, cx BK470 3, cx BK350 0, cx BK350 1, cx BK350 2, cx BK350 3⟩ (fun hHeld => ?_); refine with_tabW pentroughlaw19_WireIs.tab14 pentroughlaw19_WireIs.bits14 (fun HT_ HW_ => ?_)
                            generalize w185.drew = w186 at HO_371000 HO_371003 HO_381000 HO_381003 HO_399000 HO_399003 HO_409000 HO_409003 HO413 HO418 HO421 HO426 HO429 HO433 HO438 HO441 HO445 HO450 HO453 HO458 HO463 HO468 BK350 BK370 BK380 BK398 BK408 BK430 BK442 BK460 BK470 HB hHeld ⊢
                            refine pure_ (i := 0) (N := some 106) (v := ?_) (a' := ?_) #[true, false, false, false, false, false, false, false, false, false, false, false, false, false, false, false, false, false, false, false, false, false, false, false, false, false, false, false, false, false, false, false, false, false, false, false, false, false, false, false, false, false, false, false, false, false, false, false] rfl rfl (any_of HT_.out (by kernel_rfl)) (fun _ _ _ h => h) (Or.inl ⟨by rfl, ?_⟩) ?_ ?_
                            rotate_left
                            · intro w'
                              go_simp
                              with_reducible rfl
                            rotate_left
                            · simp only [Act.put, List.setIfInBounds_toArray, List.set_cons_zero, List.set_cons_succ, i64_w, i32_w]
                              rfl
                            refine pure_ (i := 1) (N := some 107) (v := ?_) (a' := ?_) #[true, true, false, false, false, false, false, false, false, false, false, false, false, false, false, false, false, false, false, false, false, false, false, false, false, false, false, false, false, false, false, false, false, false, false, false, false, false, false, false, false, false, false, false, false, false, false, false] rfl rfl (any_of HT_.out (by kernel_rfl)) (fun _ _ _ h => h) (Or.inl ⟨by rfl, ?_⟩) ?_ ?_
                            rotate_left
                            · intro w'
                              go_simp
                              with_reducible rfl
                            rotate_left
                            · simp only [Act.put, List.setIfInBounds_toArray, List.set_cons_zero, List.set_cons_succ, i64_w, i32_w]
                              rfl
                            refine pure_ (i := 2) (N := some 108) (v := ?_) (a' := ?_) #[true, true, true, false, false, false, false, false, false, false, false, false, false, false, false, false, false, false, false, false, false, false, false, false, false, false, false, false, false, false, false, false, false, false, false, false, false, false, false, false, false, false, false, false, false, false, false, false] rfl rfl (any_of HT_.out (by kernel_rfl)) (fun _ _ _ h => h) (Or.inl ⟨by rfl, ?_⟩) ?_ ?_
                            rotate_left
                            · intro w'
                              go_simp
                              with_reducible rfl
                            rotate_left
                            · simp only [Act.put, List.setIfInBounds_toArray, List.set_cons_zero, List.set_cons_succ, i64_w, i32_w]
                              rfl
                            refine take_ (i := 3) (N := some 109) (v := ?_) (a' := ?_) #[true, true, true, true, false, false, false, false, false, false, false, false, false, false, false, false, false, false, false, false, false, false, false, false, false, false, false, false, false, false, false, false, false, false, false, false, false, false, false, false, false, false, false, false, false, false, false, false] rfl rfl (take_ofW HT_.out HW_.out (by kernel_rfl)) (fun _ _ _ h => h) (Or.inl ⟨by rfl, ?_⟩) hHeld ?_ ?_
                            rotate_left
                            · rintro w' ⟨sE1, sE2, _⟩
                              go_simp
                              with_reducible rfl
                            rotate_left
                            · simp only [Act.put, List.setIfInBounds_toArray, List.set_cons_zero, List.set_cons_succ, i64_w, i32_w]
                              rfl
                            refine pure_ (i := 4) (N := some 110) (v := ?_) (a' := ?_) #[true, true, true, true, true, false, false, false, false, false, false, false, false, false, false, false, false, false, false, false, false, false, false, false, false, false, false, false, false, false, false, false, false, false, false, false, false, false, false, false, false, false, false, false, false, false, false, false] rfl rfl (any_of HT_.out (by kernel_rfl)) (fun _ _ _ h => h) (Or.inl ⟨by rfl, ?_⟩) ?_ ?_
                            rotate_left
                            · intro w'
                              go_simp
                              with_reducible rfl
                            rotate_left
                            · simp only [Act.put, List.setIfInBounds_toArray, List.set_cons_zero, List.set_cons_succ, i64_w, i32_w]
                              rfl
                            refine take_ (i := 5) (N := some 111) (v := ?_) (a' := ?_) #[true, true, true, true, true, true, false, false, false, false, false, false, false, false, false, false, false, false, false, false, false, false, false, false, false, false, false, false, false, false, false, false, false, false, false, false, false, false, false, false, false, false, false, false, false, false, false, false] rfl rfl (take_ofW HT_.out HW_.out (by kernel_rfl)) (fun _ _ _ h => h) (Or.inl ⟨by rfl, ?_⟩) hHeld ?_ ?_
                            rotate_left
                            · rintro w' ⟨sE1, sE2, _⟩
                              go_simp
                              with_reducible rfl
                            rotate_left
                            · simp only [Act.put, List.setIfInBounds_toArray, List.set_cons_zero, List.set_cons_succ, i64_w, i32_w]
                              rfl
                            refine pure_ (i := 6) (N := some 112) (v := ?_) (a' := ?_) #[true, true, true, true, true, true, true, false, false, false, false, false, false, false, false, false, false, false, false, false, false, false, false, false, false, false, false, false, false, false, false, false, false, false, false, false, false, false, false, false, false, false, false, false, false, false, false, false] rfl rfl (any_of HT_.out (by kernel_rfl)) (fun _ _ _ h => h) (Or.inl ⟨by rfl, ?_⟩) ?_ ?_
                            rotate_left
                            · intro w'
                              go_simp
                              with_reducible rfl
                            rotate_left
                            · simp only [Act.put, List.setIfInBounds_toArray, List.set_cons_zero, List.set_cons_succ, i64_w, i32_w]
                              rfl
                            refine pure_ (i := 7) (N := some 113) (v := ?_) (a' := ?_) #[true, true, true, true, true, true, true, true, false, false, false, false, false, false, false, false, false, false, false, false, false, false, false, false, false, false, false, false, false, false, false, false, false, false, false, false, false, false, false, false, false, false, false, false, false, false, false, false] rfl rfl (any_of HT_.out (by kernel_rfl)) (fun _ _ _ h => h) (Or.inl ⟨by rfl, ?_⟩) ?_ ?_
                            rotate_left
                            · intro w'
                              go_simp
                              with_reducible rfl
                            rotate_left
                            · simp only [Act.put, List.setIfInBounds_toArray, List.set_cons_zero, List.set_cons_succ, i64_w, i32_w]
                              rfl
                            refine pure_ (i := 8) (N := some 114) (v := ?_) (a' := ?_) #[true, true, true, true, true, true, true, true, true, false, false, false, false, false, false, false, false, false, false, false, false, false, false, false, false, false, false, false, false, false, false, false, false, false, false, false, false, false, false, false, false, false, false, false, false, false, false, false] rfl rfl (any_of HT_.out (by kernel_rfl)) (fun _ _ _ h => h) (Or.inl ⟨by rfl, ?_⟩) ?_ ?_
                            rotate_left
                            · intro w'
                              go_simp
                              with_reducible rfl
                            rotate_left
                            · simp only [Act.put, List.setIfInBounds_toArray, List.set_cons_zero, List.set_cons_succ, i64_w, i32_w]
                              rfl
                            refine pure_ (i := 9) (N := some 115) (v := ?_) (a' := ?_) #[true, true, true, true, true, true, true, true, true, true, false, false, false, false, false, false, false, false, false, false, false, false, false, false, false, false, false, false, false, false, false, false, false, false, false, false, false, false, false, false, false, false, false, false, false, false, false, false] rfl rfl (any_of HT_.out (by kernel_rfl)) (fun _ _ _ h => h) (Or.inl ⟨by rfl, ?_⟩) ?_ ?_
                            rotate_left
                            · intro w'
                              go_simp
                              with_reducible rfl
                            rotate_left
                            · simp only [Act.put, List.setIfInBounds_toArray, List.set_cons_zero, List.set_cons_succ, i64_w, i32_w]
                              rfl
                            refine pure_ (i := 10) (N := some 116) (v := ?_) (a' := ?_) #[true, true, true, true, true, true, true, true, true, true, true, false, false, false, false, false, false, false, false, false, false, false, false, false, false, false, false, false, false, false, false, false, false, false, false, false, false, false, false, false, false, false, false, false, false, false, false, false] rfl rfl (any_of HT_.out (by kernel_rfl)) (fun _ _ _ h => h) (Or.inl ⟨by rfl, ?_⟩) ?_ ?_
                            rotate_left
                            · intro w'
                              go_simp
                              with_reducible rfl
                            rotate_left
                            · simp only [Act.put, List.setIfInBounds_toArray, List.set_cons_zero, List.set_cons_succ, i64_w, i32_w]
                              rfl
                            refine pure_ (i := 11) (N := some 117) (v := ?_) (a' := ?_) #[true, true, true, true, true, true, true, true, true, true, true, true, false, false, false, false, false, false, false, false, false, false, false, false, false, false, false, false, false, false, false, false, false, false, false, false, false, false, false, false, false, false, false, false, false, false, false, false] rfl rfl (any_of HT_.out (by kernel_rfl)) (fun _ _ _ h => h) (Or.inl ⟨by rfl, ?_⟩) ?_ ?_
                            rotate_left
                            · intro w'
                              go_simp
                              with_reducible rfl
                            rotate_left
                            · simp only [Act.put, List.setIfInBounds_toArray, List.set_cons_zero, List.set_cons_succ, i64_w, i32_w]
                              rfl
                            refine pure_ (i := 12) (N := some 118) (v := ?_) (a' := ?_) #[true, true, true, true, true, true, true, true, true, true, true, true, true, false, false, false, false, false, false, false, false, false, false, false, false, false, false, false, false, false, false, false, false, false, false, false, false, false, false, false, false, false, false, false, false, false, false, false] rfl rfl (any_of HT_.out (by kernel_rfl)) (fun _ _ _ h => h) (Or.inl ⟨by rfl, ?_⟩) ?_ ?_
                            rotate_left
                            · intro w'
                              go_simp
                              with_reducible rfl
                            rotate_left
                            · simp only [Act.put, List.setIfInBounds_toArray, List.set_cons_zero, List.set_cons_succ, i64_w, i32_w]
                              rfl
                            refine pure_ (i := 13) (N := some 119) (v := ?_) (a' := ?_) #[true, true, true, true, true, true, true, true, true, true, true, true, true, true, false, false, false, false, false, false, false, false, false, false, false, false, false, false, false, false, false, false, false, false, false, false, false, false, false, false, false, false, false, false, false, false, false, false] rfl rfl (any_of HT_.out (by kernel_rfl)) (fun _ _ _ h => h) (Or.inl ⟨by rfl, ?_⟩) ?_ ?_
                            rotate_left
                            · intro w'
                              go_simp
                              with_reducible rfl
                            rotate_left
                            · simp only [Act.put, List.setIfInBounds_toArray, List.set_cons_zero, List.set_cons_succ, i64_w, i32_w]
                              rfl
                            refine take_ (i := 14) (N := some 120) (v := ?_) (a' := ?_) #[true, true, true, true, true, true, true, true, true, true, true, true, true, true, true, false, false, false, false, false, false, false, false, false, false, false, false, false, false, false, false, false, false, false, false, false, false, false, false, false, false, false, false, false, false, false, false, false] rfl rfl (take_ofW HT_.out HW_.out (by kernel_rfl)) (fun _ _ _ h => h) (Or.inl ⟨by rfl, ?_⟩) hHeld ?_ ?_
                            rotate_left
                            · rintro w' ⟨sE1, sE2, s0, s1, s2, s3, s4, s5, s6, s7, s8, s9, s10, s11, s12, s13, s14, s15, s16, s17, s18, s19⟩
                              go_simp
                              with_reducible rfl
                            rotate_left
                            · simp only [Act.put, List.setIfInBounds_toArray, List.set_cons_zero, List.set_cons_succ, i64_w, i32_w]
                              rfl
                            refine take_ (i := 15) (N := some 121) (v := ?_) (a' := ?_) #[true, true, true, true, true, true, true, true, true, true, true, true, true, true, true, true, false, false, false, false, false, false, false, false, false, false, false, false, false, false, false, false, false, false, false, false, false, false, false, false, false, false, false, false, false, false, false, false] rfl rfl (take_ofW HT_.out HW_.out (by kernel_rfl)) (fun _ _ _ h => h) (Or.inl ⟨by rfl, ?_⟩) hHeld ?_ ?_
                            rotate_left
                            · rintro w' ⟨sE1, sE2, s0, s1, s2, s3, s4, s5, s6, s7, s8, s9, s10, s11, s12, s13, s14, s15, s16, s17, s18, s19⟩
                              go_simp
                              with_reducible rfl
                            rotate_left
                            · simp only [Act.put, List.setIfInBounds_toArray, List.set_cons_zero, List.set_cons_succ, i64_w, i32_w]
                              rfl
                            refine one_ (i := 16) (N := some 122) #[true, true, true, true, true, true, true, true, true, true, true, true, true, true, true, true, true, false, false, false, false, false, false, false, false, false, false, false, false, false, false, false, false, false, false, false, false, false, false, false, false, false, false, false, false, false, false, false] rfl rfl (one_of HT_.out (by kernel_rfl)) (by decide) (fun K hK => ?_)
                            refine gs Try.func20 (by kernel_rfl) rfl #[.agg #[.slice Ao132 t419.length co132, .bool t422, .int .i64 t423, .slice Ao139 t424.length co139], .agg #[.slice Ao144 t431.length co144, .bool t434, .int .i64 t435, .slice Ao152 t436.length co152]] (by rfl) rfl rfl ?_
                            with_reducible refine (pentroughlaw19_same.calls _ _ t419 t422 t423 _ _ t424 _ _ t431 t434 t435 _ _ t436 true _ ?side1 ?side2 ?side3 ?side4 ?side5 ?side6 ?side7 ?side8 A106.out).mono ?_
                            (case side1 => exact (Kd.V_reads' (vv HO421)).2.2)
                            (case side2 => exact (Kd.V_reads' HO421.out).2.1)
                            (case side3 => exact (Kd.V_reads' (vv HO426)).2.2)
                            (case side4 => exact (Kd.V_reads' HO426.out).2.1)
                            (case side5 => exact (Kd.V_reads' (vv HO433)).2.2)
                            (case side6 => exact (Kd.V_reads' HO433.out).2.1)
                            (case side7 => exact (Kd.V_reads' (vv HO438)).2.2)
                            (case side8 => exact (Kd.V_reads' HO438.out).2.1)
                            rintro e w190 ⟨rfl, hb⟩
                            refine ⟨_, rfl, ?_⟩
                            replace HO_371000 := vB HO_371000 hb
                            replace HO_371003 := vB HO_371003 hb
                            replace HO_381000 := vB HO_381000 hb
                            replace HO_381003 := vB HO_381003 hb
                            replace HO_399000 := vB HO_399000 hb
                            replace HO_399003 := vB HO_399003 hb
                            replace HO_409000 := vB HO_409000 hb
                            replace HO_409003 := vB HO_409003 hb
                            replace HO413 := vB HO413 hb
                            replace HO418 := vB HO418 hb
                            replace HO421 := vB HO421 hb
                            replace HO426 := vB HO426 hb
                            replace HO429 := vB HO429 hb
                            replace HO433 := vB HO433 hb
                            replace HO438 := vB HO438 hb
                            replace HO441 := vB HO441 hb
                            replace HO445 := vB HO445 hb
                            replace HO450 := vB HO450 hb
                            replace HO453 := vB HO453 hb
                            replace HO458 := vB HO458 hb
                            replace HO463 := vB HO463 hb
                            replace HO468 := Aside0.mk (Kd.R_below (by (with_reducible repeat (first | apply Kd.R_alloc | apply Kd.R_drewN | apply Kd.R_drew)); exact HO468.out) hb)
                            replace BK350 := kB BK350 hb
                            replace BK370 := kB BK370 hb
                            replace BK380 := kB BK380 hb
                            replace BK398 := kB BK398 hb
                            replace BK408 := kB BK408 hb
                            replace BK430 := kB BK430 hb
                            replace BK442 := kB BK442 hb
                            replace BK460 := kB BK460 hb
                            replace BK470 := kB BK470 hb
                            replace HB := hB HB hb
                            (try clear hb)
                            (try clear hb2)
                            (try clear hk)
                            (try clear hi)
                            refine hK.out _ _ ⟨v_string (P := Try.prog) Try.underlying25 Try.underlying5 Try.underlying9 HO429.out, v_string (P := Try.prog) Try.underlying25 Try.underlying5 Try.underlying9 HO441.out, cx BK430 0, cx BK430 1, cx BK430 2, cx BK430 3, cx BK442 0, cx BK442 1, cx BK442 2, cx BK442 3, cx BK460 0, cx BK460 1, cx BK460 2, cx BK460 3, cx BK470 0, cx BK470 1, cx BK470 2, cx BK470 3, cx BK350 0, cx BK350 1, cx BK350 2, cx BK350 3⟩ (fun hHeld => ?_)
                            clear hK K
                            refine norm_ (a' := ?_) ?_ ?_
                            rotate_left
                            · show Act.put _ (some 122) _ = _
                              simp only [Act.put, List.setIfInBounds_toArray, List.set_cons_zero, List.set_cons_succ, i64_w, i32_w]
                              rfl
                            refine pure_ (i := 17) (N := some 123) (v := ?_) (a' := ?_) #[true, true, true, true, true, true, true, true, true, true, true, true, true, true, true, true, true, true, false, false, false, false, false, false, false, false, false, false, false, false, false, false, false, false, false, false, false, false, false, false, false, false, false, false, false, false, false, false] rfl rfl (any_of HT_.out (by kernel_rfl)) (fun _ _ _ h => h) (Or.inl ⟨by rfl, ?_⟩) ?_ ?_
                            rotate_left
                            · intro w'
                              go_simp
                              with_reducible rfl
                            rotate_left
                            · simp only [Act.put, List.setIfInBounds_toArray, List.set_cons_zero, List.set_cons_succ, i64_w, i32_w]
                              rfl
                            refine pure_ (i := 18) (N := some 124) (v := ?_) (a' := ?_) #[true, true, true, true, true, true, true, true, true, true, true, true, true, true, true, true, true, true, true, false, false, false, false, false, false, false, false, false, false, false, false, false, false, false, false, false, false, false, false, false, false, false, false, false, false, false, false, false] rfl rfl (any_of HT_.out (by kernel_rfl)) (fun _ _ _ h => h) (Or.inl ⟨by rfl, ?_⟩) ?_ ?_
                            rotate_left
                            · intro w'
                              go_simp
                              with_reducible rfl
                            rotate_left
                            · simp only [Act.put, List.setIfInBounds_toArray, List.set_cons_zero, List.set_cons_succ, i64_w, i32_w]
                              rfl
                            refine take_ (i := 19) (N := some 125) (v := ?_) (a' := ?_) #[true, true, true, true, true, true, true, true, true, true, true, true, true, true, true, true, true, true, true, true, false, false, false, false, false, false, false, false, false, false, false, false, false, false, false, false, false, false, false, false, false, false, false, false, false, false, false, false] rfl rfl (take_ofW HT_.out HW_.out (by kernel_rfl)) (fun _ _ _ h => h) (Or.inl ⟨by rfl, ?_⟩) hHeld ?_ ?_
                            rotate_left
                            · rintro w' ⟨sE1, sE2, s0, s1, s2, s3, s4, s5, s6, s7, s8, s9, s10, s11, s12, s13, s14, s15, s16, s17, s18, s19⟩
                              go_simp
                              with_reducible rfl
                            rotate_left
                            · simp only [Act.put, List.setIfInBounds_toArray, List.set_cons_zero, List.set_cons_succ, i64_w, i32_w]
                              rfl
                            refine take_ (i := 20) (N := some 126) (v := ?_) (a' := ?_) #[true, true, true, true, true, true, true, true, true, true, true, true, true, true, true, true, true, true, true, true, true, false, false, false, false, false, false, false, false, false, false, false, false, false, false, false, false, false, false, false, false, false, false, false, false, false, false, false] rfl rfl (take_ofW HT_.out HW_.out (by kernel_rfl)) (fun _ _ _ h => h) (Or.inl ⟨by rfl, ?_⟩) hHeld ?_ ?_
                            rotate_left
                            · rintro w' ⟨sE1, sE2, s0, s1, s2, s3, s4, s5, s6, s7, s8, s9, s10, s11, s12, s13, s14, s15, s16, s17, s18, s19⟩
                              go_simp
                              with_reducible rfl
                            rotate_left
                            · simp only [Act.put, List.setIfInBounds_toArray, List.set_cons_zero, List.set_cons_succ, i64_w, i32_w]
                              rfl
                            refine one_ (i := 21) (N := some 127) #[true, true, true, true, true, true, true, true, true, true, true, true, true, true, true, true, true, true, true, true, true, true, false, false, false, false, false, false, false, false, false, false, false, false, false, false, false, false, false, false, false, false, false, false, false, false, false, false] rfl rfl (one_of HT_.out (by kernel_rfl)) (by decide) (fun K hK => ?_)
                            refine gs Try.func20 (by kernel_rfl) rfl #[.agg #[.slice Ao160 t451.length co160, .bool t454, .int .i64 t455, .slice Ao169 t456.length co169], .agg #[.slice Ao174 t461.length co174, .bool t464, .int .i64 t465, .slice Ao184 t466.length co184]] (by rfl) rfl rfl ?_
                            with_reducible refine (pentroughlaw19_same.calls _ _ t451 t454 t455 _ _ t456 _ _ t461 t464 t465 _ _ t466 true _ ?side1 ?side2 ?side3 ?side4 ?side5 ?side6 ?side7 ?side8 A108.out).mono ?_
                            (case side1 => exact (Kd.V_reads' (vv HO453)).2.2)
                            (case side2 => exact (Kd.V_reads' HO453.out).2.1)
                            (case side3 => exact (Kd.V_reads' (vv HO458)).2.2)
                            (case side4 => exact (Kd.V_reads' HO458.out).2.1)
                            (case side5 => exact (Kd.V_reads' (vv HO463)).2.2)
                            (case side6 => exact (Kd.V_reads' HO463.out).2.1)
                            (case side7 => repeat (first | exact (Kd.R_reads' HO468.out).2.2 | (with_reducible refine Kd.C_alloc ?_ _) | (with_reducible refine Kd.C_drewN ?_ _) | (with_reducible refine Kd.C_drew ?_)))
                            (case side8 => exact (Kd.R_reads' HO468.out).2.1)
                            rintro e w191 ⟨rfl, hb⟩
                            refine ⟨_, rfl, ?_⟩
                            replace HO_371000 := vB HO_371000 hb
                            replace HO_371003 := vB HO_371003 hb
                            replace HO_381000 := vB HO_381000 hb
                            replace HO_381003 := vB HO_381003 hb
                            replace HO_399000 := vB HO_399000 hb
                            replace HO_399003 := vB HO_399003 hb
                            replace HO_409000 := vB HO_409000 hb
                            replace HO_409003 := vB HO_409003 hb
                            replace HO413 := vB HO413 hb
                            replace HO418 := vB HO418 hb
                            replace HO421 := vB HO421 hb
                            replace HO426 := vB HO426 hb
                            replace HO429 := vB HO429 hb
                            replace HO433 := vB HO433 hb
                            replace HO438 := vB HO438 hb
                            replace HO441 := vB HO441 hb
                            replace HO445 := vB HO445 hb
                            replace HO450 := vB HO450 hb
                            replace HO453 := vB HO453 hb
                            replace HO458 := vB HO458 hb
                            replace HO463 := vB HO463 hb
                            replace HO468 := Aside0.mk (Kd.R_below (by (with_reducible repeat (first | apply Kd.R_alloc | apply Kd.R_drewN | apply Kd.R_drew)); exact HO468.out) hb)
                            replace BK350 := kB BK350 hb
                            replace BK370 := kB BK370 hb
                            replace BK380 := kB BK380 hb
                            replace BK398 := kB BK398 hb
                            replace BK408 := kB BK408 hb
                            replace BK430 := kB BK430 hb
                            replace BK442 := kB BK442 hb
                            replace BK460 := kB BK460 hb
                            replace BK470 := kB BK470 hb
                            replace HB := hB HB hb
                            (try clear hb)
                            (try clear hb2)
                            (try clear hk)
                            (try clear hi)
                            refine hK.out _ _ ⟨v_string (P := Try.prog) Try.underlying25 Try.underlying5 Try.underlying9 HO429.out, v_string (P := Try.prog) Try.underlying25 Try.underlying5 Try.underlying9 HO441.out, cx BK430 0, cx BK430 1, cx BK430 2, cx BK430 3, cx BK442 0, cx BK442 1, cx BK442 2, cx BK442 3, cx BK460 0, cx BK460 1, cx BK460 2, cx BK460 3, cx BK470 0, cx BK470 1, cx BK470 2, cx BK470 3, cx BK350 0, cx BK350 1, cx BK350 2, cx BK350 3⟩ (fun hHeld => ?_)
                            clear hK K
                            refine norm_ (a' := ?_) ?_ ?_
                            rotate_left
                            · show Act.put _ (some 127) _ = _
                              simp only [Act.put, List.setIfInBounds_toArray, List.set_cons_zero, List.set_cons_succ, i64_w, i32_w]
                              rfl
                            refine pure_ (i := 22) (N := some 128) (v := ?_) (a' := ?_) #[true, true, true, true, true, true, true, true, true, true, true, true, true, true, true, true, true, true, true, true, true, true, true, false, false, false, false, false, false, false, false, false, false, false, false, false, false, false, false, false, false, false, false, false, false, false, false, false] rfl rfl (any_of HT_.out (by kernel_rfl)) (fun _ _ _ h => h) (Or.inl ⟨by rfl, ?_⟩) ?_ ?_
                            rotate_left
                            · intro w'
                              go_simp
                              with_reducible rfl
                            rotate_left
                            · simp only [Act.put, List.setIfInBounds_toArray, List.set_cons_zero, List.set_cons_succ, i64_w, i32_w]
                              rfl
                            refine pure_ (i := 23) (N := some 129) (v := ?_) (a' := ?_) #[true, true, true, true, true, true, true, true, true, true, true, true, true, true, true, true, true, true, true, true, true, true, true, true, false, false, false, false, false, false, false, false, false, false, false, false, false, false, false, false, false, false, false, false, false, false, false, false] rfl rfl (any_of HT_.out (by kernel_rfl)) (fun _ _ _ h => h) (Or.inl ⟨by rfl, ?_⟩) ?_ ?_
                            rotate_left
                            · intro w'
                              go_simp
                              with_reducible rfl
                            rotate_left
                            · simp only [Act.put, List.setIfInBounds_toArray, List.set_cons_zero, List.set_cons_succ, i64_w, i32_w]
                              rfl
                            refine take_ (i := 24) (N := some 130) (v := ?_) (a' := ?_) #[true, true, true, true, true, true, true, true, true, true, true, true, true, true, true, true, true, true, true, true, true, true, true, true, true, false, false, false, false, false, false, false, false, false, false, false, false, false, false, false, false, false, false, false, false, false, false, false] rfl rfl (take_ofW HT_.out HW_.out (by kernel_rfl)) (fun _ _ _ h => h) (Or.inl ⟨by rfl, ?_⟩) hHeld ?_ ?_
                            rotate_left
                            · rintro w' ⟨sE1, sE2, s0, s1, s2, s3, s4, s5, s6, s7, s8, s9, s10, s11, s12, s13, s14, s15, s16, s17, s18, s19⟩
                              go_simp
                              with_reducible rfl
                            rotate_left
                            · simp only [Act.put, List.setIfInBounds_toArray, List.set_cons_zero, List.set_cons_succ, i64_w, i32_w]
                              rfl
                            refine take_ (i := 27) (N := some 133) (v := ?_) (a' := ?_) #[true, true, true, true, true, true, true, true, true, true, true, true, true, true, true, true, true, true, true, true, true, true, true, true, true, false, false, true, false, false, false, false, false, false, false, false, false, false, false, false, false, false, false, false, false, false, false, false] rfl rfl (take_ofW HT_.out HW_.out (by kernel_rfl)) (fun _ _ _ h => h) (Or.inl ⟨by rfl, ?_⟩) hHeld ?_ ?_
                            rotate_left
                            · rintro w' ⟨sE1, sE2, s0, s1, s2, s3, s4, s5, s6, s7, s8, s9, s10, s11, s12, s13, s14, s15, s16, s17, s18, s19⟩
                              go_simp
                              with_reducible rfl
                            rotate_left
                            · simp only [Act.put, List.setIfInBounds_toArray, List.set_cons_zero, List.set_cons_succ, i64_w, i32_w]
                              rfl
                            refine one_ (i := 25) (N := some 131) #[true, true, true, true, true, true, true, true, true, true, true, true, true, true, true, true, true, true, true, true, true, true, true, true, true, true, false, true, false, false, false, false, false, false, false, false, false, false, false, false, false, false, false, false, false, false, false, false] rfl rfl (one_of HT_.out (by kernel_rfl)) (by decide) (fun K hK => ?_)
                            refine gs Try.func16 (by kernel_rfl) rfl #[.agg #[.slice A0_0 l0_0.length c0_0, .bool a0_1, .int .i64 a0_2, .slice A0_3 l0_3.length c0_3]] (by rfl) rfl rfl ?_
                            with_reducible refine (pentroughlaw19_ours.calls (fun k_ => k_ < w.heap.size) _ _ l0_0 a0_1 a0_2 (fun k_ => k_ < w.heap.size) _ _ l0_3 t473 t476 t477 t478 _ ?side1 ?side2 A110.out).mono ?_
                            (case side1 => exact Kd.V_mk HC0_0.out (Kd.F_below (Kd.C_F (Kd.heap_int .u8) HR0_0.out) (bb HB)))
                            (case side2 => exact Kd.V_mk HC0_3.out (Kd.F_below (Kd.C_F (Kd.heap_int .u8) HR0_3.out) (bb HB)))
                            rintro e w192 ⟨v474, v479, rfl, ho0, ho1, hb⟩
                            refine ⟨_, rfl, ?_⟩
                            replace HO_371000 := vB HO_371000 hb
                            replace HO_371003 := vB HO_371003 hb
                            replace HO_381000 := vB HO_381000 hb
                            replace HO_381003 := vB HO_381003 hb
                            replace HO_399000 := vB HO_399000 hb
                            replace HO_399003 := vB HO_399003 hb
                            replace HO_409000 := vB HO_409000 hb
                            replace HO_409003 := vB HO_409003 hb
                            replace HO413 := vB HO413 hb
                            replace HO418 := vB HO418 hb
                            replace HO421 := vB HO421 hb
                            replace HO426 := vB HO426 hb
                            replace HO429 := vB HO429 hb
                            replace HO433 := vB HO433 hb
                            replace HO438 := vB HO438 hb
                            replace HO441 := vB HO441 hb
                            replace HO445 := vB HO445 hb
                            replace HO450 := vB HO450 hb
                            replace HO453 := vB HO453 hb
                            replace HO458 := vB HO458 hb
                            replace HO463 := vB HO463 hb
                            have HO475 := Aside0.mk (Kd.V_lower (Kd.V_mono (ok' := fun k_ => some k_ ≠ (.slice Ao184 t466.length co184 : Value).ownBlock ∧ k_ ≠ gb350 ∧ k_ ≠ gb370 ∧ k_ ≠ gb380 ∧ k_ ≠ gb398 ∧ k_ ≠ gb408 ∧ k_ ≠ gb430 ∧ k_ ≠ gb442 ∧ k_ ≠ gb460 ∧ k_ ≠ gb470) ho0 (fun k_ hk_ => ⟨Or.elim hk_ (fun hs_ => Or.elim hs_ (fun hs_ => fun e_ => Nat.not_le.2 hs_ (Kd.R_base HO468.out k_ e_.symm)) (fun hs_ => fun e_ => Nat.not_le.2 hs_ (Kd.R_base HO468.out k_ e_.symm))) (fun hn_ => (Kd.fresh' (Kd.R_lt (by (with_reducible repeat (first | apply Kd.R_alloc | apply Kd.R_drewN | apply Kd.R_drew)); exact HO468.out)) k_ hn_)), oe hk_ (gw GW350) (gw GW350) (Kd.freshB (kk BK350) k_), oe hk_ (gw GW370) (gw GW370) (Kd.freshB (kk BK370) k_), oe hk_ (gw GW380) (gw GW380) (Kd.freshB (kk BK380) k_), oe hk_ (gw GW398) (gw GW398) (Kd.freshB (kk BK398) k_), oe hk_ (gw GW408) (gw GW408) (Kd.freshB (kk BK408) k_), oe hk_ (gw GW430) (gw GW430) (Kd.freshB (kk BK430) k_), oe hk_ (gw GW442) (gw GW442) (Kd.freshB (kk BK442) k_), oe hk_ (gw GW460) (gw GW460) (Kd.freshB (kk BK460) k_), oe hk_ (gw GW470) (gw GW470) (Kd.freshB (kk BK470) k_)⟩)) (below_size (bb HB)))
                            have HO480 := Aside0.mk (Kd.V_lower (Kd.V_mono (ok' := fun k_ => some k_ ≠ (.slice Ao184 t466.length co184 : Value).ownBlock ∧ k_ ≠ gb350 ∧ k_ ≠ gb370 ∧ k_ ≠ gb380 ∧ k_ ≠ gb398 ∧ k_ ≠ gb408 ∧ k_ ≠ gb430 ∧ k_ ≠ gb442 ∧ k_ ≠ gb460 ∧ k_ ≠ gb470) ho1 (fun k_ hk_ => ⟨Or.elim hk_ (fun hs_ => Or.elim hs_ (fun hs_ => fun e_ => Nat.not_le.2 hs_ (Kd.R_base HO468.out k_ e_.symm)) (fun hs_ => fun e_ => Nat.not_le.2 hs_ (Kd.R_base HO468.out k_ e_.symm))) (fun hn_ => (Kd.fresh' (Kd.R_lt (by (with_reducible repeat (first | apply Kd.R_alloc | apply Kd.R_drewN | apply Kd.R_drew)); exact HO468.out)) k_ hn_)), oe hk_ (gw GW350) (gw GW350) (Kd.freshB (kk BK350) k_), oe hk_ (gw GW370) (gw GW370) (Kd.freshB (kk BK370) k_), oe hk_ (gw GW380) (gw GW380) (Kd.freshB (kk BK380) k_), oe hk_ (gw GW398) (gw GW398) (Kd.freshB (kk BK398) k_), oe hk_ (gw GW408) (gw GW408) (Kd.freshB (kk BK408) k_), oe hk_ (gw GW430) (gw GW430) (Kd.freshB (kk BK430) k_), oe hk_ (gw GW442) (gw GW442) (Kd.freshB (kk BK442) k_), oe hk_ (gw GW460) (gw GW460) (Kd.freshB (kk BK460) k_), oe hk_ (gw GW470) (gw GW470) (Kd.freshB (kk BK470) k_)⟩)) (below_size (bb HB)))
                            replace HO468 := Aside0.mk (Kd.R_below (by (with_reducible repeat (first | apply Kd.R_alloc | apply Kd.R_drewN | apply Kd.R_drew)); exact HO468.out) hb)
                            replace BK350 := kB BK350 hb
                            replace BK370 := kB BK370 hb
                            replace BK380 := kB BK380 hb
                            replace BK398 := kB BK398 hb
                            replace BK408 := kB BK408 hb
                            replace BK430 := kB BK430 hb
                            replace BK442 := kB BK442 hb
                            replace BK460 := kB BK460 hb
                            replace BK470 := kB BK470 hb
                            replace HB := hB HB hb
                            (try clear hb)
                            (try clear hb2)
                            (try clear hk)
                            (try clear hi)
                            (try clear ho0)
                            (try clear ho1)
                            obtain ⟨Ao193, co193, eo193⟩ := Kd.V_slice HO475.out
                            (first | subst eo193 | (injection eo193 with f1_ f2_ f3_; have f4_ := f1_.symm; have f5_ := f3_.symm; clear f1_ f2_ f3_; subst f4_; subst f5_))
                            obtain ⟨Ao194, co194, eo194⟩ := Kd.V_slice HO480.out
                            (first | subst eo194 | (injection eo194 with f1_ f2_ f3_; have f4_ := f1_.symm; have f5_ := f3_.symm; clear f1_ f2_ f3_; subst f4_; subst f5_))
                            refine hK.out _ _ ⟨v_string (P := Try.prog) Try.underlying25 Try.underlying5 Try.underlying9 HO429.out, v_string (P := Try.prog) Try.underlying25 Try.underlying5 Try.underlying9 HO441.out, cx BK430 0, cx BK430 1, cx BK430 2, cx BK430 3, cx BK442 0, cx BK442 1, cx BK442 2, cx BK442 3, cx BK460 0, cx BK460 1, cx BK460 2, cx BK460 3, cx BK470 0, cx BK470 1, cx BK470 2, cx BK470 3, cx BK350 0, cx BK350 1, cx BK350 2, cx BK350 3⟩ (fun hHeld => ?_)
                            clear hK K
                            refine norm_ (a' := ?_) ?_ ?_
                            rotate_left
                            · show Act.put _ (some 131) _ = _
                              simp only [Act.put, List.setIfInBounds_toArray, List.set_cons_zero, List.set_cons_succ, i64_w, i32_w]
                              rfl
                            refine one_ (i := 26) (N := some 132) #[true, true, true, true, true, true, true, true, true, true, true, true, true, true, true, true, true, true, true, true, true, true, true, true, true, true, true, true, false, false, false, false, false, false, false, false, false, false, false, false, false, false, false, false, false, false, false, false] rfl rfl (one_of HT_.out (by kernel_rfl)) (by decide) (fun K hK => ?_)
                            refine gs Try.func15 (by kernel_rfl) rfl #[.agg #[.slice Ao193 t473.length co193, .bool t476, .int .i64 t477, .slice Ao194 t478.length co194]] (by rfl) rfl rfl ?_
                            with_reducible refine (wire_Sane.calls _ _ t473 t476 t477 _ _ t478 t481 _ ?side1 ?side2 ?side3 ?side4 A111.out).mono ?_
                            (case side1 => exact (Kd.V_reads' (vv HO475)).2.2)
                            (case side2 => exact (Kd.V_reads' HO475.out).2.1)
                            (case side3 => exact (Kd.V_reads' (vv HO480)).2.2)
                            (case side4 => exact (Kd.V_reads' HO480.out).2.1)
                            rintro e w195 ⟨rfl, hb⟩
                            refine ⟨_, rfl, ?_⟩
                            replace HO_371000 := vB HO_371000 hb
                            replace HO_371003 := vB HO_371003 hb
                            replace HO_381000 := vB HO_381000 hb
                            replace HO_381003 := vB HO_381003 hb
                            replace HO_399000 := vB HO_399000 hb
                            replace HO_399003 := vB HO_399003 hb
                            replace HO_409000 := vB HO_409000 hb
                            replace HO_409003 := vB HO_409003 hb
                            replace HO413 := vB HO413 hb
                            replace HO418 := vB HO418 hb
                            replace HO421 := vB HO421 hb
                            replace HO426 := vB HO426 hb
                            replace HO429 := vB HO429 hb
                            replace HO433 := vB HO433 hb
                            replace HO438 := vB HO438 hb
                            replace HO441 := vB HO441 hb
                            replace HO445 := vB HO445 hb
                            replace HO450 := vB HO450 hb
                            replace HO453 := vB HO453 hb
                            replace HO458 := vB HO458 hb
                            replace HO463 := vB HO463 hb
                            replace HO468 := Aside0.mk (Kd.R_below (by (with_reducible repeat (first | apply Kd.R_alloc | apply Kd.R_drewN | apply Kd.R_drew)); exact HO468.out) hb)
                            replace HO475 := vB HO475 hb
                            replace HO480 := vB HO480 hb
                            replace BK350 := kB BK350 hb
                            replace BK370 := kB BK370 hb
                            replace BK380 := kB BK380 hb
                            replace BK398 := kB BK398 hb
                            replace BK408 := kB BK408 hb
                            replace BK430 := kB BK430 hb
                            replace BK442 := kB BK442 hb
                            replace BK460 := kB BK460 hb
                            replace BK470 := kB BK470 hb
                            replace HB := hB HB hb
                            (try clear hb)
                            (try clear hb2)
                            (try clear hk)
                            (try clear hi)
                            refine hK.out _ _ ⟨v_string (P := Try.prog) Try.underlying25 Try.underlying5 Try.underlying9 HO429.out, v_string (P := Try.prog) Try.underlying25 Try.underlying5 Try.underlying9 HO441.out, cx BK430 0, cx BK430 1, cx BK430 2, cx BK430 3, cx BK442 0, cx BK442 1, cx BK442 2, cx BK442 3, cx BK460 0, cx BK460 1, cx BK460 2, cx BK460 3, cx BK470 0, cx BK470 1, cx BK470 2, cx BK470 3, cx BK350 0, cx BK350 1, cx BK350 2, cx BK350 3⟩ (fun hHeld => ?_)
                            clear hK K
                            refine norm_ (a' := ?_) ?_ ?_
                            rotate_left
                            · show Act.put _ (some 132) _ = _
                              simp only [Act.put, List.setIfInBounds_toArray, List.set_cons_zero, List.set_cons_succ, i64_w, i32_w]
                              rfl
                            refine one_ (i := 28) (N := some 134) #[true, true, true, true, true, true, true, true, true, true, true, true, true, true, true, true, true, true, true, true, true, true, true, true, true, true, true, true, true, false, false, false, false, false, false, false, false, false, false, false, false, false, false, false, false, false, false, false] rfl rfl (one_of HT_.out (by kernel_rfl)) (by decide) (fun K hK => ?_)
                            refine gs Try.func23 (by kernel_rfl) rfl #[.agg #[.slice A0_0 l0_0.length c0_0, .bool a0_1, .int .i64 a0_2, .slice A0_3 l0_3.length c0_3]] (by rfl) rfl rfl ?_
                            with_reducible refine (pentroughref19_Sane.calls _ _ l0_0 a0_1 a0_2 _ _ l0_3 t482 _ ?side1 ?side2 ?side3 ?side4 A112.out).mono ?_
                            (case side1 => exact Kd.C_below HR0_0.out (bb HB))
                            (case side2 => exact HC0_0.out)
                            (case side3 => exact Kd.C_below HR0_3.out (bb HB))
                            (case side4 => exact HC0_3.out)
                            rintro e w196 ⟨rfl, hb⟩
                            refine ⟨_, rfl, ?_⟩
                            replace HO_371000 := vB HO_371000 hb
                            replace HO_371003 := vB HO_371003 hb
                            replace HO_381000 := vB HO_381000 hb
                            replace HO_381003 := vB HO_381003 hb
                            replace HO_399000 := vB HO_399000 hb
                            replace HO_399003 := vB HO_399003 hb
                            replace HO_409000 := vB HO_409000 hb
                            replace HO_409003 := vB HO_409003 hb
                            replace HO413 := vB HO413 hb
                            replace HO418 := vB HO418 hb
                            replace HO421 := vB HO421 hb
                            replace HO426 := vB HO426 hb
                            replace HO429 := vB HO429 hb
                            replace HO433 := vB HO433 hb
                            replace HO438 := vB HO438 hb
                            replace HO441 := vB HO441 hb
                            replace HO445 := vB HO445 hb
                            replace HO450 := vB HO450 hb
                            replace HO453 := vB HO453 hb
                            replace HO458 := vB HO458 hb
                            replace HO463 := vB HO463 hb
                            replace HO468 := Aside0.mk (Kd.R_below (by (with_reducible repeat (first | apply Kd.R_alloc | apply Kd.R_drewN | apply Kd.R_drew)); exact HO468.out) hb)
                            replace HO475 := vB HO475 hb
                            replace HO480 := vB HO480 hb
                            replace BK350 := kB BK350 hb
                            replace BK370 := kB BK370 hb
                            replace BK380 := kB BK380 hb
                            replace BK398 := kB BK398 hb
                            replace BK408 := kB BK408 hb
                            replace BK430 := kB BK430 hb
                            replace BK442 := kB BK442 hb
                            replace BK460 := kB BK460 hb
                            replace BK470 := kB BK470 hb
                            replace HB := hB HB hb
                            (try clear hb)
                            (try clear hb2)
                            (try clear hk)
                            (try clear hi)
                            refine hK.out _ _ ⟨v_string (P := Try.prog) Try.underlying25 Try.underlying5 Try.underlying9 HO429.out, v_string (P := Try.prog) Try.underlying25 Try.underlying5 Try.underlying9 HO441.out, cx BK430 0, cx BK430 1, cx BK430 2, cx BK430 3, cx BK442 0, cx BK442 1, cx BK442 2, cx BK442 3, cx BK460 0, cx BK460 1, cx BK460 2, cx BK460 3, cx BK470 0, cx BK470 1, cx BK470 2, cx BK470 3, cx BK350 0, cx BK350 1, cx BK350 2, cx BK350 3⟩ (fun hHeld => ?_)
                            clear hK K
                            refine norm_ (a' := ?_) ?_ ?_
                            rotate_left
                            · show Act.put _ (some 134) _ = _
                              simp only [Act.put, List.setIfInBounds_toArray, List.set_cons_zero, List.set_cons_succ, i64_w, i32_w]
                              rfl
                            refine pure_ (i := 29) (N := some 135) (v := ?_) (a' := ?_) #[true, true, true, true, true, true, true, true, true, true, true, true, true, true, true, true, true, true, true, true, true, true, true, true, true, true, true, true, true, true, false, false, false, false, false, false, false, false, false, false, false, false, false, false, false, false, false, false] rfl rfl (any_of HT_.out (by kernel_rfl)) (fun _ _ _ h => h) (Or.inl ⟨by rfl, ?_⟩) ?_ ?_
                            rotate_left
                            · intro w'
                              go_simp
                              with_reducible rfl
                            rotate_left
                            · simp only [Act.put, List.setIfInBounds_toArray, List.set_cons_zero, List.set_cons_succ, i64_w, i32_w]
                              rfl
                            refine pure_ (i := 30) (N := some 136) (v := ?_) (a' := ?_) #[true, true, true, true, true, true, true, true, true, true, true, true, true, true, true, true, true, true, true, true, true, true, true, true, true, true, true, true, true, true, true, false, false, false, false, false, false, false, false, false, false, false, false, false, false, false, false, false] rfl rfl (any_of HT_.out (by kernel_rfl)) (fun _ _ _ h => h) (Or.inl ⟨by rfl, ?_⟩) ?_ ?_
                            rotate_left
                            · intro w'
                              go_simp
                              with_reducible rfl
                            rotate_left
                            · simp only [Act.put, List.setIfInBounds_toArray, List.set_cons_zero, List.set_cons_succ, i64_w, i32_w]
                              rfl
                            refine pure_ (i := 31) (N := some 137) (v := ?_) (a' := ?_) #[true, true, true, true, true, true, true, true, true, true, true, true, true, true, true, true, true, true, true, true, true, true, true, true, true, true, true, true, true, true, true, true, false, false, false, false, false, false, false, false, false, false, false, false, false, false, false, false] rfl rfl (any_of HT_.out (by kernel_rfl)) (fun _ _ _ h => h) (Or.inl ⟨by rfl, ?_⟩) ?_ ?_
                            rotate_left
                            · intro w'
                              go_simp
                              with_reducible rfl
                            rotate_left
                            · simp only [Act.put, List.setIfInBounds_toArray, List.set_cons_zero, List.set_cons_succ, i64_w, i32_w]
                              rfl
                            refine take_ (i := 32) (N := some 138) (v := ?_) (a' := ?_) #[true, true, true, true, true, true, true, true, true, true, true, true, true, true, true, true, true, true, true, true, true, true, true, true, true, true, true, true, true, true, true, true, true, false, false, false, false, false, false, false, false, false, false, false, false, false, false, false] rfl rfl (take_ofW HT_.out HW_.out (by kernel_rfl)) (fun _ _ _ h => h) (Or.inl ⟨by rfl, ?_⟩) hHeld ?_ ?_
                            rotate_left
                            · rintro w' ⟨sE1, sE2, s0, s1, s2, s3, s4, s5, s6, s7, s8, s9, s10, s11, s12, s13, s14, s15, s16, s17, s18, s19⟩
                              go_simp
                              with_reducible rfl
                            rotate_left
                            · simp only [Act.put, List.setIfInBounds_toArray, List.set_cons_zero, List.set_cons_succ, i64_w, i32_w]
                              rfl
                            refine take_ (i := 35) (N := some 141) (v := ?_) (a' := ?_) #[true, true, true, true, true, true, true, true, true, true, true, true, true, true, true, true, true, true, true, true, true, true, true, true, true, true, true, true, true, true, true, true, true, false, false, true, false, false, false, false, false, false, false, false, false, false, false, false] rfl rfl (take_ofW HT_.out HW_.out (by kernel_rfl)) (fun _ _ _ h => h) (Or.inl ⟨by rfl, ?_⟩) hHeld ?_ ?_
                            rotate_left
                            · rintro w' ⟨sE1, sE2, s0, s1, s2, s3, s4, s5, s6, s7, s8, s9, s10, s11, s12, s13, s14, s15, s16, s17, s18, s19⟩
                              go_simp
                              with_reducible rfl
                            rotate_left
                            · simp only [Act.put, List.setIfInBounds_toArray, List.set_cons_zero, List.set_cons_succ, i64_w, i32_w]
                              rfl
                            refine one_ (i := 33) (N := some 139) #[true, true, true, true, true, true, true, true, true, true, true, true, true, true, true, true, true, true, true, true, true, true, true, true, true, true, true, true, true, true, true, true, true, true, false, true, false, false, false, false, false, false, false, false, false, false, false, false] rfl rfl (one_of HT_.out (by kernel_rfl)) (by decide) (fun K hK => ?_)
                            refine gs Try.func16 (by kernel_rfl) rfl #[.agg #[.slice A0_0 l0_0.length c0_0, .bool a0_1, .int .i64 a0_2, .slice A0_3 l0_3.length c0_3]] (by rfl) rfl rfl ?_
                            with_reducible refine (pentroughlaw19_ours.calls (fun k_ => k_ < w.heap.size) _ _ l0_0 a0_1 a0_2 (fun k_ => k_ < w.heap.size) _ _ l0_3 t483 t486 t487 t488 _ ?side1 ?side2 A114.out).mono ?_
                            (case side1 => exact Kd.V_mk HC0_0.out (Kd.F_below (Kd.C_F (Kd.heap_int .u8) HR0_0.out) (bb HB)))
                            (case side2 => exact Kd.V_mk HC0_3.out (Kd.F_below (Kd.C_F (Kd.heap_int .u8) HR0_3.out) (bb HB)))
                            rintro e w197 ⟨v484, v489, rfl, ho0, ho1, hb⟩
                            refine ⟨_, rfl, ?_⟩
                            replace HO_371000 := vB HO_371000 hb
                            replace HO_371003 := vB HO_371003 hb
                            replace HO_381000 := vB HO_381000 hb
                            replace HO_381003 := vB HO_381003 hb
                            replace HO_399000 := vB HO_399000 hb
                            replace HO_399003 := vB HO_399003 hb
                            replace HO_409000 := vB HO_409000 hb
                            replace HO_409003 := vB HO_409003 hb
                            replace HO413 := vB HO413 hb
                            replace HO418 := vB HO418 hb
                            replace HO421 := vB HO421 hb
                            replace HO426 := vB HO426 hb
                            replace HO429 := vB HO429 hb
                            replace HO433 := vB HO433 hb
                            replace HO438 := vB HO438 hb
                            replace HO441 := vB HO441 hb
                            replace HO445 := vB HO445 hb
                            replace HO450 := vB HO450 hb
                            replace HO453 := vB HO453 hb
                            replace HO458 := vB HO458 hb
                            replace HO463 := vB HO463 hb
                            replace HO475 := vB HO475 hb
                            replace HO480 := vB HO480 hb
                            have HO485 := Aside0.mk (Kd.V_lower (Kd.V_mono (ok' := fun k_ => some k_ ≠ (.slice Ao184 t466.length co184 : Value).ownBlock ∧ k_ ≠ gb350 ∧ k_ ≠ gb370 ∧ k_ ≠ gb380 ∧ k_ ≠ gb398 ∧ k_ ≠ gb408 ∧ k_ ≠ gb430 ∧ k_ ≠ gb442 ∧ k_ ≠ gb460 ∧ k_ ≠ gb470) ho0 (fun k_ hk_ => ⟨Or.elim hk_ (fun hs_ => Or.elim hs_ (fun hs_ => fun e_ => Nat.not_le.2 hs_ (Kd.R_base HO468.out k_ e_.symm)) (fun hs_ => fun e_ => Nat.not_le.2 hs_ (Kd.R_base HO468.out k_ e_.symm))) (fun hn_ => (Kd.fresh' (Kd.R_lt (by (with_reducible repeat (first | apply Kd.R_alloc | apply Kd.R_drewN | apply Kd.R_drew)); exact HO468.out)) k_ hn_)), oe hk_ (gw GW350) (gw GW350) (Kd.freshB (kk BK350) k_), oe hk_ (gw GW370) (gw GW370) (Kd.freshB (kk BK370) k_), oe hk_ (gw GW380) (gw GW380) (Kd.freshB (kk BK380) k_), oe hk_ (gw GW398) (gw GW398) (Kd.freshB (kk BK398) k_), oe hk_ (gw GW408) (gw GW408) (Kd.freshB (kk BK408) k_), oe hk_ (gw GW430) (gw GW430) (Kd.freshB (kk BK430) k_), oe hk_ (gw GW442) (gw GW442) (Kd.freshB (kk BK442) k_), oe hk_ (gw GW460) (gw GW460) (Kd.freshB (kk BK460) k_), oe hk_ (gw GW470) (gw GW470) (Kd.freshB (kk BK470) k_)⟩)) (below_size (bb HB)))
                            have HO490 := Aside0.mk (Kd.V_lower (Kd.V_mono (ok' := fun k_ => some k_ ≠ (.slice Ao184 t466.length co184 : Value).ownBlock ∧ k_ ≠ gb350 ∧ k_ ≠ gb370 ∧ k_ ≠ gb380 ∧ k_ ≠ gb398 ∧ k_ ≠ gb408 ∧ k_ ≠ gb430 ∧ k_ ≠ gb442 ∧ k_ ≠ gb460 ∧ k_ ≠ gb470) ho1 (fun k_ hk_ => ⟨Or.elim hk_ (fun hs_ => Or.elim hs_ (fun hs_ => fun e_ => Nat.not_le.2 hs_ (Kd.R_base HO468.out k_ e_.symm)) (fun hs_ => fun e_ => Nat.not_le.2 hs_ (Kd.R_base HO468.out k_ e_.symm))) (fun hn_ => (Kd.fresh' (Kd.R_lt (by (with_reducible repeat (first | apply Kd.R_alloc | apply Kd.R_drewN | apply Kd.R_drew)); exact HO468.out)) k_ hn_)), oe hk_ (gw GW350) (gw GW350) (Kd.freshB (kk BK350) k_), oe hk_ (gw GW370) (gw GW370) (Kd.freshB (kk BK370) k_), oe hk_ (gw GW380) (gw GW380) (Kd.freshB (kk BK380) k_), oe hk_ (gw GW398) (gw GW398) (Kd.freshB (kk BK398) k_), oe hk_ (gw GW408) (gw GW408) (Kd.freshB (kk BK408) k_), oe hk_ (gw GW430) (gw GW430) (Kd.freshB (kk BK430) k_), oe hk_ (gw GW442) (gw GW442) (Kd.freshB (kk BK442) k_), oe hk_ (gw GW460) (gw GW460) (Kd.freshB (kk BK460) k_), oe hk_ (gw GW470) (gw GW470) (Kd.freshB (kk BK470) k_)⟩)) (below_size (bb HB)))
                            replace HO468 := Aside0.mk (Kd.R_below (by (with_reducible repeat (first | apply Kd.R_alloc | apply Kd.R_drewN | apply Kd.R_drew)); exact HO468.out) hb)
                            replace BK350 := kB BK350 hb
                            replace BK370 := kB BK370 hb
                            replace BK380 := kB BK380 hb
                            replace BK398 := kB BK398 hb
                            replace BK408 := kB BK408 hb
                            replace BK430 := kB BK430 hb
                            replace BK442 := kB BK442 hb
                            replace BK460 := kB BK460 hb
                            replace BK470 := kB BK470 hb
                            replace HB := hB HB hb
                            (try clear hb)
                            (try clear hb2)
                            (try clear hk)
                            (try clear hi)
                            (try clear ho0)
                            (try clear ho1)
                            obtain ⟨Ao198, co198, eo198⟩ := Kd.V_slice HO485.out
                            (first | subst eo198 | (injection eo198 with f1_ f2_ f3_; have f4_ := f1_.symm; have f5_ := f3_.symm; clear f1_ f2_ f3_; subst f4_; subst f5_))
                            obtain ⟨Ao199, co199, eo199⟩ := Kd.V_slice HO490.out
                            (first | subst eo199 | (injection eo199 with f1_ f2_ f3_; have f4_ := f1_.symm; have f5_ := f3_.symm; clear f1_ f2_ f3_; subst f4_; subst f5_))
                            refine hK.out _ _ ⟨v_string (P := Try.prog) Try.underlying25 Try.underlying5 Try.underlying9 HO429.out, v_string (P := Try.prog) Try.underlying25 Try.underlying5 Try.underlying9 HO441.out, cx BK430 0, cx BK430 1, cx BK430 2, cx BK430 3, cx BK442 0, cx BK442 1, cx BK442 2, cx BK442 3, cx BK460 0, cx BK460 1, cx BK460 2, cx BK460 3, cx BK470 0, cx BK470 1, cx BK470 2, cx BK470 3, cx BK350 0, cx BK350 1, cx BK350 2, cx BK350 3⟩ (fun hHeld => ?_)
                            clear hK K
                            refine norm_ (a' := ?_) ?_ ?_
                            rotate_left
                            · show Act.put _ (some 139) _ = _
                              simp only [Act.put, List.setIfInBounds_toArray, List.set_cons_zero, List.set_cons_succ, i64_w, i32_w]
                              rfl
                            refine one_ (i := 34) (N := some 140) #[true, true, true, true, true, true, true, true, true, true, true, true, true, true, true, true, true, true, true, true, true, true, true, true, true, true, true, true, true, true, true, true, true, true, true, true, false, false, false, false, false, false, false, false, false, false, false, false] rfl rfl (one_of HT_.out (by kernel_rfl)) (by decide) (fun K hK => ?_)
                            refine gs Try.func24 (by kernel_rfl) rfl #[.agg #[.slice Ao198 t483.length co198, .bool t486, .int .i64 t487, .slice Ao199 t488.length co199]] (by rfl) rfl rfl ?_
                            with_reducible refine (wire_Waits.calls _ _ t483 t486 t487 _ _ t488 t491 _ ?side1 ?side2 ?side3 ?side4 A115.out).mono ?_
                            (case side1 => exact (Kd.V_reads' (vv HO485)).2.2)
                            (case side2 => exact (Kd.V_reads' HO485.out).2.1)
                            (case side3 => exact (Kd.V_reads' (vv HO490)).2.2)
                            (case side4 => exact (Kd.V_reads' HO490.out).2.1)
                            rintro e w200 ⟨rfl, hb⟩
                            refine ⟨_, rfl, ?_⟩
                            replace HO_371000 := vB HO_371000 hb
                            replace HO_371003 := vB HO_371003 hb
                            replace HO_381000 := vB HO_381000 hb
                            replace HO_381003 := vB HO_381003 hb
                            replace HO_399000 := vB HO_399000 hb
                            replace HO_399003 := vB HO_399003 hb
                            replace HO_409000 := vB HO_409000 hb
                            replace HO_409003 := vB HO_409003 hb
                            replace HO413 := vB HO413 hb
                            replace HO418 := vB HO418 hb
                            replace HO421 := vB HO421 hb
                            replace HO426 := vB HO426 hb
                            replace HO429 := vB HO429 hb
                            replace HO433 := vB HO433 hb
                            replace HO438 := vB HO438 hb
                            replace HO441 := vB HO441 hb
                            replace HO445 := vB HO445 hb
                            replace HO450 := vB HO450 hb
                            replace HO453 := vB HO453 hb
                            replace HO458 := vB HO458 hb
                            replace HO463 := vB HO463 hb
                            replace HO468 := Aside0.mk (Kd.R_below (by (with_reducible repeat (first | apply Kd.R_alloc | apply Kd.R_drewN | apply Kd.R_drew)); exact HO468.out) hb)
                            replace HO475 := vB HO475 hb
                            replace HO480 := vB HO480 hb
                            replace HO485 := vB HO485 hb
                            replace HO490 := vB HO490 hb
                            replace BK350 := kB BK350 hb
                            replace BK370 := kB BK370 hb
                            replace BK380 := kB BK380 hb
                            replace BK398 := kB BK398 hb
                            replace BK408 := kB BK408 hb
                            replace BK430 := kB BK430 hb
                            replace BK442 := kB BK442 hb
                            replace BK460 := kB BK460 hb
                            replace BK470 := kB BK470 hb
                            replace HB := hB HB hb
                            (try clear hb)
                            (try clear hb2)
                            (try clear hk)
                            (try clear hi)
                            refine hK.out _ _ ⟨v_string (P := Try.prog) Try.underlying25 Try.underlying5 Try.underlying9 HO429.out, v_string (P := Try.prog) Try.underlying25 Try.underlying5 Try.underlying9 HO441.out, cx BK430 0, cx BK430 1, cx BK430 2, cx BK430 3, cx BK442 0, cx BK442 1, cx BK442 2, cx BK442 3, cx BK460 0, cx BK460 1, cx BK460 2, cx BK460 3, cx BK470 0, cx BK470 1, cx BK470 2, cx BK470 3, cx BK350 0, cx BK350 1, cx BK350 2, cx BK350 3⟩ (fun hHeld => ?_)
                            clear hK K
                            refine norm_ (a' := ?_) ?_ ?_
                            rotate_left
                            · show Act.put _ (some 140) _ = _
                              simp only [Act.put, List.setIfInBounds_toArray, List.set_cons_zero, List.set_cons_succ, i64_w, i32_w]
                              rfl
                            refine one_ (i := 36) (N := some 142) #[true, true, true, true, true, true, true, true, true, true, true, true, true, true, true, true, true, true, true, true, true, true, true, true, true, true, true, true, true, true, true, true, true, true, true, true, true, false, false, false, false, false, false, false, false, false, false, false] rfl rfl (one_of HT_.out (by kernel_rfl)) (by decide) (fun K hK => ?_)
                            refine gs Try.func25 (by kernel_rfl) rfl #[.agg #[.slice A0_0 l0_0.length c0_0, .bool a0_1, .int .i64 a0_2, .slice A0_3 l0_3.length c0_3]] (by rfl) rfl rfl ?_
                            with_reducible refine (pentroughref19_Waits.calls _ _ l0_0 a0_1 a0_2 _ _ l0_3 t492 _ ?side1 ?side2 ?side3 ?side4 A116.out).mono ?_
                            (case side1 => exact Kd.C_below HR0_0.out (bb HB))
                            (case side2 => exact HC0_0.out)
                            (case side3 => exact Kd.C_below HR0_3.out (bb HB))
                            (case side4 => exact HC0_3.out)
                            rintro e w201 ⟨rfl, hb⟩
                            refine ⟨_, rfl, ?_⟩
                            replace HO_371000 := vB HO_371000 hb
                            replace HO_371003 := vB HO_371003 hb
                            replace HO_381000 := vB HO_381000 hb
                            replace HO_381003 := vB HO_381003 hb
                            replace HO_399000 := vB HO_399000 hb
                            replace HO_399003 := vB HO_399003 hb
                            replace HO_409000 := vB HO_409000 hb
                            replace HO_409003 := vB HO_409003 hb
                            replace HO413 := vB HO413 hb
                            replace HO418 := vB HO418 hb
                            replace HO421 := vB HO421 hb
                            replace HO426 := vB HO426 hb
                            replace HO429 := vB HO429 hb
                            replace HO433 := vB HO433 hb
                            replace HO438 := vB HO438 hb
                            replace HO441 := vB HO441 hb
                            replace HO445 := vB HO445 hb
                            replace HO450 := vB HO450 hb
                            replace HO453 := vB HO453 hb
                            replace HO458 := vB HO458 hb
                            replace HO463 := vB HO463 hb
                            replace HO468 := Aside0.mk (Kd.R_below (by (with_reducible repeat (first | apply Kd.R_alloc | apply Kd.R_drewN | apply Kd.R_drew)); exact HO468.out) hb)
                            replace HO475 := vB HO475 hb
                            replace HO480 := vB HO480 hb
                            replace HO485 := vB HO485 hb
                            replace HO490 := vB HO490 hb
                            replace BK350 := kB BK350 hb
                            replace BK370 := kB BK370 hb
                            replace BK380 := kB BK380 hb
                            replace BK398 := kB BK398 hb
                            replace BK408 := kB BK408 hb
                            replace BK430 := kB BK430 hb
                            replace BK442 := kB BK442 hb
                            replace BK460 := kB BK460 hb
                            replace BK470 := kB BK470 hb
                            replace HB := hB HB hb
                            (try clear hb)
                            (try clear hb2)
                            (try clear hk)
                            (try clear hi)
                            refine hK.out _ _ ⟨v_string (P := Try.prog) Try.underlying25 Try.underlying5 Try.underlying9 HO429.out, v_string (P := Try.prog) Try.underlying25 Try.underlying5 Try.underlying9 HO441.out, cx BK430 0, cx BK430 1, cx BK430 2, cx BK430 3, cx BK442 0, cx BK442 1, cx BK442 2, cx BK442 3, cx BK460 0, cx BK460 1, cx BK460 2, cx BK460 3, cx BK470 0, cx BK470 1, cx BK470 2, cx BK470 3, cx BK350 0, cx BK350 1, cx BK350 2, cx BK350 3⟩ (fun hHeld => ?_)
                            clear hK K
                            refine norm_ (a' := ?_) ?_ ?_
                            rotate_left
                            · show Act.put _ (some 142) _ = _
                              simp only [Act.put, List.setIfInBounds_toArray, List.set_cons_zero, List.set_cons_succ, i64_w, i32_w]
                              rfl
                            refine pure_ (i := 37) (N := some 143) (v := ?_) (a' := ?_) #[true, true, true, true, true, true, true, true, true, true, true, true, true, true, true, true, true, true, true, true, true, true, true, true, true, true, true, true, true, true, true, true, true, true, true, true, true, true, false, false, false, false, false, false, false, false, false, false] rfl rfl (any_of HT_.out (by kernel_rfl)) (fun _ _ _ h => h) (Or.inl ⟨by rfl, ?_⟩) ?_ ?_
                            rotate_left
                            · intro w'
                              go_simp
                              with_reducible rfl
                            rotate_left
                            · simp only [Act.put, List.setIfInBounds_toArray, List.set_cons_zero, List.set_cons_succ, i64_w, i32_w]
                              rfl
                            refine pure_ (i := 38) (N := some 144) (v := ?_) (a' := ?_) #[true, true, true, true, true, true, true, true, true, true, true, true, true, true, true, true, true, true, true, true, true, true, true, true, true, true, true, true, true, true, true, true, true, true, true, true, true, true, true, false, false, false, false, false, false, false, false, false] rfl rfl (any_of HT_.out (by kernel_rfl)) (fun _ _ _ h => h) (Or.inl ⟨by rfl, ?_⟩) ?_ ?_
                            rotate_left
                            · intro w'
                              go_simp
                              with_reducible rfl
                            rotate_left
                            · simp only [Act.put, List.setIfInBounds_toArray, List.set_cons_zero, List.set_cons_succ, i64_w, i32_w]
                              rfl
                            refine pure_ (i := 39) (N := some 145) (v := ?_) (a' := ?_) #[true, true, true, true, true, true, true, true, true, true, true, true, true, true, true, true, true, true, true, true, true, true, true, true, true, true, true, true, true, true, true, true, true, true, true, true, true, true, true, true, false, false, false, false, false, false, false, false] rfl rfl (any_of HT_.out (by kernel_rfl)) (fun _ _ _ h => h) (Or.inl ⟨by rfl, ?_⟩) ?_ ?_
                            rotate_left
                            · intro w'
                              go_simp
                              with_reducible rfl
                            rotate_left
                            · simp only [Act.put, List.setIfInBounds_toArray, List.set_cons_zero, List.set_cons_succ, i64_w, i32_w]
                              rfl
                            refine take_ (i := 40) (N := some 146) (v := ?_) (a' := ?_) #[true, true, true, true, true, true, true, true, true, true, true, true, true, true, true, true, true, true, true, true, true, true, true, true, true, true, true, true, true, true, true, true, true, true, true, true, true, true, true, true, true, false, false, false, false, false, false, false] rfl rfl (take_ofW HT_.out HW_.out (by kernel_rfl)) (fun _ _ _ h => h) (Or.inl ⟨by rfl, ?_⟩) hHeld ?_ ?_
                            rotate_left
                            · rintro w' ⟨sE1, sE2, s0, s1, s2, s3, s4, s5, s6, s7, s8, s9, s10, s11, s12, s13, s14, s15, s16, s17, s18, s19⟩
                              go_simp
                              with_reducible rfl
                            rotate_left
                            · simp only [Act.put, List.setIfInBounds_toArray, List.set_cons_zero, List.set_cons_succ, i64_w, i32_w]
                              rfl
                            refine take_ (i := 43) (N := some 149) (v := ?_) (a' := ?_) #[true, true, true, true, true, true, true, true, true, true, true, true, true, true, true, true, true, true, true, true, true, true, true, true, true, true, true, true, true, true, true, true, true, true, true, true, true, true, true, true, true, false, false, true, false, false, false, false] rfl rfl (take_ofW HT_.out HW_.out (by kernel_rfl)) (fun _ _ _ h => h) (Or.inl ⟨by rfl, ?_⟩) hHeld ?_ ?_
                            rotate_left
                            · rintro w' ⟨sE1, sE2, s0, s1, s2, s3, s4, s5, s6, s7, s8, s9, s10, s11, s12, s13, s14, s15, s16, s17, s18, s19⟩
                              go_simp
                              with_reducible rfl
                            rotate_left
                            · simp only [Act.put, List.setIfInBounds_toArray, List.set_cons_zero, List.set_cons_succ, i64_w, i32_w]
                              rfl
                            refine one_ (i := 41) (N := some 147) #[true, true, true, true, true, true, true, true, true, true, true, true, true, true, true, true, true, true, true, true, true, true, true, true, true, true, true, true, true, true, true, true, true, true, true, true, true, true, true, true, true, true, false, true, false, false, false, false] rfl rfl (one_of HT_.out (by kernel_rfl)) (by decide) (fun K hK => ?_)
                            refine gs Try.func16 (by kernel_rfl) rfl #[.agg #[.slice A0_0 l0_0.length c0_0, .bool a0_1, .int .i64 a0_2, .slice A0_3 l0_3.length c0_3]] (by rfl) rfl rfl ?_
                            with_reducible refine (pentroughlaw19_ours.calls (fun k_ => k_ < w.heap.size) _ _ l0_0 a0_1 a0_2 (fun k_ => k_ < w.heap.size) _ _ l0_3 t493 t496 t497 t498 _ ?side1 ?side2 A118.out).mono ?_
                            (case side1 => exact Kd.V_mk HC0_0.out (Kd.F_below (Kd.C_F (Kd.heap_int .u8) HR0_0.out) (bb HB)))
                            (case side2 => exact Kd.V_mk HC0_3.out (Kd.F_below (Kd.C_F (Kd.heap_int .u8) HR0_3.out) (bb HB)))
                            rintro e w202 ⟨v494, v499, rfl, ho0, ho1, hb⟩
                            refine ⟨_, rfl, ?_⟩
                            replace HO_371000 := vB HO_371000 hb
                            replace HO_371003 := vB HO_371003 hb
                            replace HO_381000 := vB HO_381000 hb
                            replace HO_381003 := vB HO_381003 hb
                            replace HO_399000 := vB HO_399000 hb
                            replace HO_399003 := vB HO_399003 hb
                            replace HO_409000 := vB HO_409000 hb
                            replace HO_409003 := vB HO_409003 hb
                            replace HO413 := vB HO413 hb
                            replace HO418 := vB HO418 hb
                            replace HO421 := vB HO421 hb
                            replace HO426 := vB HO426 hb
                            replace HO429 := vB HO429 hb
                            replace HO433 := vB HO433 hb
                            replace HO438 := vB HO438 hb
                            replace HO441 := vB HO441 hb
                            replace HO445 := vB HO445 hb
                            replace HO450 := vB HO450 hb
                            replace HO453 := vB HO453 hb
                            replace HO458 := vB HO458 hb
                            replace HO463 := vB HO463 hb
                            replace HO475 := vB HO475 hb
                            replace HO480 := vB HO480 hb
                            replace HO485 := vB HO485 hb
                            replace HO490 := vB HO490 hb
                            have HO495 := Aside0.mk (Kd.V_lower (Kd.V_mono (ok' := fun k_ => some k_ ≠ (.slice Ao184 t466.length co184 : Value).ownBlock ∧ k_ ≠ gb350 ∧ k_ ≠ gb370 ∧ k_ ≠ gb380 ∧ k_ ≠ gb398 ∧ k_ ≠ gb408 ∧ k_ ≠ gb430 ∧ k_ ≠ gb442 ∧ k_ ≠ gb460 ∧ k_ ≠ gb470) ho0 (fun k_ hk_ => ⟨Or.elim hk_ (fun hs_ => Or.elim hs_ (fun hs_ => fun e_ => Nat.not_le.2 hs_ (Kd.R_base HO468.out k_ e_.symm)) (fun hs_ => fun e_ => Nat.not_le.2 hs_ (Kd.R_base HO468.out k_ e_.symm))) (fun hn_ => (Kd.fresh' (Kd.R_lt (by (with_reducible repeat (first | apply Kd.R_alloc | apply Kd.R_drewN | apply Kd.R_drew)); exact HO468.out)) k_ hn_)), oe hk_ (gw GW350) (gw GW350) (Kd.freshB (kk BK350) k_), oe hk_ (gw GW370) (gw GW370) (Kd.freshB (kk BK370) k_), oe hk_ (gw GW380) (gw GW380) (Kd.freshB (kk BK380) k_), oe hk_ (gw GW398) (gw GW398) (Kd.freshB (kk BK398) k_), oe hk_ (gw GW408) (gw GW408) (Kd.freshB (kk BK408) k_), oe hk_ (gw GW430) (gw GW430) (Kd.freshB (kk BK430) k_), oe hk_ (gw GW442) (gw GW442) (Kd.freshB (kk BK442) k_), oe hk_ (gw GW460) (gw GW460) (Kd.freshB (kk BK460) k_), oe hk_ (gw GW470) (gw GW470) (Kd.freshB (kk BK470) k_)⟩)) (below_size (bb HB)))
                            have HO500 := Aside0.mk (Kd.V_lower (Kd.V_mono (ok' := fun k_ => some k_ ≠ (.slice Ao184 t466.length co184 : Value).ownBlock ∧ k_ ≠ gb350 ∧ k_ ≠ gb370 ∧ k_ ≠ gb380 ∧ k_ ≠ gb398 ∧ k_ ≠ gb408 ∧ k_ ≠ gb430 ∧ k_ ≠ gb442 ∧ k_ ≠ gb460 ∧ k_ ≠ gb470) ho1 (fun k_ hk_ => ⟨Or.elim hk_ (fun hs_ => Or.elim hs_ (fun hs_ => fun e_ => Nat.not_le.2 hs_ (Kd.R_base HO468.out k_ e_.symm)) (fun hs_ => fun e_ => Nat.not_le.2 hs_ (Kd.R_base HO468.out k_ e_.symm))) (fun hn_ => (Kd.fresh' (Kd.R_lt (by (with_reducible repeat (first | apply Kd.R_alloc | apply Kd.R_drewN | apply Kd.R_drew)); exact HO468.out)) k_ hn_)), oe hk_ (gw GW350) (gw GW350) (Kd.freshB (kk BK350) k_), oe hk_ (gw GW370) (gw GW370) (Kd.freshB (kk BK370) k_), oe hk_ (gw GW380) (gw GW380) (Kd.freshB (kk BK380) k_), oe hk_ (gw GW398) (gw GW398) (Kd.freshB (kk BK398) k_), oe hk_ (gw GW408) (gw GW408) (Kd.freshB (kk BK408) k_), oe hk_ (gw GW430) (gw GW430) (Kd.freshB (kk BK430) k_), oe hk_ (gw GW442) (gw GW442) (Kd.freshB (kk BK442) k_), oe hk_ (gw GW460) (gw GW460) (Kd.freshB (kk BK460) k_), oe hk_ (gw GW470) (gw GW470) (Kd.freshB (kk BK470) k_)⟩)) (below_size (bb HB)))
                            replace HO468 := Aside0.mk (Kd.R_below (by (with_reducible repeat (first | apply Kd.R_alloc | apply Kd.R_drewN | apply Kd.R_drew)); exact HO468.out) hb)
                            replace BK350 := kB BK350 hb
                            replace BK370 := kB BK370 hb
                            replace BK380 := kB BK380 hb
                            replace BK398 := kB BK398 hb
                            replace BK408 := kB BK408 hb
                            replace BK430 := kB BK430 hb
                            replace BK442 := kB BK442 hb
                            replace BK460 := kB BK460 hb
                            replace BK470 := kB BK470 hb
                            replace HB := hB HB hb
                            (try clear hb)
                            (try clear hb2)
                            (try clear hk)
                            (try clear hi)
                            (try clear ho0)
                            (try clear ho1)
                            obtain ⟨Ao203, co203, eo203⟩ := Kd.V_slice HO495.out
                            (first | subst eo203 | (injection eo203 with f1_ f2_ f3_; have f4_ := f1_.symm; have f5_ := f3_.symm; clear f1_ f2_ f3_; subst f4_; subst f5_))
                            obtain ⟨Ao204, co204, eo204⟩ := Kd.V_slice HO500.out
                            (first | subst eo204 | (injection eo204 with f1_ f2_ f3_; have f4_ := f1_.symm; have f5_ := f3_.symm; clear f1_ f2_ f3_; subst f4_; subst f5_))
                            refine hK.out _ _ ⟨v_string (P := Try.prog) Try.underlying25 Try.underlying5 Try.underlying9 HO429.out, v_string (P := Try.prog) Try.underlying25 Try.underlying5 Try.underlying9 HO441.out, cx BK430 0, cx BK430 1, cx BK430 2, cx BK430 3, cx BK442 0, cx BK442 1, cx BK442 2, cx BK442 3, cx BK460 0, cx BK460 1, cx BK460 2, cx BK460 3, cx BK470 0, cx BK470 1, cx BK470 2, cx BK470 3, cx BK350 0, cx BK350 1, cx BK350 2, cx BK350 3⟩ (fun hHeld => ?_)
                            clear hK K
                            refine norm_ (a' := ?_) ?_ ?_
                            rotate_left
                            · show Act.put _ (some 147) _ = _
                              simp only [Act.put, List.setIfInBounds_toArray, List.set_cons_zero, List.set_cons_succ, i64_w, i32_w]
                              rfl
                            refine one_ (i := 42) (N := some 148) #[true, true, true, true, true, true, true, true, true, true, true, true, true, true, true, true, true, true, true, true, true, true, true, true, true, true, true, true, true, true, true, true, true, true, true, true, true, true, true, true, true, true, true, true, false, false, false, false] rfl rfl (one_of HT_.out (by kernel_rfl)) (by decide) (fun K hK => ?_)
                            refine gs Try.func26 (by kernel_rfl) rfl #[.agg #[.slice Ao203 t493.length co203, .bool t496, .int .i64 t497, .slice Ao204 t498.length co204]] (by rfl) rfl rfl ?_
                            with_reducible refine (wire_Finish.calls (fun k_ => (some k_ ≠ (.slice Ao184 t466.length co184 : Value).ownBlock ∧ (k_ ≠ gb350 ∧ (k_ ≠ gb370 ∧ (k_ ≠ gb380 ∧ (k_ ≠ gb398 ∧ (k_ ≠ gb408 ∧ (k_ ≠ gb430 ∧ (k_ ≠ gb442 ∧ (k_ ≠ gb460 ∧ k_ ≠ gb470)))))))))) _ _ t493 t496 t497 (fun k_ => (some k_ ≠ (.slice Ao184 t466.length co184 : Value).ownBlock ∧ (k_ ≠ gb350 ∧ (k_ ≠ gb370 ∧ (k_ ≠ gb380 ∧ (k_ ≠ gb398 ∧ (k_ ≠ gb408 ∧ (k_ ≠ gb430 ∧ (k_ ≠ gb442 ∧ (k_ ≠ gb460 ∧ k_ ≠ gb470)))))))))) _ _ t498 t501 t504 t505 t506 _ ?side1 ?side2 A119.out).mono ?_
                            (case side1 => exact HO495.out)
                            (case side2 => exact HO500.out)
                            rintro e w205 ⟨v502, v507, rfl, ho0, ho1, hb⟩
                            refine ⟨_, rfl, ?_⟩
                            replace HO_371000 := vB HO_371000 hb
                            replace HO_371003 := vB HO_371003 hb
                            replace HO_381000 := vB HO_381000 hb
                            replace HO_381003 := vB HO_381003 hb
                            replace HO_399000 := vB HO_399000 hb
                            replace HO_399003 := vB HO_399003 hb
                            replace HO_409000 := vB HO_409000 hb
                            replace HO_409003 := vB HO_409003 hb
                            replace HO413 := vB HO413 hb
                            replace HO418 := vB HO418 hb
                            replace HO421 := vB HO421 hb
                            replace HO426 := vB HO426 hb
                            replace HO429 := vB HO429 hb
                            replace HO433 := vB HO433 hb
                            replace HO438 := vB HO438 hb
                            replace HO441 := vB HO441 hb
                            replace HO445 := vB HO445 hb
                            replace HO450 := vB HO450 hb
                            replace HO453 := vB HO453 hb
                            replace HO458 := vB HO458 hb
                            replace HO463 := vB HO463 hb
                            replace HO475 := vB HO475 hb
                            replace HO480 := vB HO480 hb
                            replace HO485 := vB HO485 hb
                            replace HO490 := vB HO490 hb
                            replace HO495 := vB HO495 hb
                            replace HO500 := vB HO500 hb
                            have HO503 := Aside0.mk (Kd.V_lower (Kd.V_mono (ok' := fun k_ => some k_ ≠ (.slice Ao184 t466.length co184 : Value).ownBlock ∧ k_ ≠ gb350 ∧ k_ ≠ gb370 ∧ k_ ≠ gb380 ∧ k_ ≠ gb398 ∧ k_ ≠ gb408 ∧ k_ ≠ gb430 ∧ k_ ≠ gb442 ∧ k_ ≠ gb460 ∧ k_ ≠ gb470) ho0 (fun k_ hk_ => ⟨Or.elim hk_ (fun hs_ => Or.elim hs_ (fun hs_ => hs_.1) (fun hs_ => hs_.1)) (fun hn_ => (Kd.fresh' (Kd.R_lt (by (with_reducible repeat (first | apply Kd.R_alloc | apply Kd.R_drewN | apply Kd.R_drew)); exact HO468.out)) k_ hn_)), oe hk_ (fun h => h.2.1) (fun h => h.2.1) (Kd.freshB (kk BK350) k_), oe hk_ (fun h => h.2.2.1) (fun h => h.2.2.1) (Kd.freshB (kk BK370) k_), oe hk_ (fun h => h.2.2.2.1) (fun h => h.2.2.2.1) (Kd.freshB (kk BK380) k_), oe hk_ (fun h => h.2.2.2.2.1) (fun h => h.2.2.2.2.1) (Kd.freshB (kk BK398) k_), oe hk_ (fun h => h.2.2.2.2.2.1) (fun h => h.2.2.2.2.2.1) (Kd.freshB (kk BK408) k_), oe hk_ (fun h => h.2.2.2.2.2.2.1) (fun h => h.2.2.2.2.2.2.1) (Kd.freshB (kk BK430) k_), oe hk_ (fun h => h.2.2.2.2.2.2.2.1) (fun h => h.2.2.2.2.2.2.2.1) (Kd.freshB (kk BK442) k_), oe hk_ (fun h => h.2.2.2.2.2.2.2.2.1) (fun h => h.2.2.2.2.2.2.2.2.1) (Kd.freshB (kk BK460) k_), oe hk_ (fun h => h.2.2.2.2.2.2.2.2.2) (fun h => h.2.2.2.2.2.2.2.2.2) (Kd.freshB (kk BK470) k_)⟩)) (below_size (bb HB)))
                            have HO508 := Aside0.mk (Kd.V_lower (Kd.V_mono (ok' := fun k_ => some k_ ≠ (.slice Ao184 t466.length co184 : Value).ownBlock ∧ k_ ≠ gb350 ∧ k_ ≠ gb370 ∧ k_ ≠ gb380 ∧ k_ ≠ gb398 ∧ k_ ≠ gb408 ∧ k_ ≠ gb430 ∧ k_ ≠ gb442 ∧ k_ ≠ gb460 ∧ k_ ≠ gb470) ho1 (fun k_ hk_ => ⟨Or.elim hk_ (fun hs_ => Or.elim hs_ (fun hs_ => hs_.1) (fun hs_ => hs_.1)) (fun hn_ => (Kd.fresh' (Kd.R_lt (by (with_reducible repeat (first | apply Kd.R_alloc | apply Kd.R_drewN | apply Kd.R_drew)); exact HO468.out)) k_ hn_)), oe hk_ (fun h => h.2.1) (fun h => h.2.1) (Kd.freshB (kk BK350) k_), oe hk_ (fun h => h.2.2.1) (fun h => h.2.2.1) (Kd.freshB (kk BK370) k_), oe hk_ (fun h => h.2.2.2.1) (fun h => h.2.2.2.1) (Kd.freshB (kk BK380) k_), oe hk_ (fun h => h.2.2.2.2.1) (fun h => h.2.2.2.2.1) (Kd.freshB (kk BK398) k_), oe hk_ (fun h => h.2.2.2.2.2.1) (fun h => h.2.2.2.2.2.1) (Kd.freshB (kk BK408) k_), oe hk_ (fun h => h.2.2.2.2.2.2.1) (fun h => h.2.2.2.2.2.2.1) (Kd.freshB (kk BK430) k_), oe hk_ (fun h => h.2.2.2.2.2.2.2.1) (fun h => h.2.2.2.2.2.2.2.1) (Kd.freshB (kk BK442) k_), oe hk_ (fun h => h.2.2.2.2.2.2.2.2.1) (fun h => h.2.2.2.2.2.2.2.2.1) (Kd.freshB (kk BK460) k_), oe hk_ (fun h => h.2.2.2.2.2.2.2.2.2) (fun h => h.2.2.2.2.2.2.2.2.2) (Kd.freshB (kk BK470) k_)⟩)) (below_size (bb HB)))
                            replace HO468 := Aside0.mk (Kd.R_below (by (with_reducible repeat (first | apply Kd.R_alloc | apply Kd.R_drewN | apply Kd.R_drew)); exact HO468.out) hb)
                            replace BK350 := kB BK350 hb
                            replace BK370 := kB BK370 hb
                            replace BK380 := kB BK380 hb
                            replace BK398 := kB BK398 hb
                            replace BK408 := kB BK408 hb
                            replace BK430 := kB BK430 hb
                            replace BK442 := kB BK442 hb
                            replace BK460 := kB BK460 hb
                            replace BK470 := kB BK470 hb
                            replace HB := hB HB hb
                            (try clear hb)
                            (try clear hb2)
                            (try clear hk)
                            (try clear hi)
                            (try clear ho0)
                            (try clear ho1)
                            refine hK.out _ _ ⟨v_string (P := Try.prog) Try.underlying25 Try.underlying5 Try.underlying9 HO429.out, v_string (P := Try.prog) Try.underlying25 Try.underlying5 Try.underlying9 HO441.out, cx BK430 0, cx BK430 1, cx BK430 2, cx BK430 3, cx BK442 0, cx BK442 1, cx BK442 2, cx BK442 3, cx BK460 0, cx BK460 1, cx BK460 2, cx BK460 3, cx BK470 0, cx BK470 1, cx BK470 2, cx BK470 3, cx BK350 0, cx BK350 1, cx BK350 2, cx BK350 3⟩ (fun hHeld => ?_)
                            clear hK K
                            refine norm_ (a' := ?_) ?_ ?_
                            rotate_left
                            · show Act.put _ (some 148) _ = _
                              simp only [Act.put, List.setIfInBounds_toArray, List.set_cons_zero, List.set_cons_succ, i64_w, i32_w]
                              rfl
                            refine one_ (i := 44) (N := some 150) #[true, true, true, true, true, true, true, true, true, true, true, true, true, true, true, true, true, true, true, true, true, true, true, true, true, true, true, true, true, true, true, true, true, true, true, true, true, true, true, true, true, true, true, true, true, false, false, false] rfl rfl (one_of HT_.out (by kernel_rfl)) (by decide) (fun K hK => ?_)
                            refine gs Try.func27 (by kernel_rfl) rfl #[.agg #[.slice A0_0 l0_0.length c0_0, .bool a0_1, .int .i64 a0_2, .slice A0_3 l0_3.length c0_3]] (by rfl) rfl rfl ?_
                            with_reducible refine (pentroughref19_Finish.calls (fun k_ => k_ < w.heap.size) _ _ l0_0 a0_1 a0_2 (fun k_ => k_ < w.heap.size) _ _ l0_3 t509 t512 t513 t514 _ ?side1 ?side2 A120.out).mono ?_
                            (case side1 => exact Kd.V_mk HC0_0.out (Kd.F_below (Kd.C_F (Kd.heap_int .u8) HR0_0.out) (bb HB)))
                            (case side2 => exact Kd.V_mk HC0_3.out (Kd.F_below (Kd.C_F (Kd.heap_int .u8) HR0_3.out) (bb HB)))
                            rintro e w206 ⟨v510, v515, rfl, ho0, ho1, hb⟩
                            refine ⟨_, rfl, ?_⟩
                            replace HO_371000 := vB HO_371000 hb
                            replace HO_371003 := vB HO_371003 hb
                            replace HO_381000 := vB HO_381000 hb
                            replace HO_381003 := vB HO_381003 hb
                            replace HO_399000 := vB HO_399000 hb
                            replace HO_399003 := vB HO_399003 hb
                            replace HO_409000 := vB HO_409000 hb
                            replace HO_409003 := vB HO_409003 hb
                            replace HO413 := vB HO413 hb
                            replace HO418 := vB HO418 hb
                            replace HO421 := vB HO421 hb
                            replace HO426 := vB HO426 hb
                            replace HO429 := vB HO429 hb
                            replace HO433 := vB HO433 hb
                            replace HO438 := vB HO438 hb
                            replace HO441 := vB HO441 hb
                            replace HO445 := vB HO445 hb
                            replace HO450 := vB HO450 hb
                            replace HO453 := vB HO453 hb
                            replace HO458 := vB HO458 hb
                            replace HO463 := vB HO463 hb
                            replace HO475 := vB HO475 hb
                            replace HO480 := vB HO480 hb
                            replace HO485 := vB HO485 hb
                            replace HO490 := vB HO490 hb
                            replace HO495 := vB HO495 hb
                            replace HO500 := vB HO500 hb
                            replace HO503 := vB HO503 hb
                            replace HO508 := vB HO508 hb
                            have HO511 := Aside0.mk (Kd.V_lower (Kd.V_mono (ok' := fun k_ => some k_ ≠ (.slice Ao184 t466.length co184 : Value).ownBlock ∧ k_ ≠ gb350 ∧ k_ ≠ gb370 ∧ k_ ≠ gb380 ∧ k_ ≠ gb398 ∧ k_ ≠ gb408 ∧ k_ ≠ gb430 ∧ k_ ≠ gb442 ∧ k_ ≠ gb460 ∧ k_ ≠ gb470) ho0 (fun k_ hk_ => ⟨Or.elim hk_ (fun hs_ => Or.elim hs_ (fun hs_ => fun e_ => Nat.not_le.2 hs_ (Kd.R_base HO468.out k_ e_.symm)) (fun hs_ => fun e_ => Nat.not_le.2 hs_ (Kd.R_base HO468.out k_ e_.symm))) (fun hn_ => (Kd.fresh' (Kd.R_lt (by (with_reducible repeat (first | apply Kd.R_alloc | apply Kd.R_drewN | apply Kd.R_drew)); exact HO468.out)) k_ hn_)), oe hk_ (gw GW350) (gw GW350) (Kd.freshB (kk BK350) k_), oe hk_ (gw GW370) (gw GW370) (Kd.freshB (kk BK370) k_), oe hk_ (gw GW380) (gw GW380) (Kd.freshB (kk BK380) k_), oe hk_ (gw GW398) (gw GW398) (Kd.freshB (kk BK398) k_), oe hk_ (gw GW408) (gw GW408) (Kd.freshB (kk BK408) k_), oe hk_ (gw GW430) (gw GW430) (Kd.freshB (kk BK430) k_), oe hk_ (gw GW442) (gw GW442) (Kd.freshB (kk BK442) k_), oe hk_ (gw GW460) (gw GW460) (Kd.freshB (kk BK460) k_), oe hk_ (gw GW470) (gw GW470) (Kd.freshB (kk BK470) k_)⟩)) (below_size (bb HB)))
                            have HO516 := Aside0.mk (Kd.V_lower (Kd.V_mono (ok' := fun k_ => some k_ ≠ (.slice Ao184 t466.length co184 : Value).ownBlock ∧ k_ ≠ gb350 ∧ k_ ≠ gb370 ∧ k_ ≠ gb380 ∧ k_ ≠ gb398 ∧ k_ ≠ gb408 ∧ k_ ≠ gb430 ∧ k_ ≠ gb442 ∧ k_ ≠ gb460 ∧ k_ ≠ gb470) ho1 (fun k_ hk_ => ⟨Or.elim hk_ (fun hs_ => Or.elim hs_ (fun hs_ => fun e_ => Nat.not_le.2 hs_ (Kd.R_base HO468.out k_ e_.symm)) (fun hs_ => fun e_ => Nat.not_le.2 hs_ (Kd.R_base HO468.out k_ e_.symm))) (fun hn_ => (Kd.fresh' (Kd.R_lt (by (with_reducible repeat (first | apply Kd.R_alloc | apply Kd.R_drewN | apply Kd.R_drew)); exact HO468.out)) k_ hn_)), oe hk_ (gw GW350) (gw GW350) (Kd.freshB (kk BK350) k_), oe hk_ (gw GW370) (gw GW370) (Kd.freshB (kk BK370) k_), oe hk_ (gw GW380) (gw GW380) (Kd.freshB (kk BK380) k_), oe hk_ (gw GW398) (gw GW398) (Kd.freshB (kk BK398) k_), oe hk_ (gw GW408) (gw GW408) (Kd.freshB (kk BK408) k_), oe hk_ (gw GW430) (gw GW430) (Kd.freshB (kk BK430) k_), oe hk_ (gw GW442) (gw GW442) (Kd.freshB (kk BK442) k_), oe hk_ (gw GW460) (gw GW460) (Kd.freshB (kk BK460) k_), oe hk_ (gw GW470) (gw GW470) (Kd.freshB (kk BK470) k_)⟩)) (below_size (bb HB)))
                            replace HO468 := Aside0.mk (Kd.R_below (by (with_reducible repeat (first | apply Kd.R_alloc | apply Kd.R_drewN | apply Kd.R_drew)); exact HO468.out) hb)
                            replace BK350 := kB BK350 hb
                            replace BK370 := kB BK370 hb
                            replace BK380 := kB BK380 hb
                            replace BK398 := kB BK398 hb
                            replace BK408 := kB BK408 hb
                            replace BK430 := kB BK430 hb
                            replace BK442 := kB BK442 hb
                            replace BK460 := kB BK460 hb
                            replace BK470 := kB BK470 hb
                            replace HB := hB HB hb
                            (try clear hb)
                            (try clear hb2)
                            (try clear hk)
                            (try clear hi)
                            (try clear ho0)
                            (try clear ho1)
                            obtain ⟨Ao207, co207, eo207⟩ := Kd.V_slice HO503.out
                            (first | subst eo207 | (injection eo207 with f1_ f2_ f3_; have f4_ := f1_.symm; have f5_ := f3_.symm; clear f1_ f2_ f3_; subst f4_; subst f5_))
                            obtain ⟨Ao208, co208, eo208⟩ := Kd.V_slice HO508.out
                            (first | subst eo208 | (injection eo208 with f1_ f2_ f3_; have f4_ := f1_.symm; have f5_ := f3_.symm; clear f1_ f2_ f3_; subst f4_; subst f5_))
                            obtain ⟨Ao209, co209, eo209⟩ := Kd.V_slice HO511.out
                            (first | subst eo209 | (injection eo209 with f1_ f2_ f3_; have f4_ := f1_.symm; have f5_ := f3_.symm; clear f1_ f2_ f3_; subst f4_; subst f5_))
                            obtain ⟨Ao210, co210, eo210⟩ := Kd.V_slice HO516.out
                            (first | subst eo210 | (injection eo210 with f1_ f2_ f3_; have f4_ := f1_.symm; have f5_ := f3_.symm; clear f1_ f2_ f3_; subst f4_; subst f5_))
                            refine hK.out _ _ ⟨v_string (P := Try.prog) Try.underlying25 Try.underlying5 Try.underlying9 HO429.out, v_string (P := Try.prog) Try.underlying25 Try.underlying5 Try.underlying9 HO441.out, cx BK430 0, cx BK430 1, cx BK430 2, cx BK430 3, cx BK442 0, cx BK442 1, cx BK442 2, cx BK442 3, cx BK460 0, cx BK460 1, cx BK460 2, cx BK460 3, cx BK470 0, cx BK470 1, cx BK470 2, cx BK470 3, cx BK350 0, cx BK350 1, cx BK350 2, cx BK350 3⟩ (fun hHeld => ?_)
                            clear hK K
                            refine norm_ (a' := ?_) ?_ ?_
                            rotate_left
                            · show Act.put _ (some 150) _ = _
                              simp only [Act.put, List.setIfInBounds_toArray, List.set_cons_zero, List.set_cons_succ, i64_w, i32_w]
                              rfl
                            refine one_ (i := 45) (N := some 151) #[true, true, true, true, true, true, true, true, true, true, true, true, true, true, true, true, true, true, true, true, true, true, true, true, true, true, true, true, true, true, true, true, true, true, true, true, true, true, true, true, true, true, true, true, true, true, false, false] rfl rfl (one_of HT_.out (by kernel_rfl)) (by decide) (fun K hK => ?_)
                            refine gs Try.func20 (by kernel_rfl) rfl #[.agg #[.slice Ao207 t501.length co207, .bool t504, .int .i64 t505, .slice Ao208 t506.length co208], .agg #[.slice Ao209 t509.length co209, .bool t512, .int .i64 t513, .slice Ao210 t514.length co210]] (by rfl) rfl rfl ?_
                            with_reducible refine (pentroughlaw19_same.calls _ _ t501 t504 t505 _ _ t506 _ _ t509 t512 t513 _ _ t514 t517 _ ?side1 ?side2 ?side3 ?side4 ?side5 ?side6 ?side7 ?side8 A121.out).mono ?_
                            (case side1 => exact (Kd.V_reads' (vv HO503)).2.2)
                            (case side2 => exact (Kd.V_reads' HO503.out).2.1)
                            (case side3 => exact (Kd.V_reads' (vv HO508)).2.2)
                            (case side4 => exact (Kd.V_reads' HO508.out).2.1)
                            (case side5 => exact (Kd.V_reads' (vv HO511)).2.2)
                            (case side6 => exact (Kd.V_reads' HO511.out).2.1)
                            (case side7 => exact (Kd.V_reads' (vv HO516)).2.2)
                            (case side8 => exact (Kd.V_reads' HO516.out).2.1)
                            rintro e w211 ⟨rfl, hb⟩
                            refine ⟨_, rfl, ?_⟩
                            replace HO_371000 := vB HO_371000 hb
                            replace HO_371003 := vB HO_371003 hb
                            replace HO_381000 := vB HO_381000 hb
                            replace HO_381003 := vB HO_381003 hb
                            replace HO_399000 := vB HO_399000 hb
                            replace HO_399003 := vB HO_399003 hb
                            replace HO_409000 := vB HO_409000 hb
                            replace HO_409003 := vB HO_409003 hb
                            replace HO413 := vB HO413 hb
                            replace HO418 := vB HO418 hb
                            replace HO421 := vB HO421 hb
                            replace HO426 := vB HO426 hb
                            replace HO429 := vB HO429 hb
                            replace HO433 := vB HO433 hb
                            replace HO438 := vB HO438 hb
                            replace HO441 := vB HO441 hb
                            replace HO445 := vB HO445 hb
                            replace HO450 := vB HO450 hb
                            replace HO453 := vB HO453 hb
                            replace HO458 := vB HO458 hb
                            replace HO463 := vB HO463 hb
                            replace HO468 := Aside0.mk (Kd.R_below (by (with_reducible repeat (first | apply Kd.R_alloc | apply Kd.R_drewN | apply Kd.R_drew)); exact HO468.out) hb)
                            replace HO475 := vB HO475 hb
                            replace HO480 := vB HO480 hb
                            replace HO485 := vB HO485 hb
                            replace HO490 := vB HO490 hb
                            replace HO495 := vB HO495 hb
                            replace HO500 := vB HO500 hb
                            replace HO503 := vB HO503 hb
                            replace HO508 := vB HO508 hb
                            replace HO511 := vB HO511 hb
                            replace HO516 := vB HO516 hb
                            replace BK350 := kB BK350 hb
                            replace BK370 := kB BK370 hb
                            replace BK380 := kB BK380 hb
                            replace BK398 := kB BK398 hb
                            replace BK408 := kB BK408 hb
                            replace BK430 := kB BK430 hb
                            replace BK442 := kB BK442 hb
                            replace BK460 := kB BK460 hb
                            replace BK470 := kB BK470 hb
                            replace HB := hB HB hb
                            (try clear hb)
                            (try clear hb2)
                            (try clear hk)
                            (try clear hi)
                            refine hK.out _ _ ⟨v_string (P := Try.prog) Try.underlying25 Try.underlying5 Try.underlying9 HO429.out, v_string (P := Try.prog) Try.underlying25 Try.underlying5 Try.underlying9 HO441.out, cx BK430 0, cx BK430 1, cx BK430 2, cx BK430 3, cx BK442 0, cx BK442 1, cx BK442 2, cx BK442 3, cx BK460 0, cx BK460 1, cx BK460 2, cx BK460 3, cx BK470 0, cx BK470 1, cx BK470 2, cx BK470 3, cx BK350 0, cx BK350 1, cx BK350 2, cx BK350 3⟩ (fun hHeld => ?_)
                            clear hK K
                            refine norm_ (a' := ?_) ?_ ?_
                            rotate_left
                            · show Act.put _ (some 151) _ = _
                              simp only [Act.put, List.setIfInBounds_toArray, List.set_cons_zero, List.set_cons_succ, i64_w, i32_w]
                              rfl
                            refine pure_ (i := 46) (N := some 152) (v := ?_) (a' := ?_) #[true, true, true, true, true, true, true, true, true, true, true, true, true, true, true, true, true, true, true, true, true, true, true, true, true, true, true, true, true, true, true, true, true, true, true, true, true, true, true, true, true, true, true, true, true, true, true, false] rfl rfl (any_of HT_.out (by kernel_rfl)) (fun _ _ _ h => h) (Or.inl ⟨by rfl, ?_⟩) ?_ ?_
                            rotate_left
                            · intro w'
                              go_simp
                              with_reducible rfl
                            rotate_left
                            · simp only [Act.put, List.setIfInBounds_toArray, List.set_cons_zero, List.set_cons_succ, i64_w, i32_w]
                              rfl
                            refine pure_ (i := 47) (N := some 6) (v := ?_) (a' := ?_) #[true, true, true, true, true, true, true, true, true, true, true, true, true, true, true, true, true, true, true, true, true, true, true, true, true, true, true, true, true, true, true, true, true, true, true, true, true, true, true, true, true, true, true, true, true, true, true, true] rfl rfl (any_of HT_.out (by kernel_rfl)) (fun _ _ _ h => h) (Or.inl ⟨by rfl, ?_⟩) ?_ ?_
                            rotate_left
                            · intro w'
                              go_simp
                              with_reducible rfl
                            rotate_left
                            · simp only [Act.put, List.setIfInBounds_toArray, List.set_cons_zero, List.set_cons_succ, i64_w, i32_w]
                              rfl
                            refine done_ (done_of HT_.out (by kernel_rfl)) ?_
                            try go_wp2
                            go_ret
                            exact ⟨by first | rfl | (simp [errW_none, errW_some] <;> rfl) | (simp [*, errW_none, errW_some] <;> rfl), by repeat (first | (with_reducible first | exact HB.out | apply below_alloc | apply pw_below_drewN | apply below_drew1 | refine below_set ?_ GE350.out | refine below_set ?_ GE370.out | refine below_set ?_ GE380.out | refine below_set ?_ GE398.out | refine below_set ?_ GE408.out | refine below_set ?_ GE430.out | refine below_set ?_ GE442.out | refine below_set ?_ GE460.out | refine below_set ?_ GE470.out) | exact HB.out)⟩
                          · rw [if_neg c117] at H
                            have c117b0 : (t491 == t492) = false := by simpa using c117
                            (try (have c117b1 : decide (t491 = t492) = false := by simpa using c117))
                            (try (have c117b2 : (t491 == t492) = false := by simpa using c117))
                            (try (have c117b3 : ¬ (t491 = t492) := by simpa using c117))
                            clear c117
                            cases H; exact absurd HRT.out (by decide)
                        · rw [if_neg c113] at H
                          have c113b0 : (t481 == t482) = false := by simpa using c113
                          (try (have c113b1 : decide (t481 = t482) = false := by simpa using c113))
                          (try (have c113b2 : (t481 == t482) = false := by simpa using c113))
                          (try (have c113b3 : ¬ (t481 = t482) := by simpa using c113))
                          clear c113
                          cases H; exact absurd HRT.out (by decide)
                      · replace c109 := Bool.eq_false_iff.mpr c109
                        subst c109
                        rw [if_neg nf] at H
                        cases H; exact absurd HRT.out (by decide)
                    · replace c107 := Bool.eq_false_iff.mpr c107
                      subst c107
                      rw [if_neg nf] at H
                      cases H; exact absurd HRT.out (by decide)
                  · rw [if_neg c105] at H
                    cases H; exact absurd HRT.out (by decide)
                · rw [if_neg c104] at H
                  cases H; exact absurd HRT.out (by decide)
              · replace c103 := Bool.eq_false_iff.mpr c103
                subst c103
                rw [if_neg nf] at H
                cases H; exact absurd HRT.out (by decide)

end Go.Proofs.Ytocmnggcbpdnjaa.I
