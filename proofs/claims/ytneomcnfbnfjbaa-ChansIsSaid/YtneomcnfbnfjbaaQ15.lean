-- Laid by mix.py, a program of this session, with the kit's print.py; walks by hand come out of wip/over.
import Derived.Test.YtneomcnfbnfjbaaShort
import Derived.Test.YtneomcnfbnfjbaaQ0
import Derived.Test.YtneomcnfbnfjbaaQ1
import Derived.Test.YtneomcnfbnfjbaaQ2
import Derived.Test.YtneomcnfbnfjbaaQ3
import Derived.Test.YtneomcnfbnfjbaaQ4
import Derived.Test.YtneomcnfbnfjbaaQ6
import Derived.Test.YtneomcnfbnfjbaaQ9
import Derived.Test.YtneomcnfbnfjbaaQ11
import Derived.Test.YtneomcnfbnfjbaaQ12
import Derived.Test.YtneomcnfbnfjbaaQ13
import Derived.Test.YtneomcnfbnfjbaaQ14
namespace Go.Proofs.Ytneomcnfbnfjbaa.Q
open Go.RowKit Go.Proofs.YtneomcnfbnfjbaaW.PrintWords Go.Proofs.YtneomcnfbnfjbaaW.PrintLast Go.Proofs.YtneomcnfbnfjbaaW.PrintMore Go.Proofs.YtneomcnfbnfjbaaW.Sh
attribute [local go_sem] max2_int min2_int max_two min_two max_three min_three max_four min_four   -- for this text's walks alone
set_option linter.unusedVariables false
set_option linter.unusedSimpArgs false

/-! ### pentroughlaw16_ChansIs: function 6 -/
mutual
def pentroughlaw16_ChansIs.j0 : Nat → List Int → Bool → Bool → List (List Int) → Bool → Option (Bool)
  | 0, _, _, _, _, _ => none
  | k + 1, x1, x5, x24, x410000, x410001 => if x24 = true then (some x5) else ((pentroughlaw16_ours.f x410000 x410001).bind fun bt412 => ((chans_Put.f k bt412.1 bt412.2 x1).bind fun bt416 => ((pentroughref16_Put.f k x410000 x410001 x1).bind fun bt422 => ((pentroughlaw16_ours.f x410000 x410001).bind fun bt428 => ((chans_Take.f k bt428.1 bt428.2).bind fun bt432 => ((pentroughref16_Take.f k x410000 x410001).bind fun bt441 => (if (bt416.2.2 != bt422.2.2) = true then (pentroughlaw16_ChansIs.j1 k x5 true x410000 x410001) else ((pentroughlaw16_same.f k bt416.1 bt416.2.1 bt422.1 bt422.2.1).bind fun t450 => (if t450 = true then (if (bt432.2.2.2 != bt441.2.2.2) = true then (pentroughlaw16_ChansIs.j1 k x5 true x410000 x410001) else ((pentroughlaw16_same.f k bt432.1 bt432.2.1 bt441.1 bt441.2.1).bind fun t451 => (if t451 = true then ((pentroughref01_Same.f k bt432.2.2.1 bt441.2.2.1).bind fun t452 => (pentroughlaw16_ChansIs.j1 k x5 (!t452) x410000 x410001)) else (pentroughlaw16_ChansIs.j1 k x5 true x410000 x410001)))) else (pentroughlaw16_ChansIs.j1 k x5 true x410000 x410001))))))))))
def pentroughlaw16_ChansIs.j1 : Nat → Bool → Bool → List (List Int) → Bool → Option (Bool)
  | 0, _, _, _, _ => none
  | k + 1, x5, x77, x410000, x410001 => if x77 = true then (some false) else (if x5 = true then ((pentroughlaw16_ours.f x410000 x410001).bind fun bt453 => ((chans_Sane.f k bt453.1 bt453.2).bind fun t457 => ((pentroughref16_Sane.f k x410000 x410001).bind fun t458 => (if (t457 == t458) = true then ((pentroughlaw16_ours.f x410000 x410001).bind fun bt459 => ((chans_Close.f k bt459.1 bt459.2).bind fun bt463 => ((pentroughref16_Close.f k x410000 x410001).bind fun bt467 => ((pentroughlaw16_same.f k bt463.1 bt463.2 bt467.1 bt467.2).bind fun t471 => (if t471 = true then ((pentroughlaw16_ours.f x410000 x410001).bind fun bt472 => ((chans_Spent.f k bt472.1 bt472.2).bind fun t476 => ((pentroughref16_Spent.f k x410000 x410001).bind fun t477 => (if (t476 == t477) = true then ((pentroughlaw16_ours.f x410000 x410001).bind fun bt478 => ((chans_Count.f k bt478.1 bt478.2).bind fun t482 => ((pentroughref16_Count.f k x410000 x410001).bind fun t483 => (some (t482 == t483))))) else (some false))))) else (some false)))))) else (some false))))) else (some false))
end
def pentroughlaw16_ChansIs.f (k : Nat) (l0_0 : List (List Int)) (a0_1 : Bool) (l1 : List Int) : Option (Bool) := (pentroughlaw16_awake.f).bind fun t410 => ((pentroughref16_Few.f k l0_0 a0_1).bind fun t411 => (if t411 = true then (pentroughlaw16_ChansIs.j0 k l1 t410 (decide ((l1.length : Int) > 20)) l0_0 a0_1) else (pentroughlaw16_ChansIs.j0 k l1 t410 true l0_0 a0_1)))
theorem pentroughlaw16_ChansIs.mono_l : ∀ k, (∀ y0 y1 y2 y3 y4, LeO (pentroughlaw16_ChansIs.j0 k y0 y1 y2 y3 y4) (pentroughlaw16_ChansIs.j0 (k + 1) y0 y1 y2 y3 y4)) ∧ (∀ y0 y1 y2 y3, LeO (pentroughlaw16_ChansIs.j1 k y0 y1 y2 y3) (pentroughlaw16_ChansIs.j1 (k + 1) y0 y1 y2 y3))
  | 0 => ⟨fun _ _ _ _ _ r h => by simp [pentroughlaw16_ChansIs.j0] at h, fun _ _ _ _ r h => by simp [pentroughlaw16_ChansIs.j1] at h⟩
  | k + 1 => by
    obtain ⟨ih0, ih1⟩ := pentroughlaw16_ChansIs.mono_l k
    refine ⟨?_, ?_⟩
    · intro y0 y1 y2 y3 y4
      unfold pentroughlaw16_ChansIs.j0
      repeat' first
      | (with_reducible exact ih0 _ _ _ _ _)
      | (with_reducible exact ih1 _ _ _ _)
      | (with_reducible exact chans_Close.mono _ _ _)
      | (with_reducible exact chans_Count.mono _ _ _)
      | (with_reducible exact chans_Put.mono _ _ _ _)
      | (with_reducible exact chans_Sane.mono _ _ _)
      | (with_reducible exact chans_Spent.mono _ _ _)
      | (with_reducible exact chans_Take.mono _ _ _)
      | (with_reducible exact pentroughlaw16_same.mono _ _ _ _ _)
      | (with_reducible exact pentroughref01_Same.mono _ _ _)
      | (with_reducible exact pentroughref16_Close.mono _ _ _)
      | (with_reducible exact pentroughref16_Count.mono _ _ _)
      | (with_reducible exact pentroughref16_Few.mono _ _ _)
      | (with_reducible exact pentroughref16_Put.mono _ _ _ _)
      | (with_reducible exact pentroughref16_Sane.mono _ _ _)
      | (with_reducible exact pentroughref16_Spent.mono _ _ _)
      | (with_reducible exact pentroughref16_Take.mono _ _ _)
      | (with_reducible exact LeO.refl _)
      | (with_reducible exact LeO.none _)
      | (with_reducible refine LeO.ite ?_ ?_)
      | (with_reducible refine LeO.bind ?_ (fun _ => ?_))
      | exact ih0 _ _ _ _ _
      | exact ih1 _ _ _ _
      | exact chans_Close.mono _ _ _
      | exact chans_Count.mono _ _ _
      | exact chans_Put.mono _ _ _ _
      | exact chans_Sane.mono _ _ _
      | exact chans_Spent.mono _ _ _
      | exact chans_Take.mono _ _ _
      | exact pentroughlaw16_same.mono _ _ _ _ _
      | exact pentroughref01_Same.mono _ _ _
      | exact pentroughref16_Close.mono _ _ _
      | exact pentroughref16_Count.mono _ _ _
      | exact pentroughref16_Few.mono _ _ _
      | exact pentroughref16_Put.mono _ _ _ _
      | exact pentroughref16_Sane.mono _ _ _
      | exact pentroughref16_Spent.mono _ _ _
      | exact pentroughref16_Take.mono _ _ _
      | exact LeO.none _
      | refine LeO.ite ?_ ?_
      | refine LeO.bind ?_ (fun _ => ?_)
    · intro y0 y1 y2 y3
      unfold pentroughlaw16_ChansIs.j1
      repeat' first
      | (with_reducible exact ih0 _ _ _ _ _)
      | (with_reducible exact ih1 _ _ _ _)
      | (with_reducible exact chans_Close.mono _ _ _)
      | (with_reducible exact chans_Count.mono _ _ _)
      | (with_reducible exact chans_Put.mono _ _ _ _)
      | (with_reducible exact chans_Sane.mono _ _ _)
      | (with_reducible exact chans_Spent.mono _ _ _)
      | (with_reducible exact chans_Take.mono _ _ _)
      | (with_reducible exact pentroughlaw16_same.mono _ _ _ _ _)
      | (with_reducible exact pentroughref01_Same.mono _ _ _)
      | (with_reducible exact pentroughref16_Close.mono _ _ _)
      | (with_reducible exact pentroughref16_Count.mono _ _ _)
      | (with_reducible exact pentroughref16_Few.mono _ _ _)
      | (with_reducible exact pentroughref16_Put.mono _ _ _ _)
      | (with_reducible exact pentroughref16_Sane.mono _ _ _)
      | (with_reducible exact pentroughref16_Spent.mono _ _ _)
      | (with_reducible exact pentroughref16_Take.mono _ _ _)
      | (with_reducible exact LeO.refl _)
      | (with_reducible exact LeO.none _)
      | (with_reducible refine LeO.ite ?_ ?_)
      | (with_reducible refine LeO.bind ?_ (fun _ => ?_))
      | exact ih0 _ _ _ _ _
      | exact ih1 _ _ _ _
      | exact chans_Close.mono _ _ _
      | exact chans_Count.mono _ _ _
      | exact chans_Put.mono _ _ _ _
      | exact chans_Sane.mono _ _ _
      | exact chans_Spent.mono _ _ _
      | exact chans_Take.mono _ _ _
      | exact pentroughlaw16_same.mono _ _ _ _ _
      | exact pentroughref01_Same.mono _ _ _
      | exact pentroughref16_Close.mono _ _ _
      | exact pentroughref16_Count.mono _ _ _
      | exact pentroughref16_Few.mono _ _ _
      | exact pentroughref16_Put.mono _ _ _ _
      | exact pentroughref16_Sane.mono _ _ _
      | exact pentroughref16_Spent.mono _ _ _
      | exact pentroughref16_Take.mono _ _ _
      | exact LeO.none _
      | refine LeO.ite ?_ ?_
      | refine LeO.bind ?_ (fun _ => ?_)
theorem pentroughlaw16_ChansIs.mono : ∀ a0 a1 a2 k, LeO (pentroughlaw16_ChansIs.f k a0 a1 a2) (pentroughlaw16_ChansIs.f (k + 1) a0 a1 a2) := by
  intro a0 a1 a2 k
  obtain ⟨ih0, ih1⟩ := pentroughlaw16_ChansIs.mono_l k
  unfold pentroughlaw16_ChansIs.f
  repeat' first
      | (with_reducible exact ih0 _ _ _ _ _)
      | (with_reducible exact ih1 _ _ _ _)
      | (with_reducible exact chans_Close.mono _ _ _)
      | (with_reducible exact chans_Count.mono _ _ _)
      | (with_reducible exact chans_Put.mono _ _ _ _)
      | (with_reducible exact chans_Sane.mono _ _ _)
      | (with_reducible exact chans_Spent.mono _ _ _)
      | (with_reducible exact chans_Take.mono _ _ _)
      | (with_reducible exact pentroughlaw16_same.mono _ _ _ _ _)
      | (with_reducible exact pentroughref01_Same.mono _ _ _)
      | (with_reducible exact pentroughref16_Close.mono _ _ _)
      | (with_reducible exact pentroughref16_Count.mono _ _ _)
      | (with_reducible exact pentroughref16_Few.mono _ _ _)
      | (with_reducible exact pentroughref16_Put.mono _ _ _ _)
      | (with_reducible exact pentroughref16_Sane.mono _ _ _)
      | (with_reducible exact pentroughref16_Spent.mono _ _ _)
      | (with_reducible exact pentroughref16_Take.mono _ _ _)
      | (with_reducible exact LeO.refl _)
      | (with_reducible exact LeO.none _)
      | (with_reducible refine LeO.ite ?_ ?_)
      | (with_reducible refine LeO.bind ?_ (fun _ => ?_))
      | exact ih0 _ _ _ _ _
      | exact ih1 _ _ _ _
      | exact chans_Close.mono _ _ _
      | exact chans_Count.mono _ _ _
      | exact chans_Put.mono _ _ _ _
      | exact chans_Sane.mono _ _ _
      | exact chans_Spent.mono _ _ _
      | exact chans_Take.mono _ _ _
      | exact pentroughlaw16_same.mono _ _ _ _ _
      | exact pentroughref01_Same.mono _ _ _
      | exact pentroughref16_Close.mono _ _ _
      | exact pentroughref16_Count.mono _ _ _
      | exact pentroughref16_Few.mono _ _ _
      | exact pentroughref16_Put.mono _ _ _ _
      | exact pentroughref16_Sane.mono _ _ _
      | exact pentroughref16_Spent.mono _ _ _
      | exact pentroughref16_Take.mono _ _ _
      | exact LeO.none _
      | refine LeO.ite ?_ ?_
      | refine LeO.bind ?_ (fun _ => ?_)
def pentroughlaw16_ChansIs.T10 : Bool × List (List Nat × List Nat) := (true, [([], []), ([0], [0]), ([1], [1]), ([2, 1, 1], [1, 2]), ([3, 3, 1], [1, 3]), ([1], [1]), ([5, 4, 1], [1, 5]), ([4, 6, 1], [1, 4, 6]), ([1, 7], [1, 7]), ([8, 6], [8]), ([9], [9]), ([10, 9, 9], [9, 10]), ([11, 11, 9], [9, 11]), ([9], [9]), ([13, 12, 9], [9, 13]), ([12, 14, 14, 9], [9, 12, 14]), ([9, 15], [9, 15]), ([16, 15], [16]), ([17], [17]), ([18, 17, 17], [17, 18]), ([19, 19, 17], [17, 19]), ([17], [17]), ([21, 20, 17], [17, 21]), ([20, 22, 17], [17, 20, 22]), ([17, 23], [17, 23]), ([24, 22], [24]), ([25], [25]), ([26, 25, 25], [25, 26]), ([27, 27, 25], [25, 27]), ([25], [25]), ([29, 28, 25], [25, 29]), ([28, 30, 25], [25, 28, 30]), ([25, 31], [25, 31]), ([32, 30, 0, 1, 2, 3, 4, 5, 6, 7, 8, 9, 10, 11, 12, 13, 14, 15, 16, 17, 18, 19, 20, 21, 22, 23, 24, 25, 26, 27, 28, 29, 30, 31, 32], [32])])
def pentroughlaw16_ChansIs.B10 : List Nat := [0, 1, 3, 7, 15, 3, 63, 127, 255, 511, 1023, 2047, 4095, 1023, 16383, 32767, 65535, 131071, 262143, 524287, 1048575, 262143, 4194303, 8388607, 16777215, 33554431, 67108863, 134217727, 268435455, 67108863, 1073741823, 2147483647, 4294967295, 8589934591]
theorem pentroughlaw16_ChansIs.tab10 : rtab .any (opsOf Try.f6 10) = pentroughlaw16_ChansIs.T10 := by kernel_rfl
theorem pentroughlaw16_ChansIs.bits10 : waitsOk pentroughlaw16_ChansIs.T10.2 pentroughlaw16_ChansIs.B10 = true := by kernel_rfl
set_option maxHeartbeats 8000000 in
set_option maxRecDepth 100000 in
theorem pentroughlaw16_ChansIs.calls (k : Nat) (A0_0 : Option Addr) (c0_0 : Nat) (l0_0 : List (List Int)) (a0_1 : Bool) (A1 : Option Addr) (c1 : Nat) (l1 : List Int) (r : Bool) (w : World) (hr0_0 : Kd.C (Kd.slice 3 (Kd.int .i64)) w A0_0 l0_0.length l0_0) (hc0_0 : l0_0.length ≤ c0_0) (hr1 : Kd.C (Kd.int .i64) w A1 l1.length l1) (hc1 : l1.length ≤ c1) (h : pentroughlaw16_ChansIs.f k l0_0 a0_1 l1 = some r) (HRT : Aside0 (r = true)) :
    Calls Try.prog 6 #[.agg #[.slice A0_0 l0_0.length c0_0, .bool a0_1], .slice A1 l1.length c1] w fun e w' => e = .returned (.bool r) ∧ Below w.heap.size w w' := by
  have hu24 := Try.underlying24
  have hu28 := Try.underlying28
  have HR0_0 := Aside0.mk hr0_0
  have HC0_0 := Aside0.mk hc0_0
  clear hr0_0 hc0_0
  have HR1 := Aside0.mk hr1
  have HC1 := Aside0.mk hc1
  clear hr1 hc1
  have HB := Aside0.mk (Below.refl w.heap.size w)
  have H : ((pentroughlaw16_awake.f).bind fun t410 => ((pentroughref16_Few.f k l0_0 a0_1).bind fun t411 => (if t411 = true then (pentroughlaw16_ChansIs.j0 k l1 t410 (decide ((l1.length : Int) > 20)) l0_0 a0_1) else (pentroughlaw16_ChansIs.j0 k l1 t410 true l0_0 a0_1)))) = some r := h
  clear h
  obtain ⟨t410, A3, H⟩ := ob H
  have HC4 := Aside0.mk H
  clear H
  go_enter Try.func6, Try.ntmps6
  go_upto_region 2 with (first | ((with_reducible refine gate_dst (N := 2) rfl ?_); (try (refine gate_guard (by rfl) ?_; dsimp only)); refine box_event ?hg (N := 2) ?hd (cs := #[.slice A0_0 l0_0.length c0_0, .bool a0_1]) (t := 24) ?hr ?_; (case hd => rfl); (case hg => rfl); (case hr => first | (go_simp; done) | (go_simp; rfl)); intro gb409 hg w5 hbox hb; have BK409 := Aside0.mk hbox; have GW409 := gE HB hg; have GE409 := gE HB hg; replace HB := hB HB hb; clear hb hbox hg) | ((with_reducible refine gate_callee (f := 9) rfl ?_); refine gL (some 16) rfl rfl Try.func9 (by kernel_rfl) rfl #[] rfl ?_; (with_reducible refine (pentroughlaw16_awake.calls  t410 _ A3.out).mono ?_); rintro e w6 ⟨rfl, hb⟩; refine ⟨_, rfl, ?_⟩; replace BK409 := kB BK409 hb; replace HB := hB HB hb; (try clear hb); (try clear hb2); (try clear hk); (try clear hi)))
  (try simp only [Act.put, List.setIfInBounds_toArray, List.set_cons_zero, List.set_cons_succ])
  go_cut [24] (fun v24 wc => ∃ (kq : Nat) (x24_3 : Bool), v24 = .bool x24_3 ∧ Aside0 (pentroughlaw16_ChansIs.j0 kq l1 t410 x24_3 l0_0 a0_1 = some r) ∧ Aside0 (kq ≤ k) ∧ Aside0 (wc.heap[gb409]? = some (.cells #[(.slice A0_0 l0_0.length c0_0), .bool a0_1] 24 (0, 0))) ∧ Aside0 (Below w.heap.size w wc))
  case first =>
    have H := HC4.out
    clear HC4
    obtain ⟨t411, A7, H⟩ := ob H
    by_cases c8 : t411 = true
    · subst c8
      rw [if_pos rfl] at H
      have H' := Aside0.mk H
      clear H
      obtain ⟨hcz9_0, hcz9_1, hfz9_0, hfz9_1⟩ := bc2 BK409
      go_wp2_with (first | ((with_reducible refine gate_callee (f := 10) rfl ?_); refine gL (some 18) rfl rfl Try.func10 (by kernel_rfl) rfl #[.agg #[.slice A0_0 l0_0.length c0_0, .bool a0_1]] rfl ?_; (with_reducible refine (pentroughref16_Few.calls k _ _ l0_0 a0_1 true _ ?side1 ?side2 A7.out).mono ?_); (case side1 => exact Kd.C_below HR0_0.out (bb HB)); (case side2 => exact HC0_0.out); rintro e w10 ⟨rfl, hb⟩; refine ⟨_, rfl, ?_⟩; replace BK409 := kB BK409 hb; replace HB := hB HB hb; (try clear hb); (try clear hb2); (try clear hk); (try clear hi)))
      go_meet
      case rel => exact ⟨_, (decide ((l1.length : Int) > 20)), (by first | rfl | (simp; done) | (simp [*]; done)), H', ⟨by first | omega | exact Nat.le_refl _⟩, ⟨kk BK409⟩, ⟨bb HB⟩⟩
    · replace c8 := Bool.eq_false_iff.mpr c8
      subst c8
      rw [if_neg nf] at H
      have H' := Aside0.mk H
      clear H
      obtain ⟨hcz11_0, hcz11_1, hfz11_0, hfz11_1⟩ := bc2 BK409
      go_wp2_with (first | ((with_reducible refine gate_callee (f := 10) rfl ?_); refine gL (some 18) rfl rfl Try.func10 (by kernel_rfl) rfl #[.agg #[.slice A0_0 l0_0.length c0_0, .bool a0_1]] rfl ?_; (with_reducible refine (pentroughref16_Few.calls k _ _ l0_0 a0_1 false _ ?side1 ?side2 A7.out).mono ?_); (case side1 => exact Kd.C_below HR0_0.out (bb HB)); (case side2 => exact HC0_0.out); rintro e w12 ⟨rfl, hb⟩; refine ⟨_, rfl, ?_⟩; replace BK409 := kB BK409 hb; replace HB := hB HB hb; (try clear hb); (try clear hb2); (try clear hk); (try clear hi)))
      go_meet
      case rel => exact ⟨_, (true), (by first | rfl | (simp; done) | (simp [*]; done)), H', ⟨by first | omega | exact Nat.le_refl _⟩, ⟨kk BK409⟩, ⟨bb HB⟩⟩
  case rest =>
    clear HC4
    try clear c1
    try clear p2
    try clear c6
    try clear c8
    try clear c9
    try clear c10
    try clear hcz11_0
    try clear hcz11_1
    try clear hcz9_0
    try clear hcz9_1
    try clear hfz11_0
    try clear hfz11_1
    try clear hfz9_0
    try clear hfz9_1
    obtain ⟨kq, x24_3, rfl, HA, HJ3, BK409, HB⟩ := hcut
    cases kq with
    | zero => exact absurd HA.out (by simp [pentroughlaw16_ChansIs.j0])
    | succ kj3 =>
      have H := HA.out
      clear HA
      simp only [pentroughlaw16_ChansIs.j0] at H
      by_cases c13 : x24_3 = true
      · subst c13
        rw [if_pos rfl] at H
        obtain rfl := Option.some.inj H
        go_wp2
        go_ret
        exact ⟨by first | rfl | (simp [errW_none, errW_some] <;> rfl) | (simp [*, errW_none, errW_some] <;> rfl), by repeat (first | (with_reducible first | exact HB.out | apply below_alloc | apply pw_below_drewN | apply below_drew1 | refine below_set ?_ GE409.out) | exact HB.out)⟩
      · replace c13 := Bool.eq_false_iff.mpr c13
        subst c13
        rw [if_neg nf] at H
        obtain ⟨⟨t412, t415⟩, A14, H⟩ := ob H
        (try dsimp only at H)
        obtain ⟨⟨t416, t419, t420⟩, A15, H⟩ := ob H
        (try dsimp only at H)
        obtain ⟨⟨t422, t425, t426⟩, A16, H⟩ := ob H
        (try dsimp only at H)
        obtain ⟨⟨t428, t431⟩, A17, H⟩ := ob H
        (try dsimp only at H)
        obtain ⟨⟨t432, t435, t436, t439⟩, A18, H⟩ := ob H
        (try dsimp only at H)
        obtain ⟨⟨t441, t444, t445, t448⟩, A19, H⟩ := ob H
        (try dsimp only at H)
        have HC20 := Aside0.mk H
        clear H
        obtain ⟨hcz21_0, hcz21_1, hfz21_0, hfz21_1⟩ := bc2 BK409
        go_upto_region 8 with (first | ((with_reducible refine gate_callee (f := 12) rfl ?_); refine gL (some 28) rfl rfl Try.func12 (by kernel_rfl) rfl #[.agg #[.slice A0_0 l0_0.length c0_0, .bool a0_1]] rfl ?_; (with_reducible refine (pentroughlaw16_ours.calls (fun k_ => k_ < w.heap.size) _ _ l0_0 a0_1 t412 t415 _ ?side1 A14.out).mono ?_); (case side1 => exact Kd.V_mk HC0_0.out (Kd.F_below (Kd.C_F (Kd.heap_slice 3 (Kd.heap_int .i64)) HR0_0.out) (bb HB))); rintro e w22 ⟨v413, rfl, ho0, hb⟩; refine ⟨_, rfl, ?_⟩; have HO414 := Aside0.mk (Kd.V_lower (Kd.V_mono (ok' := fun k_ => k_ ≠ gb409) ho0 (fun k_ hk_ => o2 hk_ (gw GW409) (Kd.freshB (kk BK409) k_))) (below_size (bb HB))); replace BK409 := kB BK409 hb; replace HB := hB HB hb; (try clear hb); (try clear hb2); (try clear hk); (try clear hi); (try clear ho0); obtain ⟨Ao23, co23, eo23⟩ := Kd.V_slice HO414.out; subst eo23) | ((with_reducible refine gate_callee (f := 13) rfl ?_); refine gL (some 30) rfl rfl Try.func13 (by kernel_rfl) rfl #[.agg #[.slice Ao23 t412.length co23, .bool t415], .slice A1 l1.length c1] rfl ?_; (with_reducible refine (chans_Put.calls kj3 (fun k_ => k_ ≠ gb409) _ _ t412 t415 (fun k_ => k_ < w.heap.size) _ _ l1 t416 t419 t420 _ ?side1 ?side2 A15.out).mono ?_); (case side1 => exact HO414.out); (case side2 => exact Kd.V_mk HC1.out (Kd.F_below (Kd.C_F (Kd.heap_int .i64) HR1.out) (bb HB))); rintro e w24 ⟨v417, rfl, ho0, hb⟩; refine ⟨_, rfl, ?_⟩; replace HO414 := vB HO414 hb; have HO418 := Aside0.mk (Kd.V_lower (Kd.V_mono (ok' := fun k_ => k_ ≠ gb409) ho0 (fun k_ hk_ => Or.elim hk_ (fun hs_ => Or.elim hs_ (fun hs_ => hs_) (gw GW409)) (fun hn_ => (Kd.freshB (kk BK409) k_ hn_)))) (below_size (bb HB))); replace BK409 := kB BK409 hb; replace HB := hB HB hb; (try clear hb); (try clear hb2); (try clear hk); (try clear hi); (try clear ho0)) | ((with_reducible refine gate_dst (N := 6) rfl ?_); (try (refine gate_guard (by rfl) ?_; dsimp only)); refine box_event ?hg (N := 6) ?hd (cs := #[.slice none 0 0, .bool false]) (t := 28) ?hr ?_; (case hd => rfl); (case hg => rfl); (case hr => first | (go_simp; done) | (go_simp; rfl)); intro gb421 hg w25 hbox hb; replace HO414 := vE HO414 hg hb; replace HO418 := vE HO418 hg hb; have BK421 := Aside0.mk hbox; have GW421 := gE HB hg; have GE421 := gE HB hg; replace HB := hB HB hb; have NB409_421 := nL BK409 hg; have NB421_409 := nG BK409 hg; replace BK409 := kB BK409 hb; clear hb hbox hg; obtain ⟨Ao26, co26, eo26⟩ := Kd.V_slice HO418.out; subst eo26; have hnb27 := NB421_409.out; have hnc27 := NB409_421.out; obtain ⟨hcz28_0, hcz28_1, hfz28_0, hfz28_1⟩ := bc2 BK421) | ((with_reducible refine gate_store (t := 28) (p := 6) rfl ?_); refine store_event (t := 28) (p := 6) (v := ?vo_w29) (w1 := ((w25.setCell ⟨gb421, 0, none⟩ (.slice Ao26 t416.length co26)).setCell ⟨gb421, 1, none⟩ (.bool t419))) ?hg ?ho ?hn ?hr ?_; (case ho => rfl); (case hg => rfl); (case hn => rfl); (case hr => first | (go_simp; done) | (go_simp; rfl)); intro w29 hw; replace HO414 := vS (fun k_ => k_ ≠ gb409 ∧ k_ ≠ gb421) HO414 hw; replace HO418 := vS (fun k_ => k_ ≠ gb409 ∧ k_ ≠ gb421) HO418 hw; replace BK409 := kS BK409 hw; replace BK421 := kP2 BK421 hw; replace HB : Aside0 (Below w.heap.size w w29) := ⟨(by rw [hw]; exact (bb HB))⟩; clear hw; obtain ⟨hcz30_0, hcz30_1, hfz30_0, hfz30_1⟩ := bc2 BK409) | ((with_reducible refine gate_callee (f := 20) rfl ?_); refine gL (some 36) rfl rfl Try.func20 (by kernel_rfl) rfl #[.agg #[.slice A0_0 l0_0.length c0_0, .bool a0_1], .slice A1 l1.length c1] rfl ?_; (with_reducible refine (pentroughref16_Put.calls kj3 (fun k_ => k_ < w.heap.size) _ _ l0_0 a0_1 (fun k_ => k_ < w.heap.size) _ _ l1 t422 t425 t426 _ ?side1 ?side2 A16.out).mono ?_); (case side1 => exact Kd.V_mk HC0_0.out (Kd.F_below (Kd.C_F (Kd.heap_slice 3 (Kd.heap_int .i64)) HR0_0.out) (bb HB))); (case side2 => exact Kd.V_mk HC1.out (Kd.F_below (Kd.C_F (Kd.heap_int .i64) HR1.out) (bb HB))); rintro e w31 ⟨v423, rfl, ho0, hb⟩; refine ⟨_, rfl, ?_⟩; replace HO414 := vB HO414 hb; replace HO418 := vB HO418 hb; have HO424 := Aside0.mk (Kd.V_lower (Kd.V_mono (ok' := fun k_ => k_ ≠ gb409 ∧ k_ ≠ gb421) ho0 (fun k_ hk_ => ⟨oe hk_ (gw GW409) (gw GW409) (Kd.freshB (kk BK409) k_), oe hk_ (gw GW421) (gw GW421) (Kd.freshB (kk BK421) k_)⟩)) (below_size (bb HB))); replace BK409 := kB BK409 hb; replace BK421 := kB BK421 hb; replace HB := hB HB hb; (try clear hb); (try clear hb2); (try clear hk); (try clear hi); (try clear ho0)) | ((with_reducible refine gate_dst (N := 8) rfl ?_); (try (refine gate_guard (by rfl) ?_; dsimp only)); refine box_event ?hg (N := 8) ?hd (cs := #[.slice none 0 0, .bool false]) (t := 24) ?hr ?_; (case hd => rfl); (case hg => rfl); (case hr => first | (go_simp; done) | (go_simp; rfl)); intro gb427 hg w32 hbox hb; replace HO414 := vE HO414 hg hb; replace HO418 := vE HO418 hg hb; replace HO424 := vE HO424 hg hb; have BK427 := Aside0.mk hbox; have GW427 := gE HB hg; have GE427 := gE HB hg; replace HB := hB HB hb; have NB409_427 := nL BK409 hg; have NB427_409 := nG BK409 hg; replace BK409 := kB BK409 hb; have NB421_427 := nL BK421 hg; have NB427_421 := nG BK421 hg; replace BK421 := kB BK421 hb; clear hb hbox hg; obtain ⟨Ao33, co33, eo33⟩ := Kd.V_slice HO424.out; subst eo33; have hnb34 := NB427_409.out; have hnc34 := NB409_427.out; have hnb35 := NB427_421.out; have hnc35 := NB421_427.out; obtain ⟨hcz36_0, hcz36_1, hfz36_0, hfz36_1⟩ := bc2 BK427) | ((with_reducible refine gate_store (t := 24) (p := 8) rfl ?_); refine store_event (t := 24) (p := 8) (v := ?vo_w37) (w1 := ((w32.setCell ⟨gb427, 0, none⟩ (.slice Ao33 t422.length co33)).setCell ⟨gb427, 1, none⟩ (.bool t425))) ?hg ?ho ?hn ?hr ?_; (case ho => rfl); (case hg => rfl); (case hn => rfl); (case hr => first | (go_simp; done) | (go_simp; rfl)); intro w37 hw; replace HO414 := vS (fun k_ => k_ ≠ gb409 ∧ k_ ≠ gb421 ∧ k_ ≠ gb427) HO414 hw; replace HO418 := vS (fun k_ => k_ ≠ gb409 ∧ k_ ≠ gb421 ∧ k_ ≠ gb427) HO418 hw; replace HO424 := vS (fun k_ => k_ ≠ gb409 ∧ k_ ≠ gb421 ∧ k_ ≠ gb427) HO424 hw; replace BK409 := kS BK409 hw; replace BK421 := kS BK421 hw; replace BK427 := kP2 BK427 hw; replace HB : Aside0 (Below w.heap.size w w37) := ⟨(by rw [hw]; exact (bb HB))⟩; clear hw; obtain ⟨hcz38_0, hcz38_1, hfz38_0, hfz38_1⟩ := bc2 BK409) | ((with_reducible refine gate_callee (f := 12) rfl ?_); refine gL (some 41) rfl rfl Try.func12 (by kernel_rfl) rfl #[.agg #[.slice A0_0 l0_0.length c0_0, .bool a0_1]] rfl ?_; (with_reducible refine (pentroughlaw16_ours.calls (fun k_ => k_ < w.heap.size) _ _ l0_0 a0_1 t428 t431 _ ?side1 A17.out).mono ?_); (case side1 => exact Kd.V_mk HC0_0.out (Kd.F_below (Kd.C_F (Kd.heap_slice 3 (Kd.heap_int .i64)) HR0_0.out) (bb HB))); rintro e w39 ⟨v429, rfl, ho0, hb⟩; refine ⟨_, rfl, ?_⟩; replace HO414 := vB HO414 hb; replace HO418 := vB HO418 hb; replace HO424 := vB HO424 hb; have HO430 := Aside0.mk (Kd.V_lower (Kd.V_mono (ok' := fun k_ => k_ ≠ gb409 ∧ k_ ≠ gb421 ∧ k_ ≠ gb427) ho0 (fun k_ hk_ => ⟨o2 hk_ (gw GW409) (Kd.freshB (kk BK409) k_), o2 hk_ (gw GW421) (Kd.freshB (kk BK421) k_), o2 hk_ (gw GW427) (Kd.freshB (kk BK427) k_)⟩)) (below_size (bb HB))); replace BK409 := kB BK409 hb; replace BK421 := kB BK421 hb; replace BK427 := kB BK427 hb; replace HB := hB HB hb; (try clear hb); (try clear hb2); (try clear hk); (try clear hi); (try clear ho0); obtain ⟨Ao40, co40, eo40⟩ := Kd.V_slice HO430.out; subst eo40) | ((with_reducible refine gate_callee (f := 14) rfl ?_); refine gL (some 42) rfl rfl Try.func14 (by kernel_rfl) rfl #[.agg #[.slice Ao40 t428.length co40, .bool t431]] rfl ?_; (with_reducible refine (chans_Take.calls kj3 (fun k_ => (k_ ≠ gb409 ∧ (k_ ≠ gb421 ∧ k_ ≠ gb427))) _ _ t428 t431 t432 t435 t436 t439 _ ?side1 A18.out).mono ?_); (case side1 => exact HO430.out); rintro e w41 ⟨v433, v437, rfl, ho0, ho1, hb⟩; refine ⟨_, rfl, ?_⟩; replace HO414 := vB HO414 hb; replace HO418 := vB HO418 hb; replace HO424 := vB HO424 hb; replace HO430 := vB HO430 hb; have HO434 := Aside0.mk (Kd.V_lower (Kd.V_mono (ok' := fun k_ => k_ ≠ gb409 ∧ k_ ≠ gb421 ∧ k_ ≠ gb427) ho0 (fun k_ hk_ => ⟨o2 hk_ (fun h => h.1) (Kd.freshB (kk BK409) k_), o2 hk_ (fun h => h.2.1) (Kd.freshB (kk BK421) k_), o2 hk_ (fun h => h.2.2) (Kd.freshB (kk BK427) k_)⟩)) (below_size (bb HB))); have HO438 := Aside0.mk (Kd.V_lower (Kd.V_mono (ok' := fun k_ => k_ ≠ gb409 ∧ k_ ≠ gb421 ∧ k_ ≠ gb427) ho1 (fun k_ hk_ => ⟨o2 hk_ (fun h => h.1) (Kd.freshB (kk BK409) k_), o2 hk_ (fun h => h.2.1) (Kd.freshB (kk BK421) k_), o2 hk_ (fun h => h.2.2) (Kd.freshB (kk BK427) k_)⟩)) (below_size (bb HB))); replace BK409 := kB BK409 hb; replace BK421 := kB BK421 hb; replace BK427 := kB BK427 hb; replace HB := hB HB hb; (try clear hb); (try clear hb2); (try clear hk); (try clear hi); (try clear ho0); (try clear ho1)) | ((with_reducible refine gate_dst (N := 10) rfl ?_); (try (refine gate_guard (by rfl) ?_; dsimp only)); refine box_event ?hg (N := 10) ?hd (cs := #[.slice none 0 0, .bool false]) (t := 28) ?hr ?_; (case hd => rfl); (case hg => rfl); (case hr => first | (go_simp; done) | (go_simp; rfl)); intro gb440 hg w42 hbox hb; replace HO414 := vE HO414 hg hb; replace HO418 := vE HO418 hg hb; replace HO424 := vE HO424 hg hb; replace HO430 := vE HO430 hg hb; replace HO434 := vE HO434 hg hb; replace HO438 := vE HO438 hg hb; have BK440 := Aside0.mk hbox; have GW440 := gE HB hg; have GE440 := gE HB hg; replace HB := hB HB hb; have NB409_440 := nL BK409 hg; have NB440_409 := nG BK409 hg; replace BK409 := kB BK409 hb; have NB421_440 := nL BK421 hg; have NB440_421 := nG BK421 hg; replace BK421 := kB BK421 hb; have NB427_440 := nL BK427 hg; have NB440_427 := nG BK427 hg; replace BK427 := kB BK427 hb; clear hb hbox hg; obtain ⟨Ao43, co43, eo43⟩ := Kd.V_slice HO434.out; subst eo43; have hnb44 := NB440_409.out; have hnc44 := NB409_440.out; have hnb45 := NB440_421.out; have hnc45 := NB421_440.out; have hnb46 := NB440_427.out; have hnc46 := NB427_440.out; obtain ⟨hcz47_0, hcz47_1, hfz47_0, hfz47_1⟩ := bc2 BK440) | ((with_reducible refine gate_store (t := 28) (p := 10) rfl ?_); refine store_event (t := 28) (p := 10) (v := ?vo_w48) (w1 := ((w42.setCell ⟨gb440, 0, none⟩ (.slice Ao43 t432.length co43)).setCell ⟨gb440, 1, none⟩ (.bool t435))) ?hg ?ho ?hn ?hr ?_; (case ho => rfl); (case hg => rfl); (case hn => rfl); (case hr => first | (go_simp; done) | (go_simp; rfl)); intro w48 hw; replace HO414 := vS (fun k_ => k_ ≠ gb409 ∧ k_ ≠ gb421 ∧ k_ ≠ gb427 ∧ k_ ≠ gb440) HO414 hw; replace HO418 := vS (fun k_ => k_ ≠ gb409 ∧ k_ ≠ gb421 ∧ k_ ≠ gb427 ∧ k_ ≠ gb440) HO418 hw; replace HO424 := vS (fun k_ => k_ ≠ gb409 ∧ k_ ≠ gb421 ∧ k_ ≠ gb427 ∧ k_ ≠ gb440) HO424 hw; replace HO430 := vS (fun k_ => k_ ≠ gb409 ∧ k_ ≠ gb421 ∧ k_ ≠ gb427 ∧ k_ ≠ gb440) HO430 hw; replace HO434 := vS (fun k_ => k_ ≠ gb409 ∧ k_ ≠ gb421 ∧ k_ ≠ gb427 ∧ k_ ≠ gb440) HO434 hw; replace HO438 := vS (fun k_ => k_ ≠ gb409 ∧ k_ ≠ gb421 ∧ k_ ≠ gb427 ∧ k_ ≠ gb440) HO438 hw; replace BK409 := kS BK409 hw; replace BK421 := kS BK421 hw; replace BK427 := kS BK427 hw; replace BK440 := kP2 BK440 hw; replace HB : Aside0 (Below w.heap.size w w48) := ⟨(by rw [hw]; exact (bb HB))⟩; clear hw; obtain ⟨hcz49_0, hcz49_1, hfz49_0, hfz49_1⟩ := bc2 BK409) | ((with_reducible refine gate_callee (f := 21) rfl ?_); refine gL (some 48) rfl rfl Try.func21 (by kernel_rfl) rfl #[.agg #[.slice A0_0 l0_0.length c0_0, .bool a0_1]] rfl ?_; (with_reducible refine (pentroughref16_Take.calls kj3 (fun k_ => k_ < w.heap.size) _ _ l0_0 a0_1 t441 t444 t445 t448 _ ?side1 A19.out).mono ?_); (case side1 => exact Kd.V_mk HC0_0.out (Kd.F_below (Kd.C_F (Kd.heap_slice 3 (Kd.heap_int .i64)) HR0_0.out) (bb HB))); rintro e w50 ⟨v442, v446, rfl, ho0, ho1, hb⟩; refine ⟨_, rfl, ?_⟩; replace HO414 := vB HO414 hb; replace HO418 := vB HO418 hb; replace HO424 := vB HO424 hb; replace HO430 := vB HO430 hb; replace HO434 := vB HO434 hb; replace HO438 := vB HO438 hb; have HO443 := Aside0.mk (Kd.V_lower (Kd.V_mono (ok' := fun k_ => k_ ≠ gb409 ∧ k_ ≠ gb421 ∧ k_ ≠ gb427 ∧ k_ ≠ gb440) ho0 (fun k_ hk_ => ⟨o2 hk_ (gw GW409) (Kd.freshB (kk BK409) k_), o2 hk_ (gw GW421) (Kd.freshB (kk BK421) k_), o2 hk_ (gw GW427) (Kd.freshB (kk BK427) k_), o2 hk_ (gw GW440) (Kd.freshB (kk BK440) k_)⟩)) (below_size (bb HB))); have HO447 := Aside0.mk (Kd.V_lower (Kd.V_mono (ok' := fun k_ => k_ ≠ gb409 ∧ k_ ≠ gb421 ∧ k_ ≠ gb427 ∧ k_ ≠ gb440) ho1 (fun k_ hk_ => ⟨o2 hk_ (gw GW409) (Kd.freshB (kk BK409) k_), o2 hk_ (gw GW421) (Kd.freshB (kk BK421) k_), o2 hk_ (gw GW427) (Kd.freshB (kk BK427) k_), o2 hk_ (gw GW440) (Kd.freshB (kk BK440) k_)⟩)) (below_size (bb HB))); replace BK409 := kB BK409 hb; replace BK421 := kB BK421 hb; replace BK427 := kB BK427 hb; replace BK440 := kB BK440 hb; replace HB := hB HB hb; (try clear hb); (try clear hb2); (try clear hk); (try clear hi); (try clear ho0); (try clear ho1)) | ((with_reducible refine gate_dst (N := 13) rfl ?_); (try (refine gate_guard (by rfl) ?_; dsimp only)); refine box_event ?hg (N := 13) ?hd (cs := #[.slice none 0 0, .bool false]) (t := 24) ?hr ?_; (case hd => rfl); (case hg => rfl); (case hr => first | (go_simp; done) | (go_simp; rfl)); intro gb449 hg w51 hbox hb; replace HO414 := vE HO414 hg hb; replace HO418 := vE HO418 hg hb; replace HO424 := vE HO424 hg hb; replace HO430 := vE HO430 hg hb; replace HO434 := vE HO434 hg hb; replace HO438 := vE HO438 hg hb; replace HO443 := vE HO443 hg hb; replace HO447 := vE HO447 hg hb; have BK449 := Aside0.mk hbox; have GW449 := gE HB hg; have GE449 := gE HB hg; replace HB := hB HB hb; have NB409_449 := nL BK409 hg; have NB449_409 := nG BK409 hg; replace BK409 := kB BK409 hb; have NB421_449 := nL BK421 hg; have NB449_421 := nG BK421 hg; replace BK421 := kB BK421 hb; have NB427_449 := nL BK427 hg; have NB449_427 := nG BK427 hg; replace BK427 := kB BK427 hb; have NB440_449 := nL BK440 hg; have NB449_440 := nG BK440 hg; replace BK440 := kB BK440 hb; clear hb hbox hg; obtain ⟨Ao52, co52, eo52⟩ := Kd.V_slice HO443.out; subst eo52; have hnb53 := NB449_409.out; have hnc53 := NB409_449.out; have hnb54 := NB449_421.out; have hnc54 := NB421_449.out; have hnb55 := NB449_427.out; have hnc55 := NB427_449.out; have hnb56 := NB449_440.out; have hnc56 := NB440_449.out; obtain ⟨hcz57_0, hcz57_1, hfz57_0, hfz57_1⟩ := bc2 BK449))
        (try simp only [Act.put, List.setIfInBounds_toArray, List.set_cons_zero, List.set_cons_succ])
        go_cut [77] (fun v77 wc => ∃ (kq : Nat) (x77_19 : Bool), v77 = .bool x77_19 ∧ Aside0 (pentroughlaw16_ChansIs.j1 kq t410 x77_19 l0_0 a0_1 = some r) ∧ Aside0 (kq ≤ kj3) ∧ Aside0 (Kd.V (Kd.slice 3 (Kd.int .i64)) 32 wc w.heap.size (fun k_ => k_ ≠ gb409 ∧ k_ ≠ gb421 ∧ k_ ≠ gb427 ∧ k_ ≠ gb440 ∧ k_ ≠ gb449) (.slice Ao26 t416.length co26) t416) ∧ Aside0 (Kd.V (Kd.slice 3 (Kd.int .i64)) 32 wc w.heap.size (fun k_ => k_ ≠ gb409 ∧ k_ ≠ gb421 ∧ k_ ≠ gb427 ∧ k_ ≠ gb440 ∧ k_ ≠ gb449) (.slice Ao33 t422.length co33) t422) ∧ Aside0 (Kd.V (Kd.slice 3 (Kd.int .i64)) 32 wc w.heap.size (fun k_ => k_ ≠ gb409 ∧ k_ ≠ gb421 ∧ k_ ≠ gb427 ∧ k_ ≠ gb440 ∧ k_ ≠ gb449) (.slice Ao43 t432.length co43) t432) ∧ Aside0 (Kd.V (Kd.slice 3 (Kd.int .i64)) 32 wc w.heap.size (fun k_ => k_ ≠ gb409 ∧ k_ ≠ gb421 ∧ k_ ≠ gb427 ∧ k_ ≠ gb440 ∧ k_ ≠ gb449) (.slice Ao52 t441.length co52) t441) ∧ Aside0 (wc.heap[gb409]? = some (.cells #[(.slice A0_0 l0_0.length c0_0), .bool a0_1] 24 (0, 0))) ∧ Aside0 (wc.heap[gb421]? = some (.cells #[(.slice Ao26 t416.length co26), .bool t419] 28 (0, 0))) ∧ Aside0 (wc.heap[gb427]? = some (.cells #[(.slice Ao33 t422.length co33), .bool t425] 24 (0, 0))) ∧ Aside0 (wc.heap[gb440]? = some (.cells #[(.slice Ao43 t432.length co43), .bool t435] 28 (0, 0))) ∧ Aside0 (wc.heap[gb449]? = some (.cells #[(.slice Ao52 t441.length co52), .bool t444] 24 (0, 0))) ∧ Aside0 (Below w.heap.size w wc))
        case first =>
          have H := HC20.out
          clear HC20
          by_cases c58 : (t420 != t426) = true
          · rw [if_pos c58] at H
            have c58b0 : (t420 != t426) = true := c58
            (try (have c58b1 : decide (t420 = t426) = false := by simpa using c58))
            (try (have c58b2 : (t420 == t426) = false := by simpa using c58))
            (try (have c58b3 : ¬ (t420 = t426) := by simpa using c58))
            clear c58
            (first | rw [c58b0] | (simp only [i64_w, i32_w]; rw [c58b0]) | skip)
            have H' := Aside0.mk H
            clear H
            go_wp2
            go_meet
            case rel => exact ⟨_, (true), (by first | rfl | (simp; done) | (simp [*]; done)), H', ⟨by have := HJ3.out; first | omega | exact Nat.le_refl _⟩, ⟨vX HO418⟩, ⟨vX HO424⟩, ⟨vX HO434⟩, ⟨vX HO443⟩, ⟨kX BK409⟩, ⟨kX BK421⟩, ⟨kX BK427⟩, ⟨kX BK440⟩, ⟨by (with_reducible repeat (first | refine blk_drewN ?_ _ | refine blk_drew ?_ | refine blk_alloc ?_ _)); refine blk_put (cs := #[.slice Ao52 t441.length co52, .bool false]) ?_ 1 _ rfl; (with_reducible repeat (first | refine blk_drewN ?_ _ | refine blk_drew ?_ | refine blk_alloc ?_ _)); refine blk_put (cs := #[.slice none 0 0, .bool false]) ?_ 0 _ rfl; (with_reducible repeat (first | refine blk_drewN ?_ _ | refine blk_drew ?_ | refine blk_alloc ?_ _)); exact BK449.out⟩, ⟨bb HB⟩⟩
          · rw [if_neg c58] at H
            have c58b0 : (t420 != t426) = false := by simpa using c58
            (try (have c58b1 : decide (t420 = t426) = true := by simpa using c58))
            (try (have c58b2 : (t420 == t426) = true := by simpa using c58))
            clear c58
            (first | rw [c58b0] | (simp only [i64_w, i32_w]; rw [c58b0]) | skip)
            obtain ⟨t450, A59, H⟩ := ob H
            by_cases c60 : t450 = true
            · subst c60
              rw [if_pos rfl] at H
              by_cases c61 : (t439 != t448) = true
              · rw [if_pos c61] at H
                have c61b0 : (t439 != t448) = true := c61
                (try (have c61b1 : decide (t439 = t448) = false := by simpa using c61))
                (try (have c61b2 : (t439 == t448) = false := by simpa using c61))
                (try (have c61b3 : ¬ (t439 = t448) := by simpa using c61))
                clear c61
                have H' := Aside0.mk H
                clear H
                have hnb62 := NB421_409.out
                have hnc62 := NB409_421.out
                have hnb63 := NB421_427.out
                have hnc63 := NB427_421.out
                have hnb64 := NB421_440.out
                have hnc64 := NB440_421.out
                have hnb65 := NB421_449.out
                have hnc65 := NB449_421.out
                obtain ⟨hcz66_0, hcz66_1, hfz66_0, hfz66_1⟩ := bc2 BK421
                have hnb67 := NB427_409.out
                have hnc67 := NB409_427.out
                have hnb68 := NB427_440.out
                have hnc68 := NB440_427.out
                have hnb69 := NB427_449.out
                have hnc69 := NB449_427.out
                obtain ⟨hcz70_0, hcz70_1, hfz70_0, hfz70_1⟩ := bc2 BK427
                go_wp2_with (first | (go_at_call 19; (with_reducible refine (pentroughlaw16_same.calls kj3 _ _ t416 t419 _ _ t422 t425 true _ ?side1 ?side2 ?side3 ?side4 A59.out).mono ?_); (case side1 => refine (Kd.V_reads' (e := 32) (base := w.heap.size) (ok := fun k_ => ((k_ ≠ gb409 ∧ (k_ ≠ gb421 ∧ (k_ ≠ gb427 ∧ k_ ≠ gb440))) ∧ k_ ≠ gb449)) (n := t416.length) (c := co26) ?_).2.2; exact (vX HO418)); (case side2 => exact (Kd.V_reads' HO418.out).2.1); (case side3 => refine (Kd.V_reads' (e := 32) (base := w.heap.size) (ok := fun k_ => ((k_ ≠ gb409 ∧ (k_ ≠ gb421 ∧ (k_ ≠ gb427 ∧ k_ ≠ gb440))) ∧ k_ ≠ gb449)) (n := t422.length) (c := co33) ?_).2.2; exact (vX HO424)); (case side4 => exact (Kd.V_reads' HO424.out).2.1); rintro e w71 ⟨rfl, hb⟩; replace HO414 := Aside0.mk (Kd.V_below (vX HO414) hb); replace HO418 := Aside0.mk (Kd.V_below (vX HO418) hb); replace HO424 := Aside0.mk (Kd.V_below (vX HO424) hb); replace HO430 := Aside0.mk (Kd.V_below (vX HO430) hb); replace HO434 := Aside0.mk (Kd.V_below (vX HO434) hb); replace HO438 := Aside0.mk (Kd.V_below (vX HO438) hb); replace HO443 := Aside0.mk (Kd.V_below (vX HO443) hb); replace HO447 := Aside0.mk (Kd.V_below (vX HO447) hb); replace BK409 := Aside0.mk (blk_below (g := gb409) (o := .cells #[.slice A0_0 l0_0.length c0_0, .bool a0_1] 24 (0, 0)) (kX BK409) hb); replace BK421 := Aside0.mk (blk_below (g := gb421) (o := .cells #[.slice Ao26 t416.length co26, .bool t419] 28 (0, 0)) (kX BK421) hb); replace BK427 := Aside0.mk (blk_below (g := gb427) (o := .cells #[.slice Ao33 t422.length co33, .bool t425] 24 (0, 0)) (kX BK427) hb); replace BK440 := Aside0.mk (blk_below (g := gb440) (o := .cells #[.slice Ao43 t432.length co43, .bool t435] 28 (0, 0)) (kX BK440) hb); replace BK449 := Aside0.mk (blk_below (g := gb449) (o := .cells #[.slice Ao52 t441.length co52, .bool t444] 24 (0, 0)) (by (with_reducible repeat (first | refine blk_drewN ?_ _ | refine blk_drew ?_ | refine blk_alloc ?_ _)); refine blk_put (cs := #[.slice Ao52 t441.length co52, .bool false]) ?_ 1 _ rfl; (with_reducible repeat (first | refine blk_drewN ?_ _ | refine blk_drew ?_ | refine blk_alloc ?_ _)); refine blk_put (cs := #[.slice none 0 0, .bool false]) ?_ 0 _ rfl; (with_reducible repeat (first | refine blk_drewN ?_ _ | refine blk_drew ?_ | refine blk_alloc ?_ _)); exact BK449.out) hb); replace HB := hB HB hb; (try clear hb); (try clear hb2); (try clear hk); (try clear hi)))
                go_meet
                case rel => exact ⟨_, (true), (by first | rfl | (simp; done) | (simp [*]; done)), H', ⟨by have := HJ3.out; first | omega | exact Nat.le_refl _⟩, ⟨vM HO418⟩, ⟨vM HO424⟩, ⟨vM HO434⟩, ⟨vM HO443⟩, ⟨kk BK409⟩, ⟨kk BK421⟩, ⟨kk BK427⟩, ⟨kk BK440⟩, ⟨kk BK449⟩, ⟨bb HB⟩⟩
              · rw [if_neg c61] at H
                have c61b0 : (t439 != t448) = false := by simpa using c61
                (try (have c61b1 : decide (t439 = t448) = true := by simpa using c61))
                (try (have c61b2 : (t439 == t448) = true := by simpa using c61))
                clear c61
                obtain ⟨t451, A72, H⟩ := ob H
                by_cases c73 : t451 = true
                · subst c73
                  rw [if_pos rfl] at H
                  obtain ⟨t452, A74, H⟩ := ob H
                  have H' := Aside0.mk H
                  clear H
                  have hnb75 := NB421_409.out
                  have hnc75 := NB409_421.out
                  have hnb76 := NB421_427.out
                  have hnc76 := NB427_421.out
                  have hnb77 := NB421_440.out
                  have hnc77 := NB440_421.out
                  have hnb78 := NB421_449.out
                  have hnc78 := NB449_421.out
                  obtain ⟨hcz79_0, hcz79_1, hfz79_0, hfz79_1⟩ := bc2 BK421
                  have hnb80 := NB427_409.out
                  have hnc80 := NB409_427.out
                  have hnb81 := NB427_440.out
                  have hnc81 := NB440_427.out
                  have hnb82 := NB427_449.out
                  have hnc82 := NB449_427.out
                  obtain ⟨hcz83_0, hcz83_1, hfz83_0, hfz83_1⟩ := bc2 BK427
                  go_wp2_with (first | (go_at_call 19; (with_reducible refine (pentroughlaw16_same.calls kj3 _ _ t416 t419 _ _ t422 t425 true _ ?side1 ?side2 ?side3 ?side4 A59.out).mono ?_); (case side1 => refine (Kd.V_reads' (e := 32) (base := w.heap.size) (ok := fun k_ => ((k_ ≠ gb409 ∧ (k_ ≠ gb421 ∧ (k_ ≠ gb427 ∧ k_ ≠ gb440))) ∧ k_ ≠ gb449)) (n := t416.length) (c := co26) ?_).2.2; exact (vX HO418)); (case side2 => exact (Kd.V_reads' HO418.out).2.1); (case side3 => refine (Kd.V_reads' (e := 32) (base := w.heap.size) (ok := fun k_ => ((k_ ≠ gb409 ∧ (k_ ≠ gb421 ∧ (k_ ≠ gb427 ∧ k_ ≠ gb440))) ∧ k_ ≠ gb449)) (n := t422.length) (c := co33) ?_).2.2; exact (vX HO424)); (case side4 => exact (Kd.V_reads' HO424.out).2.1); rintro e w84 ⟨rfl, hb⟩; replace HO414 := Aside0.mk (Kd.V_below (vX HO414) hb); replace HO418 := Aside0.mk (Kd.V_below (vX HO418) hb); replace HO424 := Aside0.mk (Kd.V_below (vX HO424) hb); replace HO430 := Aside0.mk (Kd.V_below (vX HO430) hb); replace HO434 := Aside0.mk (Kd.V_below (vX HO434) hb); replace HO438 := Aside0.mk (Kd.V_below (vX HO438) hb); replace HO443 := Aside0.mk (Kd.V_below (vX HO443) hb); replace HO447 := Aside0.mk (Kd.V_below (vX HO447) hb); replace BK409 := Aside0.mk (blk_below (g := gb409) (o := .cells #[.slice A0_0 l0_0.length c0_0, .bool a0_1] 24 (0, 0)) (kX BK409) hb); replace BK421 := Aside0.mk (blk_below (g := gb421) (o := .cells #[.slice Ao26 t416.length co26, .bool t419] 28 (0, 0)) (kX BK421) hb); replace BK427 := Aside0.mk (blk_below (g := gb427) (o := .cells #[.slice Ao33 t422.length co33, .bool t425] 24 (0, 0)) (kX BK427) hb); replace BK440 := Aside0.mk (blk_below (g := gb440) (o := .cells #[.slice Ao43 t432.length co43, .bool t435] 28 (0, 0)) (kX BK440) hb); replace BK449 := Aside0.mk (blk_below (g := gb449) (o := .cells #[.slice Ao52 t441.length co52, .bool t444] 24 (0, 0)) (by (with_reducible repeat (first | refine blk_drewN ?_ _ | refine blk_drew ?_ | refine blk_alloc ?_ _)); refine blk_put (cs := #[.slice Ao52 t441.length co52, .bool false]) ?_ 1 _ rfl; (with_reducible repeat (first | refine blk_drewN ?_ _ | refine blk_drew ?_ | refine blk_alloc ?_ _)); refine blk_put (cs := #[.slice none 0 0, .bool false]) ?_ 0 _ rfl; (with_reducible repeat (first | refine blk_drewN ?_ _ | refine blk_drew ?_ | refine blk_alloc ?_ _)); exact BK449.out) hb); replace HB := hB HB hb; (try clear hb); (try clear hb2); (try clear hk); (try clear hi); have hnb85 := NB440_409.out; have hnc85 := NB409_440.out; have hnb86 := NB440_449.out; have hnc86 := NB449_440.out; obtain ⟨hcz87_0, hcz87_1, hfz87_0, hfz87_1⟩ := bc2 BK440; have hnb88 := NB449_409.out; have hnc88 := NB409_449.out; obtain ⟨hcz89_0, hcz89_1, hfz89_0, hfz89_1⟩ := bc2 BK449) | (go_at_call 19; (with_reducible refine (pentroughlaw16_same.calls kj3 _ _ t432 t435 _ _ t441 t444 true _ ?side1 ?side2 ?side3 ?side4 A72.out).mono ?_); (case side1 => exact (Kd.V_reads' (vv HO434)).2.2); (case side2 => exact (Kd.V_reads' HO434.out).2.1); (case side3 => exact (Kd.V_reads' (vv HO443)).2.2); (case side4 => exact (Kd.V_reads' HO443.out).2.1); rintro e w90 ⟨rfl, hb⟩; replace HO414 := vB HO414 hb; replace HO418 := vB HO418 hb; replace HO424 := vB HO424 hb; replace HO430 := vB HO430 hb; replace HO434 := vB HO434 hb; replace HO438 := vB HO438 hb; replace HO443 := vB HO443 hb; replace HO447 := vB HO447 hb; replace BK409 := kB BK409 hb; replace BK421 := kB BK421 hb; replace BK427 := kB BK427 hb; replace BK440 := kB BK440 hb; replace BK449 := kB BK449 hb; replace HB := hB HB hb; (try clear hb); (try clear hb2); (try clear hk); (try clear hi); obtain ⟨Ao91, co91, eo91⟩ := Kd.V_slice HO438.out; subst eo91; obtain ⟨Ao92, co92, eo92⟩ := Kd.V_slice HO447.out; subst eo92) | (go_at_call 18; (with_reducible refine (pentroughref01_Same.calls kj3 _ _ t436 _ _ t445 t452 _ ?side1 ?side2 ?side3 ?side4 A74.out).mono ?_); (case side1 => exact (Kd.V_reads' (vv HO438)).2.2); (case side2 => exact (Kd.V_reads' HO438.out).2.1); (case side3 => exact (Kd.V_reads' (vv HO447)).2.2); (case side4 => exact (Kd.V_reads' HO447.out).2.1); rintro e w' ⟨rfl, ⟨nd, rfl⟩⟩))
                  go_meet
                  case rel => exact ⟨_, (!t452), (by first | rfl | (simp; done) | (simp [*]; done)), H', ⟨by have := HJ3.out; first | omega | exact Nat.le_refl _⟩, ⟨vM HO418⟩, ⟨vM HO424⟩, ⟨vM HO434⟩, ⟨vM HO443⟩, ⟨kk BK409⟩, ⟨kk BK421⟩, ⟨kk BK427⟩, ⟨kk BK440⟩, ⟨kk BK449⟩, ⟨bb HB⟩⟩
                · replace c73 := Bool.eq_false_iff.mpr c73
                  subst c73
                  rw [if_neg nf] at H
                  have H' := Aside0.mk H
                  clear H
                  have hnb93 := NB421_409.out
                  have hnc93 := NB409_421.out
                  have hnb94 := NB421_427.out
                  have hnc94 := NB427_421.out
                  have hnb95 := NB421_440.out
                  have hnc95 := NB440_421.out
                  have hnb96 := NB421_449.out
                  have hnc96 := NB449_421.out
                  obtain ⟨hcz97_0, hcz97_1, hfz97_0, hfz97_1⟩ := bc2 BK421
                  have hnb98 := NB427_409.out
                  have hnc98 := NB409_427.out
                  have hnb99 := NB427_440.out
                  have hnc99 := NB440_427.out
                  have hnb100 := NB427_449.out
                  have hnc100 := NB449_427.out
                  obtain ⟨hcz101_0, hcz101_1, hfz101_0, hfz101_1⟩ := bc2 BK427
                  go_wp2_with (first | (go_at_call 19; (with_reducible refine (pentroughlaw16_same.calls kj3 _ _ t416 t419 _ _ t422 t425 true _ ?side1 ?side2 ?side3 ?side4 A59.out).mono ?_); (case side1 => refine (Kd.V_reads' (e := 32) (base := w.heap.size) (ok := fun k_ => ((k_ ≠ gb409 ∧ (k_ ≠ gb421 ∧ (k_ ≠ gb427 ∧ k_ ≠ gb440))) ∧ k_ ≠ gb449)) (n := t416.length) (c := co26) ?_).2.2; exact (vX HO418)); (case side2 => exact (Kd.V_reads' HO418.out).2.1); (case side3 => refine (Kd.V_reads' (e := 32) (base := w.heap.size) (ok := fun k_ => ((k_ ≠ gb409 ∧ (k_ ≠ gb421 ∧ (k_ ≠ gb427 ∧ k_ ≠ gb440))) ∧ k_ ≠ gb449)) (n := t422.length) (c := co33) ?_).2.2; exact (vX HO424)); (case side4 => exact (Kd.V_reads' HO424.out).2.1); rintro e w102 ⟨rfl, hb⟩; replace HO414 := Aside0.mk (Kd.V_below (vX HO414) hb); replace HO418 := Aside0.mk (Kd.V_below (vX HO418) hb); replace HO424 := Aside0.mk (Kd.V_below (vX HO424) hb); replace HO430 := Aside0.mk (Kd.V_below (vX HO430) hb); replace HO434 := Aside0.mk (Kd.V_below (vX HO434) hb); replace HO438 := Aside0.mk (Kd.V_below (vX HO438) hb); replace HO443 := Aside0.mk (Kd.V_below (vX HO443) hb); replace HO447 := Aside0.mk (Kd.V_below (vX HO447) hb); replace BK409 := Aside0.mk (blk_below (g := gb409) (o := .cells #[.slice A0_0 l0_0.length c0_0, .bool a0_1] 24 (0, 0)) (kX BK409) hb); replace BK421 := Aside0.mk (blk_below (g := gb421) (o := .cells #[.slice Ao26 t416.length co26, .bool t419] 28 (0, 0)) (kX BK421) hb); replace BK427 := Aside0.mk (blk_below (g := gb427) (o := .cells #[.slice Ao33 t422.length co33, .bool t425] 24 (0, 0)) (kX BK427) hb); replace BK440 := Aside0.mk (blk_below (g := gb440) (o := .cells #[.slice Ao43 t432.length co43, .bool t435] 28 (0, 0)) (kX BK440) hb); replace BK449 := Aside0.mk (blk_below (g := gb449) (o := .cells #[.slice Ao52 t441.length co52, .bool t444] 24 (0, 0)) (by (with_reducible repeat (first | refine blk_drewN ?_ _ | refine blk_drew ?_ | refine blk_alloc ?_ _)); refine blk_put (cs := #[.slice Ao52 t441.length co52, .bool false]) ?_ 1 _ rfl; (with_reducible repeat (first | refine blk_drewN ?_ _ | refine blk_drew ?_ | refine blk_alloc ?_ _)); refine blk_put (cs := #[.slice none 0 0, .bool false]) ?_ 0 _ rfl; (with_reducible repeat (first | refine blk_drewN ?_ _ | refine blk_drew ?_ | refine blk_alloc ?_ _)); exact BK449.out) hb); replace HB := hB HB hb; (try clear hb); (try clear hb2); (try clear hk); (try clear hi); have hnb103 := NB440_409.out; have hnc103 := NB409_440.out; have hnb104 := NB440_449.out; have hnc104 := NB449_440.out; obtain ⟨hcz105_0, hcz105_1, hfz105_0, hfz105_1⟩ := bc2 BK440; have hnb106 := NB449_409.out; have hnc106 := NB409_449.out; obtain ⟨hcz107_0, hcz107_1, hfz107_0, hfz107_1⟩ := bc2 BK449) | (go_at_call 19; (with_reducible refine (pentroughlaw16_same.calls kj3 _ _ t432 t435 _ _ t441 t444 false _ ?side1 ?side2 ?side3 ?side4 A72.out).mono ?_); (case side1 => exact (Kd.V_reads' (vv HO434)).2.2); (case side2 => exact (Kd.V_reads' HO434.out).2.1); (case side3 => exact (Kd.V_reads' (vv HO443)).2.2); (case side4 => exact (Kd.V_reads' HO443.out).2.1); rintro e w108 ⟨rfl, hb⟩; replace HO414 := vB HO414 hb; replace HO418 := vB HO418 hb; replace HO424 := vB HO424 hb; replace HO430 := vB HO430 hb; replace HO434 := vB HO434 hb; replace HO438 := vB HO438 hb; replace HO443 := vB HO443 hb; replace HO447 := vB HO447 hb; replace BK409 := kB BK409 hb; replace BK421 := kB BK421 hb; replace BK427 := kB BK427 hb; replace BK440 := kB BK440 hb; replace BK449 := kB BK449 hb; replace HB := hB HB hb; (try clear hb); (try clear hb2); (try clear hk); (try clear hi)))
                  go_meet
                  case rel => exact ⟨_, (true), (by first | rfl | (simp; done) | (simp [*]; done)), H', ⟨by have := HJ3.out; first | omega | exact Nat.le_refl _⟩, ⟨vM HO418⟩, ⟨vM HO424⟩, ⟨vM HO434⟩, ⟨vM HO443⟩, ⟨kk BK409⟩, ⟨kk BK421⟩, ⟨kk BK427⟩, ⟨kk BK440⟩, ⟨kk BK449⟩, ⟨bb HB⟩⟩
            · replace c60 := Bool.eq_false_iff.mpr c60
              subst c60
              rw [if_neg nf] at H
              have H' := Aside0.mk H
              clear H
              have hnb109 := NB421_409.out
              have hnc109 := NB409_421.out
              have hnb110 := NB421_427.out
              have hnc110 := NB427_421.out
              have hnb111 := NB421_440.out
              have hnc111 := NB440_421.out
              have hnb112 := NB421_449.out
              have hnc112 := NB449_421.out
              obtain ⟨hcz113_0, hcz113_1, hfz113_0, hfz113_1⟩ := bc2 BK421
              have hnb114 := NB427_409.out
              have hnc114 := NB409_427.out
              have hnb115 := NB427_440.out
              have hnc115 := NB440_427.out
              have hnb116 := NB427_449.out
              have hnc116 := NB449_427.out
              obtain ⟨hcz117_0, hcz117_1, hfz117_0, hfz117_1⟩ := bc2 BK427
              go_wp2_with (first | (go_at_call 19; (with_reducible refine (pentroughlaw16_same.calls kj3 _ _ t416 t419 _ _ t422 t425 false _ ?side1 ?side2 ?side3 ?side4 A59.out).mono ?_); (case side1 => refine (Kd.V_reads' (e := 32) (base := w.heap.size) (ok := fun k_ => ((k_ ≠ gb409 ∧ (k_ ≠ gb421 ∧ (k_ ≠ gb427 ∧ k_ ≠ gb440))) ∧ k_ ≠ gb449)) (n := t416.length) (c := co26) ?_).2.2; exact (vX HO418)); (case side2 => exact (Kd.V_reads' HO418.out).2.1); (case side3 => refine (Kd.V_reads' (e := 32) (base := w.heap.size) (ok := fun k_ => ((k_ ≠ gb409 ∧ (k_ ≠ gb421 ∧ (k_ ≠ gb427 ∧ k_ ≠ gb440))) ∧ k_ ≠ gb449)) (n := t422.length) (c := co33) ?_).2.2; exact (vX HO424)); (case side4 => exact (Kd.V_reads' HO424.out).2.1); rintro e w118 ⟨rfl, hb⟩; replace HO414 := Aside0.mk (Kd.V_below (vX HO414) hb); replace HO418 := Aside0.mk (Kd.V_below (vX HO418) hb); replace HO424 := Aside0.mk (Kd.V_below (vX HO424) hb); replace HO430 := Aside0.mk (Kd.V_below (vX HO430) hb); replace HO434 := Aside0.mk (Kd.V_below (vX HO434) hb); replace HO438 := Aside0.mk (Kd.V_below (vX HO438) hb); replace HO443 := Aside0.mk (Kd.V_below (vX HO443) hb); replace HO447 := Aside0.mk (Kd.V_below (vX HO447) hb); replace BK409 := Aside0.mk (blk_below (g := gb409) (o := .cells #[.slice A0_0 l0_0.length c0_0, .bool a0_1] 24 (0, 0)) (kX BK409) hb); replace BK421 := Aside0.mk (blk_below (g := gb421) (o := .cells #[.slice Ao26 t416.length co26, .bool t419] 28 (0, 0)) (kX BK421) hb); replace BK427 := Aside0.mk (blk_below (g := gb427) (o := .cells #[.slice Ao33 t422.length co33, .bool t425] 24 (0, 0)) (kX BK427) hb); replace BK440 := Aside0.mk (blk_below (g := gb440) (o := .cells #[.slice Ao43 t432.length co43, .bool t435] 28 (0, 0)) (kX BK440) hb); replace BK449 := Aside0.mk (blk_below (g := gb449) (o := .cells #[.slice Ao52 t441.length co52, .bool t444] 24 (0, 0)) (by (with_reducible repeat (first | refine blk_drewN ?_ _ | refine blk_drew ?_ | refine blk_alloc ?_ _)); refine blk_put (cs := #[.slice Ao52 t441.length co52, .bool false]) ?_ 1 _ rfl; (with_reducible repeat (first | refine blk_drewN ?_ _ | refine blk_drew ?_ | refine blk_alloc ?_ _)); refine blk_put (cs := #[.slice none 0 0, .bool false]) ?_ 0 _ rfl; (with_reducible repeat (first | refine blk_drewN ?_ _ | refine blk_drew ?_ | refine blk_alloc ?_ _)); exact BK449.out) hb); replace HB := hB HB hb; (try clear hb); (try clear hb2); (try clear hk); (try clear hi)))
              go_meet
              case rel => exact ⟨_, (true), (by first | rfl | (simp; done) | (simp [*]; done)), H', ⟨by have := HJ3.out; first | omega | exact Nat.le_refl _⟩, ⟨vM HO418⟩, ⟨vM HO424⟩, ⟨vM HO434⟩, ⟨vM HO443⟩, ⟨kk BK409⟩, ⟨kk BK421⟩, ⟨kk BK427⟩, ⟨kk BK440⟩, ⟨kk BK449⟩, ⟨bb HB⟩⟩
        case rest =>
          clear HC20
          try clear c1
          try clear c2
          try clear p2
          try clear c3
          try clear c4
          try clear c5
          try clear c6
          try clear c7
          try clear c8
          try clear c9
          try clear c10
          try clear c11
          try clear c12
          try clear c13
          try clear c14
          try clear c20
          try clear c21
          try clear c27
          try clear c34
          try clear c35
          try clear c44
          try clear c45
          try clear c46
          try clear c53
          try clear c54
          try clear c55
          try clear c56
          try clear c58
          try clear c58b0
          try clear c58b1
          try clear c58b2
          try clear c60
          try clear c61
          try clear c61b0
          try clear c61b1
          try clear c61b2
          try clear c62
          try clear c63
          try clear c64
          try clear c65
          try clear c67
          try clear c68
          try clear c69
          try clear c73
          try clear c75
          try clear c76
          try clear c77
          try clear c78
          try clear c80
          try clear c81
          try clear c82
          try clear c85
          try clear c86
          try clear c88
          try clear c93
          try clear c94
          try clear c95
          try clear c96
          try clear c98
          try clear c99
          try clear c100
          try clear c103
          try clear c104
          try clear c106
          try clear c109
          try clear c110
          try clear c111
          try clear c112
          try clear c114
          try clear c115
          try clear c116
          try clear hcz101_0
          try clear hcz101_1
          try clear hcz105_0
          try clear hcz105_1
          try clear hcz107_0
          try clear hcz107_1
          try clear hcz113_0
          try clear hcz113_1
          try clear hcz117_0
          try clear hcz117_1
          try clear hcz11_0
          try clear hcz11_1
          try clear hcz21_0
          try clear hcz21_1
          try clear hcz28_0
          try clear hcz28_1
          try clear hcz30_0
          try clear hcz30_1
          try clear hcz36_0
          try clear hcz36_1
          try clear hcz38_0
          try clear hcz38_1
          try clear hcz47_0
          try clear hcz47_1
          try clear hcz49_0
          try clear hcz49_1
          try clear hcz57_0
          try clear hcz57_1
          try clear hcz66_0
          try clear hcz66_1
          try clear hcz70_0
          try clear hcz70_1
          try clear hcz79_0
          try clear hcz79_1
          try clear hcz83_0
          try clear hcz83_1
          try clear hcz87_0
          try clear hcz87_1
          try clear hcz89_0
          try clear hcz89_1
          try clear hcz97_0
          try clear hcz97_1
          try clear hcz9_0
          try clear hcz9_1
          try clear hfz101_0
          try clear hfz101_1
          try clear hfz105_0
          try clear hfz105_1
          try clear hfz107_0
          try clear hfz107_1
          try clear hfz113_0
          try clear hfz113_1
          try clear hfz117_0
          try clear hfz117_1
          try clear hfz11_0
          try clear hfz11_1
          try clear hfz21_0
          try clear hfz21_1
          try clear hfz28_0
          try clear hfz28_1
          try clear hfz30_0
          try clear hfz30_1
          try clear hfz36_0
          try clear hfz36_1
          try clear hfz38_0
          try clear hfz38_1
          try clear hfz47_0
          try clear hfz47_1
          try clear hfz49_0
          try clear hfz49_1
          try clear hfz57_0
          try clear hfz57_1
          try clear hfz66_0
          try clear hfz66_1
          try clear hfz70_0
          try clear hfz70_1
          try clear hfz79_0
          try clear hfz79_1
          try clear hfz83_0
          try clear hfz83_1
          try clear hfz87_0
          try clear hfz87_1
          try clear hfz89_0
          try clear hfz89_1
          try clear hfz97_0
          try clear hfz97_1
          try clear hfz9_0
          try clear hfz9_1
          try clear p2
          obtain ⟨kq, x77_19, rfl, HA, HJ19, HO_422000, HO_428000, HO_441000, HO_450000, BK409, BK421, BK427, BK440, BK449, HB⟩ := hcut
          cases kq with
          | zero => exact absurd HA.out (by simp [pentroughlaw16_ChansIs.j1])
          | succ kj19 =>
            have H := HA.out
            clear HA
            simp only [pentroughlaw16_ChansIs.j1] at H
            by_cases c119 : x77_19 = true
            · subst c119
              rw [if_pos rfl] at H
              cases H; exact absurd HRT.out (by decide)
            · replace c119 := Bool.eq_false_iff.mpr c119
              subst c119
              rw [if_neg nf] at H
              by_cases c120 : t410 = true
              · subst c120
                rw [if_pos rfl] at H
                obtain ⟨⟨t453, t456⟩, A121, H⟩ := ob H
                (try dsimp only at H)
                obtain ⟨t457, A122, H⟩ := ob H
                obtain ⟨t458, A123, H⟩ := ob H
                by_cases c124 : (t457 == t458) = true
                · rw [if_pos c124] at H
                  have c124b0 : (t457 == t458) = true := c124
                  (try (have c124b1 : decide (t457 = t458) = true := by simpa using c124))
                  (try (have c124b2 : (t457 == t458) = true := by simpa using c124))
                  clear c124
                  obtain ⟨⟨t459, t462⟩, A125, H⟩ := ob H
                  (try dsimp only at H)
                  obtain ⟨⟨t463, t466⟩, A126, H⟩ := ob H
                  (try dsimp only at H)
                  obtain ⟨⟨t467, t470⟩, A127, H⟩ := ob H
                  (try dsimp only at H)
                  obtain ⟨t471, A128, H⟩ := ob H
                  by_cases c129 : t471 = true
                  · subst c129
                    rw [if_pos rfl] at H
                    obtain ⟨⟨t472, t475⟩, A130, H⟩ := ob H
                    (try dsimp only at H)
                    obtain ⟨t476, A131, H⟩ := ob H
                    obtain ⟨t477, A132, H⟩ := ob H
                    by_cases c133 : (t476 == t477) = true
                    · rw [if_pos c133] at H
                      have c133b0 : (t476 == t477) = true := c133
                      (try (have c133b1 : decide (t476 = t477) = true := by simpa using c133))
                      (try (have c133b2 : (t476 == t477) = true := by simpa using c133))
                      clear c133
                      obtain ⟨⟨t478, t481⟩, A134, H⟩ := ob H
                      (try dsimp only at H)
                      obtain ⟨t482, A135, H⟩ := ob H
                      obtain ⟨t483, A136, H⟩ := ob H
                      obtain rfl := Option.some.inj H
                      try go_wp2
                      replace HO_422000 := Aside0.mk (Kd.V_drew HO_422000.out)
                      replace HO_428000 := Aside0.mk (Kd.V_drew HO_428000.out)
                      replace HO_441000 := Aside0.mk (Kd.V_drew HO_441000.out)
                      replace HO_450000 := Aside0.mk (Kd.V_drew HO_450000.out)
                      replace BK409 := Aside0.mk (blk_drew BK409.out)
                      replace BK421 := Aside0.mk (blk_drew BK421.out)
                      replace BK427 := Aside0.mk (blk_drew BK427.out)
                      replace BK440 := Aside0.mk (blk_drew BK440.out)
                      replace BK449 := Aside0.mk (blk_drew BK449.out)
                      replace HB := Aside0.mk (below_drew1 HB.out)
                      refine start_ (n := 34) (S := fun w' => w'.cell? ⟨gb409, 0, none⟩ = some (.slice A0_0 l0_0.length c0_0) ∧ w'.cell? ⟨gb409, 1, none⟩ = some (.bool a0_1)) (ds := []) #[false, false, false, false, false, false, false, false, false, false, false, false, false, false, false, false, false, false, false, false, false, false, false, false, false, false, false, false, false, false, false, false, false, false] (by kernel_rfl) rfl rfl ⟨cx BK409 0, cx BK409 1⟩ (fun hHeld => ?_); refine with_tabW pentroughlaw16_ChansIs.tab10 pentroughlaw16_ChansIs.bits10 (fun HT_ HW_ => ?_)
                      generalize wc.drew = w137 at HO_422000 HO_428000 HO_441000 HO_450000 BK409 BK421 BK427 BK440 BK449 HB hHeld ⊢
                      refine pure_ (i := 0) (N := some 78) (v := ?_) (a' := ?_) #[true, false, false, false, false, false, false, false, false, false, false, false, false, false, false, false, false, false, false, false, false, false, false, false, false, false, false, false, false, false, false, false, false, false] rfl rfl (any_of HT_.out (by kernel_rfl)) (fun _ _ _ h => h) (Or.inl ⟨by rfl, ?_⟩) ?_ ?_
                      rotate_left
                      · intro w'
                        go_simp
                        with_reducible rfl
                      rotate_left
                      · simp only [Act.put, List.setIfInBounds_toArray, List.set_cons_zero, List.set_cons_succ, i64_w, i32_w]
                        rfl
                      refine pure_ (i := 1) (N := some 79) (v := ?_) (a' := ?_) #[true, true, false, false, false, false, false, false, false, false, false, false, false, false, false, false, false, false, false, false, false, false, false, false, false, false, false, false, false, false, false, false, false, false] rfl rfl (any_of HT_.out (by kernel_rfl)) (fun _ _ _ h => h) (Or.inl ⟨by rfl, ?_⟩) ?_ ?_
                      rotate_left
                      · intro w'
                        go_simp
                        with_reducible rfl
                      rotate_left
                      · simp only [Act.put, List.setIfInBounds_toArray, List.set_cons_zero, List.set_cons_succ, i64_w, i32_w]
                        rfl
                      refine take_ (i := 2) (N := some 80) (v := ?_) (a' := ?_) #[true, true, true, false, false, false, false, false, false, false, false, false, false, false, false, false, false, false, false, false, false, false, false, false, false, false, false, false, false, false, false, false, false, false] rfl rfl (take_ofW HT_.out HW_.out (by kernel_rfl)) (fun _ _ _ h => h) (Or.inl ⟨by rfl, ?_⟩) hHeld ?_ ?_
                      rotate_left
                      · rintro w' ⟨s0, s1⟩
                        go_simp
                        with_reducible rfl
                      rotate_left
                      · simp only [Act.put, List.setIfInBounds_toArray, List.set_cons_zero, List.set_cons_succ, i64_w, i32_w]
                        rfl
                      refine take_ (i := 5) (N := some 83) (v := ?_) (a' := ?_) #[true, true, true, false, false, true, false, false, false, false, false, false, false, false, false, false, false, false, false, false, false, false, false, false, false, false, false, false, false, false, false, false, false, false] rfl rfl (take_ofW HT_.out HW_.out (by kernel_rfl)) (fun _ _ _ h => h) (Or.inl ⟨by rfl, ?_⟩) hHeld ?_ ?_
                      rotate_left
                      · rintro w' ⟨s0, s1⟩
                        go_simp
                        with_reducible rfl
                      rotate_left
                      · simp only [Act.put, List.setIfInBounds_toArray, List.set_cons_zero, List.set_cons_succ, i64_w, i32_w]
                        rfl
                      refine one_ (i := 3) (N := some 81) #[true, true, true, true, false, true, false, false, false, false, false, false, false, false, false, false, false, false, false, false, false, false, false, false, false, false, false, false, false, false, false, false, false, false] rfl rfl (one_of HT_.out (by kernel_rfl)) (by decide) (fun K hK => ?_)
                      refine gs Try.func12 (by kernel_rfl) rfl #[.agg #[.slice A0_0 l0_0.length c0_0, .bool a0_1]] (by rfl) rfl rfl ?_
                      with_reducible refine (pentroughlaw16_ours.calls (fun k_ => k_ < w.heap.size) _ _ l0_0 a0_1 t453 t456 _ ?side1 A121.out).mono ?_
                      (case side1 => exact Kd.V_mk HC0_0.out (Kd.F_below (Kd.C_F (Kd.heap_slice 3 (Kd.heap_int .i64)) HR0_0.out) (bb HB)))
                      rintro e w138 ⟨v454, rfl, ho0, hb⟩
                      refine ⟨_, rfl, ?_⟩
                      replace HO_422000 := vB HO_422000 hb
                      replace HO_428000 := vB HO_428000 hb
                      replace HO_441000 := vB HO_441000 hb
                      replace HO_450000 := vB HO_450000 hb
                      have HO455 := Aside0.mk (Kd.V_lower (Kd.V_mono (ok' := fun k_ => k_ ≠ gb409 ∧ k_ ≠ gb421 ∧ k_ ≠ gb427 ∧ k_ ≠ gb440 ∧ k_ ≠ gb449) ho0 (fun k_ hk_ => ⟨o2 hk_ (gw GW409) (Kd.freshB (kk BK409) k_), o2 hk_ (gw GW421) (Kd.freshB (kk BK421) k_), o2 hk_ (gw GW427) (Kd.freshB (kk BK427) k_), o2 hk_ (gw GW440) (Kd.freshB (kk BK440) k_), o2 hk_ (gw GW449) (Kd.freshB (kk BK449) k_)⟩)) (below_size (bb HB)))
                      replace BK409 := kB BK409 hb
                      replace BK421 := kB BK421 hb
                      replace BK427 := kB BK427 hb
                      replace BK440 := kB BK440 hb
                      replace BK449 := kB BK449 hb
                      replace HB := hB HB hb
                      (try clear hb)
                      (try clear hb2)
                      (try clear hk)
                      (try clear hi)
                      (try clear ho0)
                      obtain ⟨Ao139, co139, eo139⟩ := Kd.V_slice HO455.out
                      (first | subst eo139 | (injection eo139 with f1_ f2_ f3_; have f4_ := f1_.symm; have f5_ := f3_.symm; clear f1_ f2_ f3_; subst f4_; subst f5_))
                      refine hK.out _ _ ⟨cx BK409 0, cx BK409 1⟩ (fun hHeld => ?_)
                      clear hK K
                      refine norm_ (a' := ?_) ?_ ?_
                      rotate_left
                      · show Act.put _ (some 81) _ = _
                        simp only [Act.put, List.setIfInBounds_toArray, List.set_cons_zero, List.set_cons_succ, i64_w, i32_w]
                        rfl
                      refine one_ (i := 4) (N := some 82) #[true, true, true, true, true, true, false, false, false, false, false, false, false, false, false, false, false, false, false, false, false, false, false, false, false, false, false, false, false, false, false, false, false, false] rfl rfl (one_of HT_.out (by kernel_rfl)) (by decide) (fun K hK => ?_)
                      refine gs Try.func11 (by kernel_rfl) rfl #[.agg #[.slice Ao139 t453.length co139, .bool t456]] (by rfl) rfl rfl ?_
                      with_reducible refine (chans_Sane.calls kj19 _ _ t453 t456 t457 _ ?side1 ?side2 A122.out).mono ?_
                      (case side1 => exact (Kd.V_reads' (vv HO455)).2.2)
                      (case side2 => exact (Kd.V_reads' HO455.out).2.1)
                      rintro e w140 ⟨rfl, hb⟩
                      refine ⟨_, rfl, ?_⟩
                      replace HO_422000 := vB HO_422000 hb
                      replace HO_428000 := vB HO_428000 hb
                      replace HO_441000 := vB HO_441000 hb
                      replace HO_450000 := vB HO_450000 hb
                      replace HO455 := vB HO455 hb
                      replace BK409 := kB BK409 hb
                      replace BK421 := kB BK421 hb
                      replace BK427 := kB BK427 hb
                      replace BK440 := kB BK440 hb
                      replace BK449 := kB BK449 hb
                      replace HB := hB HB hb
                      (try clear hb)
                      (try clear hb2)
                      (try clear hk)
                      (try clear hi)
                      refine hK.out _ _ ⟨cx BK409 0, cx BK409 1⟩ (fun hHeld => ?_)
                      clear hK K
                      refine norm_ (a' := ?_) ?_ ?_
                      rotate_left
                      · show Act.put _ (some 82) _ = _
                        simp only [Act.put, List.setIfInBounds_toArray, List.set_cons_zero, List.set_cons_succ, i64_w, i32_w]
                        rfl
                      refine one_ (i := 6) (N := some 84) #[true, true, true, true, true, true, true, false, false, false, false, false, false, false, false, false, false, false, false, false, false, false, false, false, false, false, false, false, false, false, false, false, false, false] rfl rfl (one_of HT_.out (by kernel_rfl)) (by decide) (fun K hK => ?_)
                      refine gs Try.func22 (by kernel_rfl) rfl #[.agg #[.slice A0_0 l0_0.length c0_0, .bool a0_1]] (by rfl) rfl rfl ?_
                      with_reducible refine (pentroughref16_Sane.calls kj19 _ _ l0_0 a0_1 t458 _ ?side1 ?side2 A123.out).mono ?_
                      (case side1 => exact Kd.C_below HR0_0.out (bb HB))
                      (case side2 => exact HC0_0.out)
                      rintro e w141 ⟨rfl, hb⟩
                      refine ⟨_, rfl, ?_⟩
                      replace HO_422000 := vB HO_422000 hb
                      replace HO_428000 := vB HO_428000 hb
                      replace HO_441000 := vB HO_441000 hb
                      replace HO_450000 := vB HO_450000 hb
                      replace HO455 := vB HO455 hb
                      replace BK409 := kB BK409 hb
                      replace BK421 := kB BK421 hb
                      replace BK427 := kB BK427 hb
                      replace BK440 := kB BK440 hb
                      replace BK449 := kB BK449 hb
                      replace HB := hB HB hb
                      (try clear hb)
                      (try clear hb2)
                      (try clear hk)
                      (try clear hi)
                      refine hK.out _ _ ⟨cx BK409 0, cx BK409 1⟩ (fun hHeld => ?_)
                      clear hK K
                      refine norm_ (a' := ?_) ?_ ?_
                      rotate_left
                      · show Act.put _ (some 84) _ = _
                        simp only [Act.put, List.setIfInBounds_toArray, List.set_cons_zero, List.set_cons_succ, i64_w, i32_w]
                        rfl
                      refine pure_ (i := 7) (N := some 85) (v := ?_) (a' := ?_) #[true, true, true, true, true, true, true, true, false, false, false, false, false, false, false, false, false, false, false, false, false, false, false, false, false, false, false, false, false, false, false, false, false, false] rfl rfl (any_of HT_.out (by kernel_rfl)) (fun _ _ _ h => h) (Or.inl ⟨by rfl, ?_⟩) ?_ ?_
                      rotate_left
                      · intro w'
                        go_simp
                        with_reducible rfl
                      rotate_left
                      · simp only [Act.put, List.setIfInBounds_toArray, List.set_cons_zero, List.set_cons_succ, i64_w, i32_w]
                        rfl
                      refine pure_ (i := 8) (N := some 86) (v := ?_) (a' := ?_) #[true, true, true, true, true, true, true, true, true, false, false, false, false, false, false, false, false, false, false, false, false, false, false, false, false, false, false, false, false, false, false, false, false, false] rfl rfl (any_of HT_.out (by kernel_rfl)) (fun _ _ _ h => h) (Or.inl ⟨by rfl, ?_⟩) ?_ ?_
                      rotate_left
                      · intro w'
                        go_simp
                        with_reducible rfl
                      rotate_left
                      · simp only [Act.put, List.setIfInBounds_toArray, List.set_cons_zero, List.set_cons_succ, i64_w, i32_w]
                        rfl
                      refine pure_ (i := 9) (N := some 87) (v := ?_) (a' := ?_) #[true, true, true, true, true, true, true, true, true, true, false, false, false, false, false, false, false, false, false, false, false, false, false, false, false, false, false, false, false, false, false, false, false, false] rfl rfl (any_of HT_.out (by kernel_rfl)) (fun _ _ _ h => h) (Or.inl ⟨by rfl, ?_⟩) ?_ ?_
                      rotate_left
                      · intro w'
                        go_simp
                        with_reducible rfl
                      rotate_left
                      · simp only [Act.put, List.setIfInBounds_toArray, List.set_cons_zero, List.set_cons_succ, i64_w, i32_w]
                        rfl
                      refine take_ (i := 10) (N := some 88) (v := ?_) (a' := ?_) #[true, true, true, true, true, true, true, true, true, true, true, false, false, false, false, false, false, false, false, false, false, false, false, false, false, false, false, false, false, false, false, false, false, false] rfl rfl (take_ofW HT_.out HW_.out (by kernel_rfl)) (fun _ _ _ h => h) (Or.inl ⟨by rfl, ?_⟩) hHeld ?_ ?_
                      rotate_left
                      · rintro w' ⟨s0, s1⟩
                        go_simp
                        with_reducible rfl
                      rotate_left
                      · simp only [Act.put, List.setIfInBounds_toArray, List.set_cons_zero, List.set_cons_succ, i64_w, i32_w]
                        rfl
                      refine take_ (i := 13) (N := some 91) (v := ?_) (a' := ?_) #[true, true, true, true, true, true, true, true, true, true, true, false, false, true, false, false, false, false, false, false, false, false, false, false, false, false, false, false, false, false, false, false, false, false] rfl rfl (take_ofW HT_.out HW_.out (by kernel_rfl)) (fun _ _ _ h => h) (Or.inl ⟨by rfl, ?_⟩) hHeld ?_ ?_
                      rotate_left
                      · rintro w' ⟨s0, s1⟩
                        go_simp
                        with_reducible rfl
                      rotate_left
                      · simp only [Act.put, List.setIfInBounds_toArray, List.set_cons_zero, List.set_cons_succ, i64_w, i32_w]
                        rfl
                      refine one_ (i := 11) (N := some 89) #[true, true, true, true, true, true, true, true, true, true, true, true, false, true, false, false, false, false, false, false, false, false, false, false, false, false, false, false, false, false, false, false, false, false] rfl rfl (one_of HT_.out (by kernel_rfl)) (by decide) (fun K hK => ?_)
                      refine gs Try.func12 (by kernel_rfl) rfl #[.agg #[.slice A0_0 l0_0.length c0_0, .bool a0_1]] (by rfl) rfl rfl ?_
                      with_reducible refine (pentroughlaw16_ours.calls (fun k_ => k_ < w.heap.size) _ _ l0_0 a0_1 t459 t462 _ ?side1 A125.out).mono ?_
                      (case side1 => exact Kd.V_mk HC0_0.out (Kd.F_below (Kd.C_F (Kd.heap_slice 3 (Kd.heap_int .i64)) HR0_0.out) (bb HB)))
                      rintro e w142 ⟨v460, rfl, ho0, hb⟩
                      refine ⟨_, rfl, ?_⟩
                      replace HO_422000 := vB HO_422000 hb
                      replace HO_428000 := vB HO_428000 hb
                      replace HO_441000 := vB HO_441000 hb
                      replace HO_450000 := vB HO_450000 hb
                      replace HO455 := vB HO455 hb
                      have HO461 := Aside0.mk (Kd.V_lower (Kd.V_mono (ok' := fun k_ => k_ ≠ gb409 ∧ k_ ≠ gb421 ∧ k_ ≠ gb427 ∧ k_ ≠ gb440 ∧ k_ ≠ gb449) ho0 (fun k_ hk_ => ⟨o2 hk_ (gw GW409) (Kd.freshB (kk BK409) k_), o2 hk_ (gw GW421) (Kd.freshB (kk BK421) k_), o2 hk_ (gw GW427) (Kd.freshB (kk BK427) k_), o2 hk_ (gw GW440) (Kd.freshB (kk BK440) k_), o2 hk_ (gw GW449) (Kd.freshB (kk BK449) k_)⟩)) (below_size (bb HB)))
                      replace BK409 := kB BK409 hb
                      replace BK421 := kB BK421 hb
                      replace BK427 := kB BK427 hb
                      replace BK440 := kB BK440 hb
                      replace BK449 := kB BK449 hb
                      replace HB := hB HB hb
                      (try clear hb)
                      (try clear hb2)
                      (try clear hk)
                      (try clear hi)
                      (try clear ho0)
                      obtain ⟨Ao143, co143, eo143⟩ := Kd.V_slice HO461.out
                      (first | subst eo143 | (injection eo143 with f1_ f2_ f3_; have f4_ := f1_.symm; have f5_ := f3_.symm; clear f1_ f2_ f3_; subst f4_; subst f5_))
                      refine hK.out _ _ ⟨cx BK409 0, cx BK409 1⟩ (fun hHeld => ?_)
                      clear hK K
                      refine norm_ (a' := ?_) ?_ ?_
                      rotate_left
                      · show Act.put _ (some 89) _ = _
                        simp only [Act.put, List.setIfInBounds_toArray, List.set_cons_zero, List.set_cons_succ, i64_w, i32_w]
                        rfl
                      refine one_ (i := 12) (N := some 90) #[true, true, true, true, true, true, true, true, true, true, true, true, true, true, false, false, false, false, false, false, false, false, false, false, false, false, false, false, false, false, false, false, false, false] rfl rfl (one_of HT_.out (by kernel_rfl)) (by decide) (fun K hK => ?_)
                      refine gs Try.func16 (by kernel_rfl) rfl #[.agg #[.slice Ao143 t459.length co143, .bool t462]] (by rfl) rfl rfl ?_
                      with_reducible refine (chans_Close.calls kj19 (fun k_ => (k_ ≠ gb409 ∧ (k_ ≠ gb421 ∧ (k_ ≠ gb427 ∧ (k_ ≠ gb440 ∧ k_ ≠ gb449))))) _ _ t459 t462 t463 t466 _ ?side1 A126.out).mono ?_
                      (case side1 => exact HO461.out)
                      rintro e w144 ⟨v464, rfl, ho0, hb⟩
                      refine ⟨_, rfl, ?_⟩
                      replace HO_422000 := vB HO_422000 hb
                      replace HO_428000 := vB HO_428000 hb
                      replace HO_441000 := vB HO_441000 hb
                      replace HO_450000 := vB HO_450000 hb
                      replace HO455 := vB HO455 hb
                      replace HO461 := vB HO461 hb
                      have HO465 := Aside0.mk (Kd.V_lower (Kd.V_mono (ok' := fun k_ => k_ ≠ gb409 ∧ k_ ≠ gb421 ∧ k_ ≠ gb427 ∧ k_ ≠ gb440 ∧ k_ ≠ gb449) ho0 (fun k_ hk_ => ⟨o2 hk_ (fun h => h.1) (Kd.freshB (kk BK409) k_), o2 hk_ (fun h => h.2.1) (Kd.freshB (kk BK421) k_), o2 hk_ (fun h => h.2.2.1) (Kd.freshB (kk BK427) k_), o2 hk_ (fun h => h.2.2.2.1) (Kd.freshB (kk BK440) k_), o2 hk_ (fun h => h.2.2.2.2) (Kd.freshB (kk BK449) k_)⟩)) (below_size (bb HB)))
                      replace BK409 := kB BK409 hb
                      replace BK421 := kB BK421 hb
                      replace BK427 := kB BK427 hb
                      replace BK440 := kB BK440 hb
                      replace BK449 := kB BK449 hb
                      replace HB := hB HB hb
                      (try clear hb)
                      (try clear hb2)
                      (try clear hk)
                      (try clear hi)
                      (try clear ho0)
                      refine hK.out _ _ ⟨cx BK409 0, cx BK409 1⟩ (fun hHeld => ?_)
                      clear hK K
                      refine norm_ (a' := ?_) ?_ ?_
                      rotate_left
                      · show Act.put _ (some 90) _ = _
                        simp only [Act.put, List.setIfInBounds_toArray, List.set_cons_zero, List.set_cons_succ, i64_w, i32_w]
                        rfl
                      refine one_ (i := 14) (N := some 92) #[true, true, true, true, true, true, true, true, true, true, true, true, true, true, true, false, false, false, false, false, false, false, false, false, false, false, false, false, false, false, false, false, false, false] rfl rfl (one_of HT_.out (by kernel_rfl)) (by decide) (fun K hK => ?_)
                      refine gs Try.func23 (by kernel_rfl) rfl #[.agg #[.slice A0_0 l0_0.length c0_0, .bool a0_1]] (by rfl) rfl rfl ?_
                      with_reducible refine (pentroughref16_Close.calls kj19 (fun k_ => k_ < w.heap.size) _ _ l0_0 a0_1 t467 t470 _ ?side1 A127.out).mono ?_
                      (case side1 => exact Kd.V_mk HC0_0.out (Kd.F_below (Kd.C_F (Kd.heap_slice 3 (Kd.heap_int .i64)) HR0_0.out) (bb HB)))
                      rintro e w145 ⟨v468, rfl, ho0, hb⟩
                      refine ⟨_, rfl, ?_⟩
                      replace HO_422000 := vB HO_422000 hb
                      replace HO_428000 := vB HO_428000 hb
                      replace HO_441000 := vB HO_441000 hb
                      replace HO_450000 := vB HO_450000 hb
                      replace HO455 := vB HO455 hb
                      replace HO461 := vB HO461 hb
                      replace HO465 := vB HO465 hb
                      have HO469 := Aside0.mk (Kd.V_lower (Kd.V_mono (ok' := fun k_ => k_ ≠ gb409 ∧ k_ ≠ gb421 ∧ k_ ≠ gb427 ∧ k_ ≠ gb440 ∧ k_ ≠ gb449) ho0 (fun k_ hk_ => ⟨o2 hk_ (gw GW409) (Kd.freshB (kk BK409) k_), o2 hk_ (gw GW421) (Kd.freshB (kk BK421) k_), o2 hk_ (gw GW427) (Kd.freshB (kk BK427) k_), o2 hk_ (gw GW440) (Kd.freshB (kk BK440) k_), o2 hk_ (gw GW449) (Kd.freshB (kk BK449) k_)⟩)) (below_size (bb HB)))
                      replace BK409 := kB BK409 hb
                      replace BK421 := kB BK421 hb
                      replace BK427 := kB BK427 hb
                      replace BK440 := kB BK440 hb
                      replace BK449 := kB BK449 hb
                      replace HB := hB HB hb
                      (try clear hb)
                      (try clear hb2)
                      (try clear hk)
                      (try clear hi)
                      (try clear ho0)
                      obtain ⟨Ao146, co146, eo146⟩ := Kd.V_slice HO465.out
                      (first | subst eo146 | (injection eo146 with f1_ f2_ f3_; have f4_ := f1_.symm; have f5_ := f3_.symm; clear f1_ f2_ f3_; subst f4_; subst f5_))
                      obtain ⟨Ao147, co147, eo147⟩ := Kd.V_slice HO469.out
                      (first | subst eo147 | (injection eo147 with f1_ f2_ f3_; have f4_ := f1_.symm; have f5_ := f3_.symm; clear f1_ f2_ f3_; subst f4_; subst f5_))
                      refine hK.out _ _ ⟨cx BK409 0, cx BK409 1⟩ (fun hHeld => ?_)
                      clear hK K
                      refine norm_ (a' := ?_) ?_ ?_
                      rotate_left
                      · show Act.put _ (some 92) _ = _
                        simp only [Act.put, List.setIfInBounds_toArray, List.set_cons_zero, List.set_cons_succ, i64_w, i32_w]
                        rfl
                      refine one_ (i := 15) (N := some 93) #[true, true, true, true, true, true, true, true, true, true, true, true, true, true, true, true, false, false, false, false, false, false, false, false, false, false, false, false, false, false, false, false, false, false] rfl rfl (one_of HT_.out (by kernel_rfl)) (by decide) (fun K hK => ?_)
                      refine gs Try.func19 (by kernel_rfl) rfl #[.agg #[.slice Ao146 t463.length co146, .bool t466], .agg #[.slice Ao147 t467.length co147, .bool t470]] (by rfl) rfl rfl ?_
                      with_reducible refine (pentroughlaw16_same.calls kj19 _ _ t463 t466 _ _ t467 t470 true _ ?side1 ?side2 ?side3 ?side4 A128.out).mono ?_
                      (case side1 => exact (Kd.V_reads' (vv HO465)).2.2)
                      (case side2 => exact (Kd.V_reads' HO465.out).2.1)
                      (case side3 => exact (Kd.V_reads' (vv HO469)).2.2)
                      (case side4 => exact (Kd.V_reads' HO469.out).2.1)
                      rintro e w148 ⟨rfl, hb⟩
                      refine ⟨_, rfl, ?_⟩
                      replace HO_422000 := vB HO_422000 hb
                      replace HO_428000 := vB HO_428000 hb
                      replace HO_441000 := vB HO_441000 hb
                      replace HO_450000 := vB HO_450000 hb
                      replace HO455 := vB HO455 hb
                      replace HO461 := vB HO461 hb
                      replace HO465 := vB HO465 hb
                      replace HO469 := vB HO469 hb
                      replace BK409 := kB BK409 hb
                      replace BK421 := kB BK421 hb
                      replace BK427 := kB BK427 hb
                      replace BK440 := kB BK440 hb
                      replace BK449 := kB BK449 hb
                      replace HB := hB HB hb
                      (try clear hb)
                      (try clear hb2)
                      (try clear hk)
                      (try clear hi)
                      refine hK.out _ _ ⟨cx BK409 0, cx BK409 1⟩ (fun hHeld => ?_)
                      clear hK K
                      refine norm_ (a' := ?_) ?_ ?_
                      rotate_left
                      · show Act.put _ (some 93) _ = _
                        simp only [Act.put, List.setIfInBounds_toArray, List.set_cons_zero, List.set_cons_succ, i64_w, i32_w]
                        rfl
                      refine pure_ (i := 16) (N := some 94) (v := ?_) (a' := ?_) #[true, true, true, true, true, true, true, true, true, true, true, true, true, true, true, true, true, false, false, false, false, false, false, false, false, false, false, false, false, false, false, false, false, false] rfl rfl (any_of HT_.out (by kernel_rfl)) (fun _ _ _ h => h) (Or.inl ⟨by rfl, ?_⟩) ?_ ?_
                      rotate_left
                      · intro w'
                        go_simp
                        with_reducible rfl
                      rotate_left
                      · simp only [Act.put, List.setIfInBounds_toArray, List.set_cons_zero, List.set_cons_succ, i64_w, i32_w]
                        rfl
                      refine pure_ (i := 17) (N := some 95) (v := ?_) (a' := ?_) #[true, true, true, true, true, true, true, true, true, true, true, true, true, true, true, true, true, true, false, false, false, false, false, false, false, false, false, false, false, false, false, false, false, false] rfl rfl (any_of HT_.out (by kernel_rfl)) (fun _ _ _ h => h) (Or.inl ⟨by rfl, ?_⟩) ?_ ?_
                      rotate_left
                      · intro w'
                        go_simp
                        with_reducible rfl
                      rotate_left
                      · simp only [Act.put, List.setIfInBounds_toArray, List.set_cons_zero, List.set_cons_succ, i64_w, i32_w]
                        rfl
                      refine take_ (i := 18) (N := some 96) (v := ?_) (a' := ?_) #[true, true, true, true, true, true, true, true, true, true, true, true, true, true, true, true, true, true, true, false, false, false, false, false, false, false, false, false, false, false, false, false, false, false] rfl rfl (take_ofW HT_.out HW_.out (by kernel_rfl)) (fun _ _ _ h => h) (Or.inl ⟨by rfl, ?_⟩) hHeld ?_ ?_
                      rotate_left
                      · rintro w' ⟨s0, s1⟩
                        go_simp
                        with_reducible rfl
                      rotate_left
                      · simp only [Act.put, List.setIfInBounds_toArray, List.set_cons_zero, List.set_cons_succ, i64_w, i32_w]
                        rfl
                      refine take_ (i := 21) (N := some 99) (v := ?_) (a' := ?_) #[true, true, true, true, true, true, true, true, true, true, true, true, true, true, true, true, true, true, true, false, false, true, false, false, false, false, false, false, false, false, false, false, false, false] rfl rfl (take_ofW HT_.out HW_.out (by kernel_rfl)) (fun _ _ _ h => h) (Or.inl ⟨by rfl, ?_⟩) hHeld ?_ ?_
                      rotate_left
                      · rintro w' ⟨s0, s1⟩
                        go_simp
                        with_reducible rfl
                      rotate_left
                      · simp only [Act.put, List.setIfInBounds_toArray, List.set_cons_zero, List.set_cons_succ, i64_w, i32_w]
                        rfl
                      refine one_ (i := 19) (N := some 97) #[true, true, true, true, true, true, true, true, true, true, true, true, true, true, true, true, true, true, true, true, false, true, false, false, false, false, false, false, false, false, false, false, false, false] rfl rfl (one_of HT_.out (by kernel_rfl)) (by decide) (fun K hK => ?_)
                      refine gs Try.func12 (by kernel_rfl) rfl #[.agg #[.slice A0_0 l0_0.length c0_0, .bool a0_1]] (by rfl) rfl rfl ?_
                      with_reducible refine (pentroughlaw16_ours.calls (fun k_ => k_ < w.heap.size) _ _ l0_0 a0_1 t472 t475 _ ?side1 A130.out).mono ?_
                      (case side1 => exact Kd.V_mk HC0_0.out (Kd.F_below (Kd.C_F (Kd.heap_slice 3 (Kd.heap_int .i64)) HR0_0.out) (bb HB)))
                      rintro e w149 ⟨v473, rfl, ho0, hb⟩
                      refine ⟨_, rfl, ?_⟩
                      replace HO_422000 := vB HO_422000 hb
                      replace HO_428000 := vB HO_428000 hb
                      replace HO_441000 := vB HO_441000 hb
                      replace HO_450000 := vB HO_450000 hb
                      replace HO455 := vB HO455 hb
                      replace HO461 := vB HO461 hb
                      replace HO465 := vB HO465 hb
                      replace HO469 := vB HO469 hb
                      have HO474 := Aside0.mk (Kd.V_lower (Kd.V_mono (ok' := fun k_ => k_ ≠ gb409 ∧ k_ ≠ gb421 ∧ k_ ≠ gb427 ∧ k_ ≠ gb440 ∧ k_ ≠ gb449) ho0 (fun k_ hk_ => ⟨o2 hk_ (gw GW409) (Kd.freshB (kk BK409) k_), o2 hk_ (gw GW421) (Kd.freshB (kk BK421) k_), o2 hk_ (gw GW427) (Kd.freshB (kk BK427) k_), o2 hk_ (gw GW440) (Kd.freshB (kk BK440) k_), o2 hk_ (gw GW449) (Kd.freshB (kk BK449) k_)⟩)) (below_size (bb HB)))
                      replace BK409 := kB BK409 hb
                      replace BK421 := kB BK421 hb
                      replace BK427 := kB BK427 hb
                      replace BK440 := kB BK440 hb
                      replace BK449 := kB BK449 hb
                      replace HB := hB HB hb
                      (try clear hb)
                      (try clear hb2)
                      (try clear hk)
                      (try clear hi)
                      (try clear ho0)
                      obtain ⟨Ao150, co150, eo150⟩ := Kd.V_slice HO474.out
                      (first | subst eo150 | (injection eo150 with f1_ f2_ f3_; have f4_ := f1_.symm; have f5_ := f3_.symm; clear f1_ f2_ f3_; subst f4_; subst f5_))
                      refine hK.out _ _ ⟨cx BK409 0, cx BK409 1⟩ (fun hHeld => ?_)
                      clear hK K
                      refine norm_ (a' := ?_) ?_ ?_
                      rotate_left
                      · show Act.put _ (some 97) _ = _
                        simp only [Act.put, List.setIfInBounds_toArray, List.set_cons_zero, List.set_cons_succ, i64_w, i32_w]
                        rfl
                      refine one_ (i := 20) (N := some 98) #[true, true, true, true, true, true, true, true, true, true, true, true, true, true, true, true, true, true, true, true, true, true, false, false, false, false, false, false, false, false, false, false, false, false] rfl rfl (one_of HT_.out (by kernel_rfl)) (by decide) (fun K hK => ?_)
                      refine gs Try.func24 (by kernel_rfl) rfl #[.agg #[.slice Ao150 t472.length co150, .bool t475]] (by rfl) rfl rfl ?_
                      with_reducible refine (chans_Spent.calls kj19 _ _ t472 t475 t476 _ ?side1 ?side2 A131.out).mono ?_
                      (case side1 => exact (Kd.V_reads' (vv HO474)).2.2)
                      (case side2 => exact (Kd.V_reads' HO474.out).2.1)
                      rintro e w151 ⟨rfl, hb⟩
                      refine ⟨_, rfl, ?_⟩
                      replace HO_422000 := vB HO_422000 hb
                      replace HO_428000 := vB HO_428000 hb
                      replace HO_441000 := vB HO_441000 hb
                      replace HO_450000 := vB HO_450000 hb
                      replace HO455 := vB HO455 hb
                      replace HO461 := vB HO461 hb
                      replace HO465 := vB HO465 hb
                      replace HO469 := vB HO469 hb
                      replace HO474 := vB HO474 hb
                      replace BK409 := kB BK409 hb
                      replace BK421 := kB BK421 hb
                      replace BK427 := kB BK427 hb
                      replace BK440 := kB BK440 hb
                      replace BK449 := kB BK449 hb
                      replace HB := hB HB hb
                      (try clear hb)
                      (try clear hb2)
                      (try clear hk)
                      (try clear hi)
                      refine hK.out _ _ ⟨cx BK409 0, cx BK409 1⟩ (fun hHeld => ?_)
                      clear hK K
                      refine norm_ (a' := ?_) ?_ ?_
                      rotate_left
                      · show Act.put _ (some 98) _ = _
                        simp only [Act.put, List.setIfInBounds_toArray, List.set_cons_zero, List.set_cons_succ, i64_w, i32_w]
                        rfl
                      refine one_ (i := 22) (N := some 100) #[true, true, true, true, true, true, true, true, true, true, true, true, true, true, true, true, true, true, true, true, true, true, true, false, false, false, false, false, false, false, false, false, false, false] rfl rfl (one_of HT_.out (by kernel_rfl)) (by decide) (fun K hK => ?_)
                      refine gs Try.func25 (by kernel_rfl) rfl #[.agg #[.slice A0_0 l0_0.length c0_0, .bool a0_1]] (by rfl) rfl rfl ?_
                      with_reducible refine (pentroughref16_Spent.calls kj19 _ _ l0_0 a0_1 t477 _ ?side1 ?side2 A132.out).mono ?_
                      (case side1 => exact Kd.C_below HR0_0.out (bb HB))
                      (case side2 => exact HC0_0.out)
                      rintro e w152 ⟨rfl, hb⟩
                      refine ⟨_, rfl, ?_⟩
                      replace HO_422000 := vB HO_422000 hb
                      replace HO_428000 := vB HO_428000 hb
                      replace HO_441000 := vB HO_441000 hb
                      replace HO_450000 := vB HO_450000 hb
                      replace HO455 := vB HO455 hb
                      replace HO461 := vB HO461 hb
                      replace HO465 := vB HO465 hb
                      replace HO469 := vB HO469 hb
                      replace HO474 := vB HO474 hb
                      replace BK409 := kB BK409 hb
                      replace BK421 := kB BK421 hb
                      replace BK427 := kB BK427 hb
                      replace BK440 := kB BK440 hb
                      replace BK449 := kB BK449 hb
                      replace HB := hB HB hb
                      (try clear hb)
                      (try clear hb2)
                      (try clear hk)
                      (try clear hi)
                      refine hK.out _ _ ⟨cx BK409 0, cx BK409 1⟩ (fun hHeld => ?_)
                      clear hK K
                      refine norm_ (a' := ?_) ?_ ?_
                      rotate_left
                      · show Act.put _ (some 100) _ = _
                        simp only [Act.put, List.setIfInBounds_toArray, List.set_cons_zero, List.set_cons_succ, i64_w, i32_w]
                        rfl
                      refine pure_ (i := 23) (N := some 101) (v := ?_) (a' := ?_) #[true, true, true, true, true, true, true, true, true, true, true, true, true, true, true, true, true, true, true, true, true, true, true, true, false, false, false, false, false, false, false, false, false, false] rfl rfl (any_of HT_.out (by kernel_rfl)) (fun _ _ _ h => h) (Or.inl ⟨by rfl, ?_⟩) ?_ ?_
                      rotate_left
                      · intro w'
                        go_simp
                        with_reducible rfl
                      rotate_left
                      · simp only [Act.put, List.setIfInBounds_toArray, List.set_cons_zero, List.set_cons_succ, i64_w, i32_w]
                        rfl
                      refine pure_ (i := 24) (N := some 102) (v := ?_) (a' := ?_) #[true, true, true, true, true, true, true, true, true, true, true, true, true, true, true, true, true, true, true, true, true, true, true, true, true, false, false, false, false, false, false, false, false, false] rfl rfl (any_of HT_.out (by kernel_rfl)) (fun _ _ _ h => h) (Or.inl ⟨by rfl, ?_⟩) ?_ ?_
                      rotate_left
                      · intro w'
                        go_simp
                        with_reducible rfl
                      rotate_left
                      · simp only [Act.put, List.setIfInBounds_toArray, List.set_cons_zero, List.set_cons_succ, i64_w, i32_w]
                        rfl
                      refine pure_ (i := 25) (N := some 103) (v := ?_) (a' := ?_) #[true, true, true, true, true, true, true, true, true, true, true, true, true, true, true, true, true, true, true, true, true, true, true, true, true, true, false, false, false, false, false, false, false, false] rfl rfl (any_of HT_.out (by kernel_rfl)) (fun _ _ _ h => h) (Or.inl ⟨by rfl, ?_⟩) ?_ ?_
                      rotate_left
                      · intro w'
                        go_simp
                        with_reducible rfl
                      rotate_left
                      · simp only [Act.put, List.setIfInBounds_toArray, List.set_cons_zero, List.set_cons_succ, i64_w, i32_w]
                        rfl
                      refine take_ (i := 26) (N := some 104) (v := ?_) (a' := ?_) #[true, true, true, true, true, true, true, true, true, true, true, true, true, true, true, true, true, true, true, true, true, true, true, true, true, true, true, false, false, false, false, false, false, false] rfl rfl (take_ofW HT_.out HW_.out (by kernel_rfl)) (fun _ _ _ h => h) (Or.inl ⟨by rfl, ?_⟩) hHeld ?_ ?_
                      rotate_left
                      · rintro w' ⟨s0, s1⟩
                        go_simp
                        with_reducible rfl
                      rotate_left
                      · simp only [Act.put, List.setIfInBounds_toArray, List.set_cons_zero, List.set_cons_succ, i64_w, i32_w]
                        rfl
                      refine take_ (i := 29) (N := some 107) (v := ?_) (a' := ?_) #[true, true, true, true, true, true, true, true, true, true, true, true, true, true, true, true, true, true, true, true, true, true, true, true, true, true, true, false, false, true, false, false, false, false] rfl rfl (take_ofW HT_.out HW_.out (by kernel_rfl)) (fun _ _ _ h => h) (Or.inl ⟨by rfl, ?_⟩) hHeld ?_ ?_
                      rotate_left
                      · rintro w' ⟨s0, s1⟩
                        go_simp
                        with_reducible rfl
                      rotate_left
                      · simp only [Act.put, List.setIfInBounds_toArray, List.set_cons_zero, List.set_cons_succ, i64_w, i32_w]
                        rfl
                      refine one_ (i := 27) (N := some 105) #[true, true, true, true, true, true, true, true, true, true, true, true, true, true, true, true, true, true, true, true, true, true, true, true, true, true, true, true, false, true, false, false, false, false] rfl rfl (one_of HT_.out (by kernel_rfl)) (by decide) (fun K hK => ?_)
                      refine gs Try.func12 (by kernel_rfl) rfl #[.agg #[.slice A0_0 l0_0.length c0_0, .bool a0_1]] (by rfl) rfl rfl ?_
                      with_reducible refine (pentroughlaw16_ours.calls (fun k_ => k_ < w.heap.size) _ _ l0_0 a0_1 t478 t481 _ ?side1 A134.out).mono ?_
                      (case side1 => exact Kd.V_mk HC0_0.out (Kd.F_below (Kd.C_F (Kd.heap_slice 3 (Kd.heap_int .i64)) HR0_0.out) (bb HB)))
                      rintro e w153 ⟨v479, rfl, ho0, hb⟩
                      refine ⟨_, rfl, ?_⟩
                      replace HO_422000 := vB HO_422000 hb
                      replace HO_428000 := vB HO_428000 hb
                      replace HO_441000 := vB HO_441000 hb
                      replace HO_450000 := vB HO_450000 hb
                      replace HO455 := vB HO455 hb
                      replace HO461 := vB HO461 hb
                      replace HO465 := vB HO465 hb
                      replace HO469 := vB HO469 hb
                      replace HO474 := vB HO474 hb
                      have HO480 := Aside0.mk (Kd.V_lower (Kd.V_mono (ok' := fun k_ => k_ ≠ gb409 ∧ k_ ≠ gb421 ∧ k_ ≠ gb427 ∧ k_ ≠ gb440 ∧ k_ ≠ gb449) ho0 (fun k_ hk_ => ⟨o2 hk_ (gw GW409) (Kd.freshB (kk BK409) k_), o2 hk_ (gw GW421) (Kd.freshB (kk BK421) k_), o2 hk_ (gw GW427) (Kd.freshB (kk BK427) k_), o2 hk_ (gw GW440) (Kd.freshB (kk BK440) k_), o2 hk_ (gw GW449) (Kd.freshB (kk BK449) k_)⟩)) (below_size (bb HB)))
                      replace BK409 := kB BK409 hb
                      replace BK421 := kB BK421 hb
                      replace BK427 := kB BK427 hb
                      replace BK440 := kB BK440 hb
                      replace BK449 := kB BK449 hb
                      replace HB := hB HB hb
                      (try clear hb)
                      (try clear hb2)
                      (try clear hk)
                      (try clear hi)
                      (try clear ho0)
                      obtain ⟨Ao154, co154, eo154⟩ := Kd.V_slice HO480.out
                      (first | subst eo154 | (injection eo154 with f1_ f2_ f3_; have f4_ := f1_.symm; have f5_ := f3_.symm; clear f1_ f2_ f3_; subst f4_; subst f5_))
                      refine hK.out _ _ ⟨cx BK409 0, cx BK409 1⟩ (fun hHeld => ?_)
                      clear hK K
                      refine norm_ (a' := ?_) ?_ ?_
                      rotate_left
                      · show Act.put _ (some 105) _ = _
                        simp only [Act.put, List.setIfInBounds_toArray, List.set_cons_zero, List.set_cons_succ, i64_w, i32_w]
                        rfl
                      refine one_ (i := 28) (N := some 106) #[true, true, true, true, true, true, true, true, true, true, true, true, true, true, true, true, true, true, true, true, true, true, true, true, true, true, true, true, true, true, false, false, false, false] rfl rfl (one_of HT_.out (by kernel_rfl)) (by decide) (fun K hK => ?_)
                      refine gs Try.func17 (by kernel_rfl) rfl #[.agg #[.slice Ao154 t478.length co154, .bool t481]] (by rfl) rfl rfl ?_
                      with_reducible refine (chans_Count.calls kj19 _ _ t478 t481 t482 _ ?side1 ?side2 A135.out).mono ?_
                      (case side1 => exact (Kd.V_reads' (vv HO480)).2.2)
                      (case side2 => exact (Kd.V_reads' HO480.out).2.1)
                      rintro e w155 ⟨rfl, hb⟩
                      refine ⟨_, rfl, ?_⟩
                      replace HO_422000 := vB HO_422000 hb
                      replace HO_428000 := vB HO_428000 hb
                      replace HO_441000 := vB HO_441000 hb
                      replace HO_450000 := vB HO_450000 hb
                      replace HO455 := vB HO455 hb
                      replace HO461 := vB HO461 hb
                      replace HO465 := vB HO465 hb
                      replace HO469 := vB HO469 hb
                      replace HO474 := vB HO474 hb
                      replace HO480 := vB HO480 hb
                      replace BK409 := kB BK409 hb
                      replace BK421 := kB BK421 hb
                      replace BK427 := kB BK427 hb
                      replace BK440 := kB BK440 hb
                      replace BK449 := kB BK449 hb
                      replace HB := hB HB hb
                      (try clear hb)
                      (try clear hb2)
                      (try clear hk)
                      (try clear hi)
                      refine hK.out _ _ ⟨cx BK409 0, cx BK409 1⟩ (fun hHeld => ?_)
                      clear hK K
                      refine norm_ (a' := ?_) ?_ ?_
                      rotate_left
                      · show Act.put _ (some 106) _ = _
                        simp only [Act.put, List.setIfInBounds_toArray, List.set_cons_zero, List.set_cons_succ, i64_w, i32_w]
                        rfl
                      refine one_ (i := 30) (N := some 108) #[true, true, true, true, true, true, true, true, true, true, true, true, true, true, true, true, true, true, true, true, true, true, true, true, true, true, true, true, true, true, true, false, false, false] rfl rfl (one_of HT_.out (by kernel_rfl)) (by decide) (fun K hK => ?_)
                      refine gs Try.func26 (by kernel_rfl) rfl #[.agg #[.slice A0_0 l0_0.length c0_0, .bool a0_1]] (by rfl) rfl rfl ?_
                      with_reducible refine (pentroughref16_Count.calls kj19 _ _ l0_0 a0_1 t483 _ ?side1 ?side2 A136.out).mono ?_
                      (case side1 => exact Kd.C_below HR0_0.out (bb HB))
                      (case side2 => exact HC0_0.out)
                      rintro e w156 ⟨rfl, hb⟩
                      refine ⟨_, rfl, ?_⟩
                      replace HO_422000 := vB HO_422000 hb
                      replace HO_428000 := vB HO_428000 hb
                      replace HO_441000 := vB HO_441000 hb
                      replace HO_450000 := vB HO_450000 hb
                      replace HO455 := vB HO455 hb
                      replace HO461 := vB HO461 hb
                      replace HO465 := vB HO465 hb
                      replace HO469 := vB HO469 hb
                      replace HO474 := vB HO474 hb
                      replace HO480 := vB HO480 hb
                      replace BK409 := kB BK409 hb
                      replace BK421 := kB BK421 hb
                      replace BK427 := kB BK427 hb
                      replace BK440 := kB BK440 hb
                      replace BK449 := kB BK449 hb
                      replace HB := hB HB hb
                      (try clear hb)
                      (try clear hb2)
                      (try clear hk)
                      (try clear hi)
                      refine hK.out _ _ ⟨cx BK409 0, cx BK409 1⟩ (fun hHeld => ?_)
                      clear hK K
                      refine norm_ (a' := ?_) ?_ ?_
                      rotate_left
                      · show Act.put _ (some 108) _ = _
                        simp only [Act.put, List.setIfInBounds_toArray, List.set_cons_zero, List.set_cons_succ, i64_w, i32_w]
                        rfl
                      refine pure_ (i := 31) (N := some 109) (v := ?_) (a' := ?_) #[true, true, true, true, true, true, true, true, true, true, true, true, true, true, true, true, true, true, true, true, true, true, true, true, true, true, true, true, true, true, true, true, false, false] rfl rfl (any_of HT_.out (by kernel_rfl)) (fun _ _ _ h => h) (Or.inl ⟨by rfl, ?_⟩) ?_ ?_
                      rotate_left
                      · intro w'
                        go_simp
                        with_reducible rfl
                      rotate_left
                      · simp only [Act.put, List.setIfInBounds_toArray, List.set_cons_zero, List.set_cons_succ, i64_w, i32_w]
                        rfl
                      refine pure_ (i := 32) (N := some 110) (v := ?_) (a' := ?_) #[true, true, true, true, true, true, true, true, true, true, true, true, true, true, true, true, true, true, true, true, true, true, true, true, true, true, true, true, true, true, true, true, true, false] rfl rfl (any_of HT_.out (by kernel_rfl)) (fun _ _ _ h => h) (Or.inl ⟨by rfl, ?_⟩) ?_ ?_
                      rotate_left
                      · intro w'
                        go_simp
                        with_reducible rfl
                      rotate_left
                      · simp only [Act.put, List.setIfInBounds_toArray, List.set_cons_zero, List.set_cons_succ, i64_w, i32_w]
                        rfl
                      refine pure_ (i := 33) (N := some 4) (v := ?_) (a' := ?_) #[true, true, true, true, true, true, true, true, true, true, true, true, true, true, true, true, true, true, true, true, true, true, true, true, true, true, true, true, true, true, true, true, true, true] rfl rfl (any_of HT_.out (by kernel_rfl)) (fun _ _ _ h => h) (Or.inl ⟨by rfl, ?_⟩) ?_ ?_
                      rotate_left
                      · intro w'
                        go_simp
                        with_reducible rfl
                      rotate_left
                      · simp only [Act.put, List.setIfInBounds_toArray, List.set_cons_zero, List.set_cons_succ, i64_w, i32_w]
                        rfl
                      refine done_ (done_of HT_.out (by kernel_rfl)) ?_
                      try go_wp2
                      go_ret
                      exact ⟨by first | rfl | (simp [errW_none, errW_some] <;> rfl) | (simp [*, errW_none, errW_some] <;> rfl), by repeat (first | (with_reducible first | exact HB.out | apply below_alloc | apply pw_below_drewN | apply below_drew1 | refine below_set ?_ GE409.out | refine below_set ?_ GE421.out | refine below_set ?_ GE427.out | refine below_set ?_ GE440.out | refine below_set ?_ GE449.out) | exact HB.out)⟩
                    · rw [if_neg c133] at H
                      have c133b0 : (t476 == t477) = false := by simpa using c133
                      (try (have c133b1 : decide (t476 = t477) = false := by simpa using c133))
                      (try (have c133b2 : (t476 == t477) = false := by simpa using c133))
                      (try (have c133b3 : ¬ (t476 = t477) := by simpa using c133))
                      clear c133
                      cases H; exact absurd HRT.out (by decide)
                  · replace c129 := Bool.eq_false_iff.mpr c129
                    subst c129
                    rw [if_neg nf] at H
                    cases H; exact absurd HRT.out (by decide)
                · rw [if_neg c124] at H
                  have c124b0 : (t457 == t458) = false := by simpa using c124
                  (try (have c124b1 : decide (t457 = t458) = false := by simpa using c124))
                  (try (have c124b2 : (t457 == t458) = false := by simpa using c124))
                  (try (have c124b3 : ¬ (t457 = t458) := by simpa using c124))
                  clear c124
                  cases H; exact absurd HRT.out (by decide)
              · replace c120 := Bool.eq_false_iff.mpr c120
                subst c120
                rw [if_neg nf] at H
                cases H; exact absurd HRT.out (by decide)

end Go.Proofs.Ytneomcnfbnfjbaa.Q
