-- Laid by mix.py, a program of this session, with the kit's print.py; walks by hand come out of wip/over.
import Derived.Test.YtocmnggcbpdnjaaShort
import Derived.Test.YtocmnggcbpdnjaaQ0
import Derived.Test.YtocmnggcbpdnjaaQ1
import Derived.Test.YtocmnggcbpdnjaaQ2
import Derived.Test.YtocmnggcbpdnjaaQ3
import Derived.Test.YtocmnggcbpdnjaaQ4
import Derived.Test.YtocmnggcbpdnjaaQ9
namespace Go.Proofs.Ytocmnggcbpdnjaa.Q
open Go.RowKit Go.Proofs.YtocmnggcbpdnjaaW.PrintWords Go.Proofs.YtocmnggcbpdnjaaW.PrintLast Go.Proofs.YtocmnggcbpdnjaaW.PrintMore Go.Proofs.YtocmnggcbpdnjaaW.Sh
attribute [local go_sem] max2_int min2_int max_two min_two max_three min_three max_four min_four   -- for this text's walks alone
set_option linter.unusedVariables false
set_option linter.unusedSimpArgs false

/-! ### pentroughlaw19_WireOrder: function 7 -/
def pentroughlaw19_WireOrder.l0 : Nat → List (S29) → Bool → ByteArray → ByteArray → Int → List Int → Bool → Int → List Int → Option (Bool)
  | 0, _, _, _, _, _, _, _, _, _ => none
  | k + 1, x0, x3, x5, x6, x7, x465000, x465001, x465002, x465003 => if x7 < (x0.length : Int) then (if 0 ≤ x7 then (if ((rd_T29 x0 x7).f0) = 0 then ((wire_Arrive.f x465000 x465001 x465002 x465003 ((rd_T29 x0 x7).f2)).bind fun bt467 => (if bt467.2.2.2.2 = 0 then (if x5.size + (strOfNums ((rd_T29 x0 x7).f2)).size ≤ 9223372036854775807 then (if x6.size + (strOfNums bt467.1).size ≤ 9223372036854775807 then (if (x6 ++ (strOfNums bt467.1)).toList = (x5 ++ (strOfNums ((rd_T29 x0 x7).f2))).toList then ((wire_Sane.f bt467.1 bt467.2.1 bt467.2.2.1 bt467.2.2.2.1).bind fun t478 => (if t478 = true then (pentroughlaw19_WireOrder.l0 k x0 x3 (x5 ++ (strOfNums ((rd_T29 x0 x7).f2))) x6 (wrap64 (x7 + 1)) bt467.1 bt467.2.1 bt467.2.2.1 bt467.2.2.2.1) else (some false))) else (some false)) else (none)) else (none)) else (if x6.size + (strOfNums bt467.1).size ≤ 9223372036854775807 then (if (x6 ++ (strOfNums bt467.1)).toList = x5.toList then ((wire_Sane.f bt467.1 bt467.2.1 bt467.2.2.1 bt467.2.2.2.1).bind fun t479 => (if t479 = true then (pentroughlaw19_WireOrder.l0 k x0 x3 x5 x6 (wrap64 (x7 + 1)) bt467.1 bt467.2.1 bt467.2.2.1 bt467.2.2.2.1) else (some false))) else (some false)) else (none)))) else (if ((rd_T29 x0 x7).f0) = 1 then ((wire_Read.f x465000 x465001 x465002 x465003 ((rd_T29 x0 x7).f1)).bind fun bt481 => (if x6.size + (strOfNums bt481.2.2.2.2).size ≤ 9223372036854775807 then (if (x6 ++ (strOfNums bt481.2.2.2.2)).size + (strOfNums bt481.1).size ≤ 9223372036854775807 then (if ((x6 ++ (strOfNums bt481.2.2.2.2)) ++ (strOfNums bt481.1)).toList = x5.toList then ((wire_Sane.f bt481.1 bt481.2.1 bt481.2.2.1 bt481.2.2.2.1).bind fun t493 => (if t493 = true then (pentroughlaw19_WireOrder.l0 k x0 x3 x5 (x6 ++ (strOfNums bt481.2.2.2.2)) (wrap64 (x7 + 1)) bt481.1 bt481.2.1 bt481.2.2.1 bt481.2.2.2.1) else (some false))) else (some false)) else (none)) else (none))) else (if ((rd_T29 x0 x7).f0) = 2 then ((wire_Grant.f x465000 x465001 x465002 x465003 ((rd_T29 x0 x7).f1)).bind fun bt495 => (if x6.size + (strOfNums bt495.1).size ≤ 9223372036854775807 then (if (x6 ++ (strOfNums bt495.1)).toList = x5.toList then ((wire_Sane.f bt495.1 bt495.2.1 bt495.2.2.1 bt495.2.2.2.1).bind fun t505 => (if t505 = true then (pentroughlaw19_WireOrder.l0 k x0 x3 x5 x6 (wrap64 (x7 + 1)) bt495.1 bt495.2.1 bt495.2.2.1 bt495.2.2.2.1) else (some false))) else (some false)) else (none))) else (if ((rd_T29 x0 x7).f0) = 3 then ((wire_Write.f x465000 x465001 x465002 x465003 ((rd_T29 x0 x7).f2)).bind fun bt507 => (if x6.size + (strOfNums bt507.1).size ≤ 9223372036854775807 then (if (x6 ++ (strOfNums bt507.1)).toList = x5.toList then ((wire_Sane.f bt507.1 bt507.2.1 bt507.2.2.1 bt507.2.2.2.1).bind fun t517 => (if t517 = true then (pentroughlaw19_WireOrder.l0 k x0 x3 x5 x6 (wrap64 (x7 + 1)) bt507.1 bt507.2.1 bt507.2.2.1 bt507.2.2.2.1) else (some false))) else (some false)) else (none))) else (if ((rd_T29 x0 x7).f0) = 4 then ((wire_Finish.f x465000 x465001 x465002 x465003).bind fun bt518 => (if x6.size + (strOfNums bt518.1).size ≤ 9223372036854775807 then (if (x6 ++ (strOfNums bt518.1)).toList = x5.toList then ((wire_Sane.f bt518.1 bt518.2.1 bt518.2.2.1 bt518.2.2.2).bind fun t526 => (if t526 = true then (pentroughlaw19_WireOrder.l0 k x0 x3 x5 x6 (wrap64 (x7 + 1)) bt518.1 bt518.2.1 bt518.2.2.1 bt518.2.2.2) else (some false))) else (some false)) else (none))) else (if x6.size + (strOfNums x465000).size ≤ 9223372036854775807 then (if (x6 ++ (strOfNums x465000)).toList = x5.toList then ((wire_Sane.f x465000 x465001 x465002 x465003).bind fun t527 => (if t527 = true then (pentroughlaw19_WireOrder.l0 k x0 x3 x5 x6 (wrap64 (x7 + 1)) x465000 x465001 x465002 x465003) else (some false))) else (some false)) else (none))))))) else (none)) else (some x3)
def pentroughlaw19_WireOrder.f (k : Nat) (l0 : List (S29)) : Option (Bool) := (pentroughlaw19_awake.f).bind fun t462 => ((pentroughlaw19_few.f k l0).bind fun t463 => (if t463 = true then (pentroughlaw19_WireOrder.l0 k l0 t462 (⟨#[]⟩ : ByteArray) (⟨#[]⟩ : ByteArray) 0 ([] : List Int) false 0 ([] : List Int)) else (some t462)))
theorem pentroughlaw19_WireOrder.mono_l : ∀ k, (∀ y0 y1 y2 y3 y4 y5 y6 y7 y8, LeO (pentroughlaw19_WireOrder.l0 k y0 y1 y2 y3 y4 y5 y6 y7 y8) (pentroughlaw19_WireOrder.l0 (k + 1) y0 y1 y2 y3 y4 y5 y6 y7 y8))
  | 0 => fun _ _ _ _ _ _ _ _ _ r h => by simp [pentroughlaw19_WireOrder.l0] at h
  | k + 1 => by
    have ih0 := pentroughlaw19_WireOrder.mono_l k
    · intro y0 y1 y2 y3 y4 y5 y6 y7 y8
      unfold pentroughlaw19_WireOrder.l0
      repeat' first
      | (with_reducible exact ih0 _ _ _ _ _ _ _ _ _)
      | (with_reducible exact pentroughlaw19_few.mono _ _)
      | (with_reducible exact LeO.refl _)
      | (with_reducible exact LeO.none _)
      | (with_reducible refine LeO.ite ?_ ?_)
      | (with_reducible refine LeO.bind ?_ (fun _ => ?_))
      | exact ih0 _ _ _ _ _ _ _ _ _
      | exact pentroughlaw19_few.mono _ _
      | exact LeO.none _
      | refine LeO.ite ?_ ?_
      | refine LeO.bind ?_ (fun _ => ?_)
theorem pentroughlaw19_WireOrder.mono : ∀ a0 k, LeO (pentroughlaw19_WireOrder.f k a0) (pentroughlaw19_WireOrder.f (k + 1) a0) := by
  intro a0 k
  have ih0 := pentroughlaw19_WireOrder.mono_l k
  unfold pentroughlaw19_WireOrder.f
  repeat' first
      | (with_reducible exact ih0 _ _ _ _ _ _ _ _ _)
      | (with_reducible exact pentroughlaw19_few.mono _ _)
      | (with_reducible exact LeO.refl _)
      | (with_reducible exact LeO.none _)
      | (with_reducible refine LeO.ite ?_ ?_)
      | (with_reducible refine LeO.bind ?_ (fun _ => ?_))
      | exact ih0 _ _ _ _ _ _ _ _ _
      | exact pentroughlaw19_few.mono _ _
      | exact LeO.none _
      | refine LeO.ite ?_ ?_
      | refine LeO.bind ?_ (fun _ => ?_)
def pentroughlaw19_WireOrder.T12 : Bool × List (List Nat × List Nat) := (true, [([], []), ([], []), ([], []), ([1, 2], [1, 2]), ([3], [3]), ([4], [4]), ([0, 5], [0, 5]), ([6], [6]), ([7], [7]), ([7], [7]), ([], []), ([10, 8, 6, 0, 1, 2, 3, 4, 5, 6, 7, 8, 10], [8, 10]), ([9, 11, 0, 1, 2, 3, 4, 5, 6, 7, 8, 9, 10, 11], [9])])
def pentroughlaw19_WireOrder.B12 : List Nat := [0, 0, 0, 6, 14, 30, 63, 127, 255, 255, 0, 1535, 4095]
theorem pentroughlaw19_WireOrder.tab12 : rtab .any (opsOf Try.f7 12) = pentroughlaw19_WireOrder.T12 := by kernel_rfl
theorem pentroughlaw19_WireOrder.bits12 : waitsOk pentroughlaw19_WireOrder.T12.2 pentroughlaw19_WireOrder.B12 = true := by kernel_rfl
def pentroughlaw19_WireOrder.T17 : Bool × List (List Nat × List Nat) := (true, [([], []), ([], []), ([], []), ([1, 2], [1, 2]), ([3], [3]), ([4], [4]), ([0, 5], [0, 5]), ([6], [6]), ([7], [7]), ([7], [7]), ([], []), ([10, 8, 6, 0, 1, 2, 3, 4, 5, 6, 7, 8, 10], [8, 10]), ([9, 11, 0, 1, 2, 3, 4, 5, 6, 7, 8, 9, 10, 11], [9])])
def pentroughlaw19_WireOrder.B17 : List Nat := [0, 0, 0, 6, 14, 30, 63, 127, 255, 255, 0, 1535, 4095]
theorem pentroughlaw19_WireOrder.tab17 : rtab .any (opsOf Try.f7 17) = pentroughlaw19_WireOrder.T17 := by kernel_rfl
theorem pentroughlaw19_WireOrder.bits17 : waitsOk pentroughlaw19_WireOrder.T17.2 pentroughlaw19_WireOrder.B17 = true := by kernel_rfl
def pentroughlaw19_WireOrder.T21 : Bool × List (List Nat × List Nat) := (true, [([], []), ([], []), ([], []), ([1, 2], [1, 2]), ([3], [3]), ([4], [4]), ([0, 5], [0, 5]), ([6], [6]), ([7], [7]), ([7], [7]), ([], []), ([10, 8, 6, 0, 1, 2, 3, 4, 5, 6, 7, 8, 10], [8, 10]), ([9, 11, 0, 1, 2, 3, 4, 5, 6, 7, 8, 9, 10, 11], [9])])
def pentroughlaw19_WireOrder.B21 : List Nat := [0, 0, 0, 6, 14, 30, 63, 127, 255, 255, 0, 1535, 4095]
theorem pentroughlaw19_WireOrder.tab21 : rtab .any (opsOf Try.f7 21) = pentroughlaw19_WireOrder.T21 := by kernel_rfl
theorem pentroughlaw19_WireOrder.bits21 : waitsOk pentroughlaw19_WireOrder.T21.2 pentroughlaw19_WireOrder.B21 = true := by kernel_rfl
def pentroughlaw19_WireOrder.T24 : Bool × List (List Nat × List Nat) := (true, [([], []), ([], []), ([], []), ([1, 2], [1, 2]), ([3], [3]), ([4], [4]), ([0, 5], [0, 5]), ([6], [6]), ([7], [7]), ([7], [7]), ([], []), ([10, 8, 6, 0, 1, 2, 3, 4, 5, 6, 7, 8, 10], [8, 10]), ([9, 11, 0, 1, 2, 3, 4, 5, 6, 7, 8, 9, 10, 11], [9])])
def pentroughlaw19_WireOrder.B24 : List Nat := [0, 0, 0, 6, 14, 30, 63, 127, 255, 255, 0, 1535, 4095]
theorem pentroughlaw19_WireOrder.tab24 : rtab .any (opsOf Try.f7 24) = pentroughlaw19_WireOrder.T24 := by kernel_rfl
theorem pentroughlaw19_WireOrder.bits24 : waitsOk pentroughlaw19_WireOrder.T24.2 pentroughlaw19_WireOrder.B24 = true := by kernel_rfl
set_option maxHeartbeats 8000000 in
set_option maxRecDepth 100000 in
theorem pentroughlaw19_WireOrder.calls (k : Nat) (A0 : Option Addr) (c0 : Nat) (l0 : List (S29)) (r : Bool) (w : World) (hr0 : Kd.C k29 w A0 l0.length l0) (hc0 : l0.length ≤ c0) (h : pentroughlaw19_WireOrder.f k l0 = some r) (HRT : Aside0 (r = true)) :
    Calls Try.prog 7 #[.slice A0 l0.length c0] w fun e w' => e = .returned (.bool r) ∧ Below w.heap.size w w' := by
  have hu27 := Try.underlying27
  have HR0 := Aside0.mk hr0
  have HC0 := Aside0.mk hc0
  clear hr0 hc0
  have HB := Aside0.mk (Below.refl w.heap.size w)
  have H : ((pentroughlaw19_awake.f).bind fun t462 => ((pentroughlaw19_few.f k l0).bind fun t463 => (if t463 = true then (pentroughlaw19_WireOrder.l0 k l0 t462 (⟨#[]⟩ : ByteArray) (⟨#[]⟩ : ByteArray) 0 ([] : List Int) false 0 ([] : List Int)) else (some t462)))) = some r := h
  clear h
  obtain ⟨t462, A2, H⟩ := ob H
  obtain ⟨t463, A3, H⟩ := ob H
  by_cases c4 : t463 = true
  · subst c4
    rw [if_pos rfl] at H
    have H' := Aside0.mk H
    clear H
    go_enter Try.func7, Try.ntmps7
    go_wp2_with (first | ((with_reducible refine gate_callee (f := 9) rfl ?_); refine gL (some 16) rfl rfl Try.func9 (by kernel_rfl) rfl #[] rfl ?_; (with_reducible refine (pentroughlaw19_awake.calls  t462 _ A2.out).mono ?_); rintro e w5 ⟨rfl, hb⟩; refine ⟨_, rfl, ?_⟩; replace HB := hB HB hb; (try clear hb); (try clear hb2); (try clear hk); (try clear hi)) | ((with_reducible refine gate_callee (f := 10) rfl ?_); refine gL (some 18) rfl rfl Try.func10 (by kernel_rfl) rfl #[.slice A0 l0.length c0] rfl ?_; (with_reducible refine (pentroughlaw19_few.calls k _ _ l0 true _ ?side1 ?side2 A3.out).mono ?_); (case side1 => exact Kd.C_below HR0.out (bb HB)); (case side2 => exact HC0.out); rintro e w' ⟨rfl, ⟨nd, rfl⟩⟩; refine ⟨_, rfl, ?_⟩; (try (rw [drewN_self w5]; generalize hq_ : World.drewN w5 _ = w5; have n0_ : Aside0 (Below w.heap.size w w5) := ⟨by rw [← hq_]; exact (bb HB)⟩; clear HB hq_; have HB := n0_; clear n0_))) | ((with_reducible refine gate_dst (N := 4) rfl ?_); refine box_event ?hg (N := 4) ?hd (cs := #[.slice none 0 0, .bool false, .int .i64 0, .slice none 0 0]) (t := 27) ?hr ?_; (case hd => rfl); (case hg => rfl); (case hr => first | (go_simp; done) | (go_simp; rfl)); intro gb464 hg w6 hbox hb; have BK464 := Aside0.mk hbox; have GW464 := gE HB hg; have GE464 := gE HB hg; replace HB := hB HB hb; clear hb hbox hg; obtain ⟨hcz7_0, hcz7_1, hcz7_2, hcz7_3, hfz7_0, hfz7_1, hfz7_2, hfz7_3⟩ := bc4 BK464))
    go_loopg [5, 6, 7] k (fun kq v5 v6 v7 w' => ∃ (x5_1 : ByteArray) (x6_1 : ByteArray) (x7_1 : Int) (x465000_1 : List Int) (x465001_1 : Bool) (x465002_1 : Int) (x465003_1 : List Int) (u465000 : Value) (u465003 : Value), v5 = .string x5_1 ∧ v6 = .string x6_1 ∧ v7 = .int .i64 x7_1 ∧ Aside0 (pentroughlaw19_WireOrder.l0 kq l0 t462 x5_1 x6_1 x7_1 x465000_1 x465001_1 x465002_1 x465003_1 = some r) ∧ Aside0 (kq ≤ k) ∧ Aside0 (Kd.V (Kd.int .u8) 5 w' w.heap.size (fun k_ => k_ ≠ gb464) u465000 x465000_1) ∧ Aside0 (Kd.V (Kd.int .u8) 5 w' w.heap.size (fun k_ => k_ ≠ gb464) u465003 x465003_1) ∧ Aside0 (w'.heap[gb464]? = some (.cells #[u465000, .bool x465001_1, .int .i64 x465002_1, u465003] 27 (0, 0))) ∧ Aside0 (Below w.heap.size w w'))
    case atStart => exact ⟨((⟨#[]⟩ : ByteArray)), ((⟨#[]⟩ : ByteArray)), (0), (([] : List Int)), (false), (0), (([] : List Int)), (.slice none 0 0), (.slice none 0 0), (by first | rfl | (simp; done) | (simp [*]; done)), (by first | rfl | (simp; done) | (simp [*]; done)), (by first | rfl | (simp; done) | (simp [*]; done)), H', ⟨Nat.le_refl _⟩, ⟨Kd.V_nil _ _ _ _ _⟩, ⟨Kd.V_nil _ _ _ _ _⟩, ⟨by (with_reducible repeat (first | refine blk_drewN ?_ _ | refine blk_drew ?_ | refine blk_alloc ?_ _)); refine blk_put (cs := #[.slice none 0 0, .bool false, .int .i64 0, .slice none 0 0]) ?_ 3 _ rfl; (with_reducible repeat (first | refine blk_drewN ?_ _ | refine blk_drew ?_ | refine blk_alloc ?_ _)); refine blk_put (cs := #[.slice none 0 0, .bool false, .int .i64 0, .slice none 0 0]) ?_ 2 _ rfl; (with_reducible repeat (first | refine blk_drewN ?_ _ | refine blk_drew ?_ | refine blk_alloc ?_ _)); refine blk_put (cs := #[.slice none 0 0, .bool false, .int .i64 0, .slice none 0 0]) ?_ 1 _ rfl; (with_reducible repeat (first | refine blk_drewN ?_ _ | refine blk_drew ?_ | refine blk_alloc ?_ _)); refine blk_put (cs := #[.slice none 0 0, .bool false, .int .i64 0, .slice none 0 0]) ?_ 0 _ rfl; (with_reducible repeat (first | refine blk_drewN ?_ _ | refine blk_drew ?_ | refine blk_alloc ?_ _)); exact BK464.out⟩, ⟨bb HB⟩⟩
    case round =>
      clear H'
      try clear c1
      try clear p2
      try clear c4
      try clear c7
      try clear hcz7_0
      try clear hcz7_1
      try clear hcz7_2
      try clear hcz7_3
      try clear hfz7_0
      try clear hfz7_1
      try clear hfz7_2
      try clear hfz7_3
      obtain ⟨x5_1, x6_1, x7_1, x465000_1, x465001_1, x465002_1, x465003_1, u465000, u465003, rfl, rfl, rfl, HA, HK1, HO_465000, HO_465003, BK464, HB⟩ := hrel
      cases gk with
      | zero => exact absurd HA.out (by simp [pentroughlaw19_WireOrder.l0])
      | succ k1 =>
        have H := HA.out
        clear HA
        simp only [pentroughlaw19_WireOrder.l0] at H
        by_cases c8 : x7_1 < (l0.length : Int)
        · rw [if_pos c8] at H
          have c8b0 : decide (x7_1 < (l0.length : Int)) = true := decide_eq_true c8
          clear c8
          by_cases c9 : 0 ≤ x7_1
          · rw [if_pos c9] at H
            have c9b0 : decide (0 ≤ x7_1) = true := decide_eq_true c9
            clear c9
            by_cases c10 : ((rd_T29 l0 x7_1).f0) = 0
            · rw [if_pos c10] at H
              have c10b0 : (((rd_T29 l0 x7_1).f0) == 0) = true := beq_iff_eq.mpr c10
              have c10b1 : (((rd_T29 l0 x7_1).f0) != 0) = false := bne_eq_false_iff_eq.mpr c10
              clear c10
              obtain ⟨⟨t467, t470, t471, t472, t475⟩, A11, H⟩ := ob H
              dsimp only at H
              by_cases c12 : t475 = 0
              · rw [if_pos c12] at H
                have c12b0 : (t475 == 0) = true := beq_iff_eq.mpr c12
                have c12b1 : (t475 != 0) = false := bne_eq_false_iff_eq.mpr c12
                clear c12
                by_cases c13 : x5_1.size + (strOfNums ((rd_T29 l0 x7_1).f2)).size ≤ 9223372036854775807
                · rw [if_pos c13] at H
                  have c13b0 := eq_true c13
                  have c13b1 : decide (x5_1.size + (strOfNums ((rd_T29 l0 x7_1).f2)).size ≤ 9223372036854775807) = true := decide_eq_true c13
                  try have c13b2 : (9223372036854775807 < x5_1.size + (strOfNums ((rd_T29 l0 x7_1).f2)).size) = False := eq_false (Nat.not_lt.2 c13)
                  by_cases c14 : x6_1.size + (strOfNums t467).size ≤ 9223372036854775807
                  · rw [if_pos c14] at H
                    have c14b0 := eq_true c14
                    have c14b1 : decide (x6_1.size + (strOfNums t467).size ≤ 9223372036854775807) = true := decide_eq_true c14
                    try have c14b2 : (9223372036854775807 < x6_1.size + (strOfNums t467).size) = False := eq_false (Nat.not_lt.2 c14)
                    by_cases c15 : (x6_1 ++ (strOfNums t467)).toList = (x5_1 ++ (strOfNums ((rd_T29 l0 x7_1).f2))).toList
                    · rw [if_pos c15] at H
                      have c15b0 : ((x6_1 ++ (strOfNums t467)).toList == (x5_1 ++ (strOfNums ((rd_T29 l0 x7_1).f2))).toList) = true := beq_iff_eq.mpr c15
                      have c15b1 : ((x6_1 ++ (strOfNums t467)).toList != (x5_1 ++ (strOfNums ((rd_T29 l0 x7_1).f2))).toList) = false := bne_eq_false_iff_eq.mpr c15
                      clear c15
                      obtain ⟨t478, A16, H⟩ := ob H
                      by_cases c17 : t478 = true
                      · subst c17
                        rw [if_pos rfl] at H
                        have H' := Aside0.mk H
                        clear H
                        have p465 : 0 ≤ (x7_1 : Int) := of_decide_eq_true (by first | (with_reducible assumption) | assumption)
                        have q465 : x7_1 < (l0.length : Int) := of_decide_eq_true (by first | (with_reducible assumption) | assumption)
                        obtain ⟨ad465, A465_2, c465_2, e465, hx465_0, hx465_1, hx465_2, hl465_2, hi465_2⟩ := at_T29 HR0.out x7_1 p465 q465
                        cases e465
                        replace hx465_0 := (HB.out.cell (World.block_lt_of_cell? w _ hx465_0)).trans hx465_0
                        replace hx465_1 := (HB.out.cell (World.block_lt_of_cell? w _ hx465_1)).trans hx465_1
                        replace hx465_2 := (HB.out.cell (World.block_lt_of_cell? w _ hx465_2)).trans hx465_2
                        have HR465_2 := Aside0.mk hi465_2
                        have HC465_2 := Aside0.mk hl465_2
                        clear hi465_2 hl465_2
                        replace p465 := eq_true p465
                        replace q465 := eq_true q465
                        obtain ⟨Ao18, co18, eo18⟩ := Kd.V_slice HO_465000.out
                        subst eo18
                        obtain ⟨Ao19, co19, eo19⟩ := Kd.V_slice HO_465003.out
                        subst eo19
                        try go_wp2
                        replace HO_465000 := Aside0.mk (Kd.V_drew HO_465000.out)
                        replace HO_465003 := Aside0.mk (Kd.V_drew HO_465003.out)
                        replace BK464 := Aside0.mk (blk_drew BK464.out)
                        replace HB := Aside0.mk (below_drew1 HB.out)
                        have p466 : 0 ≤ (x7_1 : Int) := of_decide_eq_true (by first | (with_reducible assumption) | assumption)
                        have q466 : x7_1 < (l0.length : Int) := of_decide_eq_true (by first | (with_reducible assumption) | assumption)
                        obtain ⟨ad466, A466_2, c466_2, e466, hx466_0, hx466_1, hx466_2, hl466_2, hi466_2⟩ := at_T29 HR0.out x7_1 p466 q466
                        have hw466_2 := hx466_2
                        have hw466_1 := hx466_1
                        have hw466_0 := hx466_0
                        obtain rfl : ad465 = ad466 := (by injection e466)
                        replace hx466_0 := (HB.out.cell (World.block_lt_of_cell? w _ hx466_0)).trans hx466_0
                        replace hx466_1 := (HB.out.cell (World.block_lt_of_cell? w _ hx466_1)).trans hx466_1
                        replace hx466_2 := (HB.out.cell (World.block_lt_of_cell? w _ hx466_2)).trans hx466_2
                        have HR466_2 := Aside0.mk hi466_2
                        have HC466_2 := Aside0.mk hl466_2
                        clear hi466_2 hl466_2
                        replace p466 := eq_true p466
                        replace q466 := eq_true q466
                        refine start_ (n := 13) (S := fun w' => w'.cell? ⟨gb464, 0, none⟩ = some (.slice Ao18 x465000_1.length co18) ∧ w'.cell? ⟨gb464, 1, none⟩ = some (.bool x465001_1) ∧ w'.cell? ⟨gb464, 2, none⟩ = some (.int .i64 x465002_1) ∧ w'.cell? ⟨gb464, 3, none⟩ = some (.slice Ao19 x465003_1.length co19) ∧ w'.cell? (ad465.add ((x7_1).toNat * 3)) = some (.int .i64 ((rd_T29 l0 x7_1).f0)) ∧ w'.cell? ⟨(ad465.add ((x7_1).toNat * 3)).block, (ad465.add ((x7_1).toNat * 3)).off + 1, none⟩ = some (.int .i64 ((rd_T29 l0 x7_1).f1)) ∧ w'.cell? ⟨(ad465.add ((x7_1).toNat * 3)).block, (ad465.add ((x7_1).toNat * 3)).off + 2, none⟩ = some (.slice A466_2 ((rd_T29 l0 x7_1).f2).length c466_2)) (ds := []) #[false, false, false, false, false, false, false, false, false, false, false, false, false] (by kernel_rfl) rfl rfl ⟨cx BK464 0, cx BK464 1, cx BK464 2, cx BK464 3, ((HB.out.cell (World.block_lt_of_cell? w _ hw466_0)).trans hw466_0), ((HB.out.cell (World.block_lt_of_cell? w _ hw466_1)).trans hw466_1), ((HB.out.cell (World.block_lt_of_cell? w _ hw466_2)).trans hw466_2)⟩ (fun hHeld => ?_); refine with_tabW pentroughlaw19_WireOrder.tab12 pentroughlaw19_WireOrder.bits12 (fun HT_ HW_ => ?_)
                        generalize wr.drew = w20 at HO_465000 HO_465003 BK464 HB HR466_2 hx466_0 hx466_1 hx466_2 hHeld ⊢
                        refine pure_ (i := 1) (N := some 37) (v := ?_) (a' := ?_) #[false, true, false, false, false, false, false, false, false, false, false, false, false] rfl rfl (any_of HT_.out (by kernel_rfl)) (fun _ _ _ h => h) (Or.inl ⟨by rfl, ?_⟩) ?_ ?_
                        rotate_left
                        · intro w'
                          go_simp
                          with_reducible rfl
                        rotate_left
                        · simp only [Act.put, List.setIfInBounds_toArray, List.set_cons_zero, List.set_cons_succ, i64_w, i32_w]
                          rfl
                        refine pure_ (i := 2) (N := some 38) (v := ?_) (a' := ?_) #[false, true, true, false, false, false, false, false, false, false, false, false, false] rfl rfl (any_of HT_.out (by kernel_rfl)) (fun _ _ _ h => h) (Or.inl ⟨by rfl, ?_⟩) ?_ ?_
                        rotate_left
                        · intro w'
                          go_simp
                          with_reducible rfl
                        rotate_left
                        · simp only [Act.put, List.setIfInBounds_toArray, List.set_cons_zero, List.set_cons_succ, i64_w, i32_w]
                          rfl
                        refine pure_ (i := 3) (N := some 39) (v := ?_) (a' := ?_) #[false, true, true, true, false, false, false, false, false, false, false, false, false] rfl rfl (any_of HT_.out (by kernel_rfl)) (fun _ _ _ h => h) (Or.inl ⟨by rfl, ?_⟩) ?_ ?_
                        rotate_left
                        · intro w'
                          go_simp
                          with_reducible rfl
                        rotate_left
                        · simp only [Act.put, List.setIfInBounds_toArray, List.set_cons_zero, List.set_cons_succ, i64_w, i32_w]
                          rfl
                        refine pure_ (i := 4) (N := some 40) (v := ?_) (a' := ?_) #[false, true, true, true, true, false, false, false, false, false, false, false, false] rfl rfl (any_of HT_.out (by kernel_rfl)) (fun _ _ _ h => h) (Or.inl ⟨by rfl, ?_⟩) ?_ ?_
                        rotate_left
                        · intro w'
                          go_simp
                          with_reducible rfl
                        rotate_left
                        · simp only [Act.put, List.setIfInBounds_toArray, List.set_cons_zero, List.set_cons_succ, i64_w, i32_w]
                          rfl
                        refine take_ (i := 0) (N := some 36) (v := ?_) (a' := ?_) #[true, true, true, true, true, false, false, false, false, false, false, false, false] rfl rfl (take_ofW HT_.out HW_.out (by kernel_rfl)) (fun _ _ _ h => h) (Or.inl ⟨by rfl, ?_⟩) hHeld ?_ ?_
                        rotate_left
                        · rintro w' ⟨s0, s1, s2, s3, s4, s5, s6⟩
                          go_simp
                          with_reducible rfl
                        rotate_left
                        · simp only [Act.put, List.setIfInBounds_toArray, List.set_cons_zero, List.set_cons_succ, i64_w, i32_w]
                          rfl
                        refine take_ (i := 5) (N := some 41) (v := ?_) (a' := ?_) #[true, true, true, true, true, true, false, false, false, false, false, false, false] rfl rfl (take_ofW HT_.out HW_.out (by kernel_rfl)) (fun _ _ _ h => h) (Or.inl ⟨by rfl, ?_⟩) hHeld ?_ ?_
                        rotate_left
                        · rintro w' ⟨s0, s1, s2, s3, s4, s5, s6⟩
                          go_simp
                          with_reducible rfl
                        rotate_left
                        · simp only [Act.put, List.setIfInBounds_toArray, List.set_cons_zero, List.set_cons_succ, i64_w, i32_w]
                          rfl
                        refine join_ (σ := Value × Value × Nat) 2 #[true, true, true, true, true, true, true, true, true, true, true, false, false] (fun s_ => [(42, .tuple #[.agg #[s_.1, .bool t470, .int .i64 t471, s_.2.1], .int .i64 t475]), (8, .pointer (some ⟨s_.2.2, 0, none⟩)), (35, .tuple #[.agg #[s_.1, .bool t470, .int .i64 t471, s_.2.1], .int .i64 t475]), (43, .agg #[s_.1, .bool t470, .int .i64 t471, s_.2.1]), (44, .int .i64 t475)]) (fun s_ w' => (w'.cell? ⟨gb464, 0, none⟩ = some (.slice Ao18 x465000_1.length co18) ∧ w'.cell? ⟨gb464, 1, none⟩ = some (.bool x465001_1) ∧ w'.cell? ⟨gb464, 2, none⟩ = some (.int .i64 x465002_1) ∧ w'.cell? ⟨gb464, 3, none⟩ = some (.slice Ao19 x465003_1.length co19) ∧ w'.cell? (ad465.add ((x7_1).toNat * 3)) = some (.int .i64 ((rd_T29 l0 x7_1).f0)) ∧ w'.cell? ⟨(ad465.add ((x7_1).toNat * 3)).block, (ad465.add ((x7_1).toNat * 3)).off + 1, none⟩ = some (.int .i64 ((rd_T29 l0 x7_1).f1)) ∧ w'.cell? ⟨(ad465.add ((x7_1).toNat * 3)).block, (ad465.add ((x7_1).toNat * 3)).off + 2, none⟩ = some (.slice A466_2 ((rd_T29 l0 x7_1).f2).length c466_2)) ∧ (Kd.V (Kd.int .u8) 5 w' w.heap.size (fun k_ => k_ ≠ gb464 ∧ k_ ≠ s_.2.2) s_.1 t467) ∧ (Kd.V (Kd.int .u8) 5 w' w.heap.size (fun k_ => k_ ≠ gb464 ∧ k_ ≠ s_.2.2) s_.2.1 t472) ∧ (Kd.V (Kd.int .u8) 5 w' w.heap.size (fun k_ => k_ ≠ gb464 ∧ k_ ≠ s_.2.2) (.slice Ao18 x465000_1.length co18) x465000_1) ∧ (Kd.V (Kd.int .u8) 5 w' w.heap.size (fun k_ => k_ ≠ gb464 ∧ k_ ≠ s_.2.2) (.slice Ao19 x465003_1.length co19) x465003_1) ∧ (w'.heap[gb464]? = some (.cells #[.slice Ao18 x465000_1.length co18, .bool x465001_1, .int .i64 x465002_1, .slice Ao19 x465003_1.length co19] 27 (0, 0))) ∧ (w'.heap[s_.2.2]? = some (.cells #[.slice none 0 0, .bool false, .int .i64 0, .slice none 0 0] 27 (0, 0))) ∧ (w.heap.size ≤ s_.2.2) ∧ (w.heap.size ≤ s_.2.2) ∧ (gb464 ≠ s_.2.2) ∧ (s_.2.2 ≠ gb464) ∧ (Below w.heap.size w w')) ?_ ?_
                        rotate_left
                        · intro hCont
                          refine two_ (i := 6) (j := 10) (Ni := some 42) (Nj := some 8) #[true, true, true, true, true, true, true, false, false, false, false, false, false] #[true, true, true, true, true, true, false, false, false, false, true, false, false] rfl rfl rfl rfl (two_of HT_.out (by kernel_rfl)) (by decide) (by decide) (fun K hK => ?_) (fun K hK => ?_)
                          · skip
                            refine gs Try.func13 (by kernel_rfl) rfl #[.agg #[.slice Ao18 x465000_1.length co18, .bool x465001_1, .int .i64 x465002_1, .slice Ao19 x465003_1.length co19], .slice A466_2 ((rd_T29 l0 x7_1).f2).length c466_2] (by rfl) rfl rfl ?_
                            with_reducible refine (wire_Arrive.calls (fun k_ => k_ ≠ gb464) _ _ x465000_1 x465001_1 x465002_1 (fun k_ => k_ ≠ gb464) _ _ x465003_1 _ _ ((rd_T29 l0 x7_1).f2) t467 t470 t471 t472 t475 _ ?side1 ?side2 ?side3 ?side4 A11.out).mono ?_
                            (case side1 => exact HO_465000.out)
                            (case side2 => exact HO_465003.out)
                            (case side3 => exact Kd.C_below HR466_2.out (bb HB))
                            (case side4 => exact HC466_2.out)
                            rintro e w21 ⟨v468, v473, rfl, ho0, ho1, hb⟩
                            refine ⟨_, rfl, ?_⟩
                            replace HO_465000 := vB HO_465000 hb
                            replace HO_465003 := vB HO_465003 hb
                            have HO469 := Aside0.mk (Kd.V_lower (Kd.V_mono (ok' := fun k_ => k_ ≠ gb464) ho0 (fun k_ hk_ => oe hk_ (fun h => h) (fun h => h) (Kd.freshB (kk BK464) k_))) (below_size (bb HB)))
                            have HO474 := Aside0.mk (Kd.V_lower (Kd.V_mono (ok' := fun k_ => k_ ≠ gb464) ho1 (fun k_ hk_ => oe hk_ (fun h => h) (fun h => h) (Kd.freshB (kk BK464) k_))) (below_size (bb HB)))
                            replace BK464 := kB BK464 hb
                            replace HB := hB HB hb
                            (try clear hb)
                            (try clear hb2)
                            (try clear hk)
                            (try clear hi)
                            (try clear ho0)
                            (try clear ho1)
                            refine hK.out _ _ ⟨cx BK464 0, cx BK464 1, cx BK464 2, cx BK464 3, ((HB.out.cell (World.block_lt_of_cell? w _ hw466_0)).trans hw466_0), ((HB.out.cell (World.block_lt_of_cell? w _ hw466_1)).trans hw466_1), ((HB.out.cell (World.block_lt_of_cell? w _ hw466_2)).trans hw466_2)⟩ (fun hHeld => ?_)
                            clear hK K
                            refine norm_ (a' := ?_) ?_ ?_
                            rotate_left
                            · show Act.put _ (some 42) _ = _
                              simp only [Act.put, List.setIfInBounds_toArray, List.set_cons_zero, List.set_cons_succ, i64_w, i32_w]
                              rfl
                            refine pure_ (i := 7) (N := some 35) (v := ?_) (a' := ?_) #[true, true, true, true, true, true, true, true, false, false, false, false, false] rfl rfl (any_of HT_.out (by kernel_rfl)) (fun _ _ _ h => h) (Or.inl ⟨by rfl, ?_⟩) ?_ ?_
                            rotate_left
                            · intro w'
                              go_simp
                              with_reducible rfl
                            rotate_left
                            · simp only [Act.put, List.setIfInBounds_toArray, List.set_cons_zero, List.set_cons_succ, i64_w, i32_w]
                              rfl
                            refine pure_ (i := 8) (N := some 43) (v := ?_) (a' := ?_) #[true, true, true, true, true, true, true, true, true, false, false, false, false] rfl rfl (any_of HT_.out (by kernel_rfl)) (fun _ _ _ h => h) (Or.inl ⟨by rfl, ?_⟩) ?_ ?_
                            rotate_left
                            · intro w'
                              go_simp
                              with_reducible rfl
                            rotate_left
                            · simp only [Act.put, List.setIfInBounds_toArray, List.set_cons_zero, List.set_cons_succ, i64_w, i32_w]
                              rfl
                            refine pure_ (i := 9) (N := some 44) (v := ?_) (a' := ?_) #[true, true, true, true, true, true, true, true, true, true, false, false, false] rfl rfl (any_of HT_.out (by kernel_rfl)) (fun _ _ _ h => h) (Or.inl ⟨by rfl, ?_⟩) ?_ ?_
                            rotate_left
                            · intro w'
                              go_simp
                              with_reducible rfl
                            rotate_left
                            · simp only [Act.put, List.setIfInBounds_toArray, List.set_cons_zero, List.set_cons_succ, i64_w, i32_w]
                              rfl
                            refine one_ (i := 10) (N := some 8) #[true, true, true, true, true, true, true, true, true, true, true, false, false] rfl rfl (one_of HT_.out (by kernel_rfl)) (by decide) (fun K hK => ?_)
                            refine box_step ?hg (N := 8) ?hd (cs := #[.slice none 0 0, .bool false, .int .i64 0, .slice none 0 0]) (t := 27) ?hr ?_; (case hd => rfl); (case hg => rfl); (case hr => first | (go_simp; done) | (go_simp; rfl))
                            intro gb476 hg w22 hbox hb
                            replace HO_465000 := vE HO_465000 hg hb
                            replace HO_465003 := vE HO_465003 hg hb
                            replace HO469 := vE HO469 hg hb
                            replace HO474 := vE HO474 hg hb
                            have BK476 := Aside0.mk hbox
                            have GW476 := gE HB hg
                            have GE476 := gE HB hg
                            replace HB := hB HB hb
                            have NB464_476 := nL BK464 hg
                            have NB476_464 := nG BK464 hg
                            replace BK464 := kB BK464 hb
                            clear hb hbox hg
                            refine hK.out _ _ ⟨cx BK464 0, cx BK464 1, cx BK464 2, cx BK464 3, ((HB.out.cell (World.block_lt_of_cell? w _ hw466_0)).trans hw466_0), ((HB.out.cell (World.block_lt_of_cell? w _ hw466_1)).trans hw466_1), ((HB.out.cell (World.block_lt_of_cell? w _ hw466_2)).trans hw466_2)⟩ (fun hHeld => ?_)
                            clear hK K
                            refine norm_ (a' := ?_) ?_ ?_
                            rotate_left
                            · show Act.put _ (some 8) _ = _
                              simp only [Act.put, List.setIfInBounds_toArray, List.set_cons_zero, List.set_cons_succ, i64_w, i32_w]
                              rfl
                            exact norm_ (by simp only [putAll, Act.put, List.setIfInBounds_toArray, List.set_cons_zero, List.set_cons_succ]) (hCont (v468, v473, gb476) _ ⟨hHeld, (vM HO469), (vM HO474), (vM HO_465000), (vM HO_465003), (kk BK464), (kk BK476), GW476.out, GE476.out, NB464_476.out, NB476_464.out, (bb HB)⟩)
                          · skip
                            refine box_step ?hg (N := 8) ?hd (cs := #[.slice none 0 0, .bool false, .int .i64 0, .slice none 0 0]) (t := 27) ?hr ?_; (case hd => rfl); (case hg => rfl); (case hr => first | (go_simp; done) | (go_simp; rfl))
                            intro gb476 hg w21 hbox hb
                            replace HO_465000 := vE HO_465000 hg hb
                            replace HO_465003 := vE HO_465003 hg hb
                            have BK476 := Aside0.mk hbox
                            have GW476 := gE HB hg
                            have GE476 := gE HB hg
                            replace HB := hB HB hb
                            have NB464_476 := nL BK464 hg
                            have NB476_464 := nG BK464 hg
                            replace BK464 := kB BK464 hb
                            clear hb hbox hg
                            refine hK.out _ _ ⟨cx BK464 0, cx BK464 1, cx BK464 2, cx BK464 3, ((HB.out.cell (World.block_lt_of_cell? w _ hw466_0)).trans hw466_0), ((HB.out.cell (World.block_lt_of_cell? w _ hw466_1)).trans hw466_1), ((HB.out.cell (World.block_lt_of_cell? w _ hw466_2)).trans hw466_2)⟩ (fun hHeld => ?_)
                            clear hK K
                            refine norm_ (a' := ?_) ?_ ?_
                            rotate_left
                            · show Act.put _ (some 8) _ = _
                              simp only [Act.put, List.setIfInBounds_toArray, List.set_cons_zero, List.set_cons_succ, i64_w, i32_w]
                              rfl
                            refine one_ (i := 6) (N := some 42) #[true, true, true, true, true, true, true, false, false, false, true, false, false] rfl rfl (one_of HT_.out (by kernel_rfl)) (by decide) (fun K hK => ?_)
                            refine gs Try.func13 (by kernel_rfl) rfl #[.agg #[.slice Ao18 x465000_1.length co18, .bool x465001_1, .int .i64 x465002_1, .slice Ao19 x465003_1.length co19], .slice A466_2 ((rd_T29 l0 x7_1).f2).length c466_2] (by rfl) rfl rfl ?_
                            with_reducible refine (wire_Arrive.calls (fun k_ => (k_ ≠ gb464 ∧ k_ ≠ gb476)) _ _ x465000_1 x465001_1 x465002_1 (fun k_ => (k_ ≠ gb464 ∧ k_ ≠ gb476)) _ _ x465003_1 _ _ ((rd_T29 l0 x7_1).f2) t467 t470 t471 t472 t475 _ ?side1 ?side2 ?side3 ?side4 A11.out).mono ?_
                            (case side1 => exact HO_465000.out)
                            (case side2 => exact HO_465003.out)
                            (case side3 => exact Kd.C_below HR466_2.out (bb HB))
                            (case side4 => exact HC466_2.out)
                            rintro e w22 ⟨v468, v473, rfl, ho0, ho1, hb⟩
                            refine ⟨_, rfl, ?_⟩
                            replace HO_465000 := vB HO_465000 hb
                            replace HO_465003 := vB HO_465003 hb
                            have HO469 := Aside0.mk (Kd.V_lower (Kd.V_mono (ok' := fun k_ => k_ ≠ gb464 ∧ k_ ≠ gb476) ho0 (fun k_ hk_ => ⟨oe hk_ (fun h => h.1) (fun h => h.1) (Kd.freshB (kk BK464) k_), oe hk_ (fun h => h.2) (fun h => h.2) (Kd.freshB (kk BK476) k_)⟩)) (below_size (bb HB)))
                            have HO474 := Aside0.mk (Kd.V_lower (Kd.V_mono (ok' := fun k_ => k_ ≠ gb464 ∧ k_ ≠ gb476) ho1 (fun k_ hk_ => ⟨oe hk_ (fun h => h.1) (fun h => h.1) (Kd.freshB (kk BK464) k_), oe hk_ (fun h => h.2) (fun h => h.2) (Kd.freshB (kk BK476) k_)⟩)) (below_size (bb HB)))
                            replace BK464 := kB BK464 hb
                            replace BK476 := kB BK476 hb
                            replace HB := hB HB hb
                            (try clear hb)
                            (try clear hb2)
                            (try clear hk)
                            (try clear hi)
                            (try clear ho0)
                            (try clear ho1)
                            refine hK.out _ _ ⟨cx BK464 0, cx BK464 1, cx BK464 2, cx BK464 3, ((HB.out.cell (World.block_lt_of_cell? w _ hw466_0)).trans hw466_0), ((HB.out.cell (World.block_lt_of_cell? w _ hw466_1)).trans hw466_1), ((HB.out.cell (World.block_lt_of_cell? w _ hw466_2)).trans hw466_2)⟩ (fun hHeld => ?_)
                            clear hK K
                            refine norm_ (a' := ?_) ?_ ?_
                            rotate_left
                            · show Act.put _ (some 42) _ = _
                              simp only [Act.put, List.setIfInBounds_toArray, List.set_cons_zero, List.set_cons_succ, i64_w, i32_w]
                              rfl
                            refine pure_ (i := 7) (N := some 35) (v := ?_) (a' := ?_) #[true, true, true, true, true, true, true, true, false, false, true, false, false] rfl rfl (any_of HT_.out (by kernel_rfl)) (fun _ _ _ h => h) (Or.inl ⟨by rfl, ?_⟩) ?_ ?_
                            rotate_left
                            · intro w'
                              go_simp
                              with_reducible rfl
                            rotate_left
                            · simp only [Act.put, List.setIfInBounds_toArray, List.set_cons_zero, List.set_cons_succ, i64_w, i32_w]
                              rfl
                            refine pure_ (i := 8) (N := some 43) (v := ?_) (a' := ?_) #[true, true, true, true, true, true, true, true, true, false, true, false, false] rfl rfl (any_of HT_.out (by kernel_rfl)) (fun _ _ _ h => h) (Or.inl ⟨by rfl, ?_⟩) ?_ ?_
                            rotate_left
                            · intro w'
                              go_simp
                              with_reducible rfl
                            rotate_left
                            · simp only [Act.put, List.setIfInBounds_toArray, List.set_cons_zero, List.set_cons_succ, i64_w, i32_w]
                              rfl
                            refine pure_ (i := 9) (N := some 44) (v := ?_) (a' := ?_) #[true, true, true, true, true, true, true, true, true, true, true, false, false] rfl rfl (any_of HT_.out (by kernel_rfl)) (fun _ _ _ h => h) (Or.inl ⟨by rfl, ?_⟩) ?_ ?_
                            rotate_left
                            · intro w'
                              go_simp
                              with_reducible rfl
                            rotate_left
                            · simp only [Act.put, List.setIfInBounds_toArray, List.set_cons_zero, List.set_cons_succ, i64_w, i32_w]
                              rfl
                            exact norm_ (by simp only [putAll, Act.put, List.setIfInBounds_toArray, List.set_cons_zero, List.set_cons_succ]) (hCont (v468, v473, gb476) _ ⟨hHeld, (vM HO469), (vM HO474), (vM HO_465000), (vM HO_465003), (kk BK464), (kk BK476), GW476.out, GE476.out, NB464_476.out, NB476_464.out, (bb HB)⟩)
                        clear HO_465000 HO_465003 BK464 HB
                        rintro ⟨v468, v473, gb476⟩ w23 hS_
                        dsimp only at hS_
                        obtain ⟨hHeld, h0_, h1_, h2_, h3_, h4_, h5_, h6_, h7_, h8_, h9_, h10_⟩ := hS_
                        have HO469 := Aside0.mk h0_
                        have HO474 := Aside0.mk h1_
                        have HO_465000 := Aside0.mk h2_
                        have HO_465003 := Aside0.mk h3_
                        have BK464 := Aside0.mk h4_
                        have BK476 := Aside0.mk h5_
                        have GW476 := Aside0.mk h6_
                        have GE476 := Aside0.mk h7_
                        have NB464_476 := Aside0.mk h8_
                        have NB476_464 := Aside0.mk h9_
                        have HB := Aside0.mk h10_
                        clear h0_ h1_ h2_ h3_ h4_ h5_ h6_ h7_ h8_ h9_ h10_
                        obtain ⟨Ao24, co24, eo24⟩ := Kd.V_slice HO469.out
                        (first | subst eo24 | (injection eo24 with f1_ f2_ f3_; have f4_ := f1_.symm; have f5_ := f3_.symm; clear f1_ f2_ f3_; subst f4_; subst f5_))
                        obtain ⟨Ao28, co28, eo28⟩ := Kd.V_slice HO474.out
                        (first | subst eo28 | (injection eo28 with f1_ f2_ f3_; have f4_ := f1_.symm; have f5_ := f3_.symm; clear f1_ f2_ f3_; subst f4_; subst f5_))
                        refine norm_ (a' := ?_) ?_ ?_
                        rotate_left
                        · simp only [putAll, Act.put, List.setIfInBounds_toArray, List.set_cons_zero, List.set_cons_succ]
                          rfl
                        refine one_ (i := 11) (N := none) #[true, true, true, true, true, true, true, true, true, true, true, true, false] rfl rfl (one_of HT_.out (by kernel_rfl)) (by decide) (fun K hK => ?_)
                        have hs25 : w23.cell? ⟨gb476, 0, none⟩ = some (.slice none 0 0) := cx BK476 0
                        have hfs25 := blk_frozen BK476.out 0
                        have hns25_0 := NB464_476.out
                        have hms25_0 := NB476_464.out
                        have hs26 : w23.cell? ⟨gb476, 1, none⟩ = some (.bool false) := cx BK476 1
                        have hfs26 := blk_frozen BK476.out 1
                        have hns26_0 := NB464_476.out
                        have hms26_0 := NB476_464.out
                        have hs27 : w23.cell? ⟨gb476, 2, none⟩ = some (.int .i64 0) := cx BK476 2
                        have hfs27 := blk_frozen BK476.out 2
                        have hns27_0 := NB464_476.out
                        have hms27_0 := NB476_464.out
                        have hs29 : w23.cell? ⟨gb476, 3, none⟩ = some (.slice none 0 0) := cx BK476 3
                        have hfs29 := blk_frozen BK476.out 3
                        have hns29_0 := NB464_476.out
                        have hms29_0 := NB476_464.out
                        refine skip_ (w1 := ?_) (by rfl) rfl ?_ ?_
                        rotate_left
                        · go_simp
                          rfl
                        refine hK.out _ _ ⟨((cell_far (p := ⟨gb476, _, none⟩) NB464_476.out _).trans (((cell_far (p := ⟨gb476, _, none⟩) NB464_476.out _).trans (((cell_far (p := ⟨gb476, _, none⟩) NB464_476.out _).trans (((cell_far (p := ⟨gb476, _, none⟩) NB464_476.out _).trans (hHeld.1)))))))), ((cell_far (p := ⟨gb476, _, none⟩) NB464_476.out _).trans (((cell_far (p := ⟨gb476, _, none⟩) NB464_476.out _).trans (((cell_far (p := ⟨gb476, _, none⟩) NB464_476.out _).trans (((cell_far (p := ⟨gb476, _, none⟩) NB464_476.out _).trans (hHeld.2.1)))))))), ((cell_far (p := ⟨gb476, _, none⟩) NB464_476.out _).trans (((cell_far (p := ⟨gb476, _, none⟩) NB464_476.out _).trans (((cell_far (p := ⟨gb476, _, none⟩) NB464_476.out _).trans (((cell_far (p := ⟨gb476, _, none⟩) NB464_476.out _).trans (hHeld.2.2.1)))))))), ((cell_far (p := ⟨gb476, _, none⟩) NB464_476.out _).trans (((cell_far (p := ⟨gb476, _, none⟩) NB464_476.out _).trans (((cell_far (p := ⟨gb476, _, none⟩) NB464_476.out _).trans (((cell_far (p := ⟨gb476, _, none⟩) NB464_476.out _).trans (hHeld.2.2.2.1)))))))), ((cell_far (p := ⟨gb476, _, none⟩) (by first | exact Nat.ne_of_lt (Nat.lt_of_lt_of_le (by have := World.block_lt_of_cell? _ _ hw466_0; first | rwa [add_block] at this | exact this) GW476.out) | (rw [add_block]; exact Nat.ne_of_lt (Nat.lt_of_lt_of_le (by have := World.block_lt_of_cell? _ _ hw466_0; first | rwa [add_block] at this | exact this) GW476.out)) | (show (Addr.add _ _).block ≠ _; rw [add_block]; exact Nat.ne_of_lt (Nat.lt_of_lt_of_le (by have := World.block_lt_of_cell? _ _ hw466_0; first | rwa [add_block] at this | exact this) GW476.out)) | (dsimp only; exact Nat.ne_of_lt (Nat.lt_of_lt_of_le (by have := World.block_lt_of_cell? _ _ hw466_0; first | rwa [add_block] at this | exact this) GW476.out))) _).trans (((cell_far (p := ⟨gb476, _, none⟩) (by first | exact Nat.ne_of_lt (Nat.lt_of_lt_of_le (by have := World.block_lt_of_cell? _ _ hw466_0; first | rwa [add_block] at this | exact this) GW476.out) | (rw [add_block]; exact Nat.ne_of_lt (Nat.lt_of_lt_of_le (by have := World.block_lt_of_cell? _ _ hw466_0; first | rwa [add_block] at this | exact this) GW476.out)) | (show (Addr.add _ _).block ≠ _; rw [add_block]; exact Nat.ne_of_lt (Nat.lt_of_lt_of_le (by have := World.block_lt_of_cell? _ _ hw466_0; first | rwa [add_block] at this | exact this) GW476.out)) | (dsimp only; exact Nat.ne_of_lt (Nat.lt_of_lt_of_le (by have := World.block_lt_of_cell? _ _ hw466_0; first | rwa [add_block] at this | exact this) GW476.out))) _).trans (((cell_far (p := ⟨gb476, _, none⟩) (by first | exact Nat.ne_of_lt (Nat.lt_of_lt_of_le (by have := World.block_lt_of_cell? _ _ hw466_0; first | rwa [add_block] at this | exact this) GW476.out) | (rw [add_block]; exact Nat.ne_of_lt (Nat.lt_of_lt_of_le (by have := World.block_lt_of_cell? _ _ hw466_0; first | rwa [add_block] at this | exact this) GW476.out)) | (show (Addr.add _ _).block ≠ _; rw [add_block]; exact Nat.ne_of_lt (Nat.lt_of_lt_of_le (by have := World.block_lt_of_cell? _ _ hw466_0; first | rwa [add_block] at this | exact this) GW476.out)) | (dsimp only; exact Nat.ne_of_lt (Nat.lt_of_lt_of_le (by have := World.block_lt_of_cell? _ _ hw466_0; first | rwa [add_block] at this | exact this) GW476.out))) _).trans (((cell_far (p := ⟨gb476, _, none⟩) (by first | exact Nat.ne_of_lt (Nat.lt_of_lt_of_le (by have := World.block_lt_of_cell? _ _ hw466_0; first | rwa [add_block] at this | exact this) GW476.out) | (rw [add_block]; exact Nat.ne_of_lt (Nat.lt_of_lt_of_le (by have := World.block_lt_of_cell? _ _ hw466_0; first | rwa [add_block] at this | exact this) GW476.out)) | (show (Addr.add _ _).block ≠ _; rw [add_block]; exact Nat.ne_of_lt (Nat.lt_of_lt_of_le (by have := World.block_lt_of_cell? _ _ hw466_0; first | rwa [add_block] at this | exact this) GW476.out)) | (dsimp only; exact Nat.ne_of_lt (Nat.lt_of_lt_of_le (by have := World.block_lt_of_cell? _ _ hw466_0; first | rwa [add_block] at this | exact this) GW476.out))) _).trans (hHeld.2.2.2.2.1)))))))), ((cell_far (p := ⟨gb476, _, none⟩) (by first | exact Nat.ne_of_lt (Nat.lt_of_lt_of_le (by have := World.block_lt_of_cell? _ _ hw466_1; first | rwa [add_block] at this | exact this) GW476.out) | (rw [add_block]; exact Nat.ne_of_lt (Nat.lt_of_lt_of_le (by have := World.block_lt_of_cell? _ _ hw466_1; first | rwa [add_block] at this | exact this) GW476.out)) | (show (Addr.add _ _).block ≠ _; rw [add_block]; exact Nat.ne_of_lt (Nat.lt_of_lt_of_le (by have := World.block_lt_of_cell? _ _ hw466_1; first | rwa [add_block] at this | exact this) GW476.out)) | (dsimp only; exact Nat.ne_of_lt (Nat.lt_of_lt_of_le (by have := World.block_lt_of_cell? _ _ hw466_1; first | rwa [add_block] at this | exact this) GW476.out))) _).trans (((cell_far (p := ⟨gb476, _, none⟩) (by first | exact Nat.ne_of_lt (Nat.lt_of_lt_of_le (by have := World.block_lt_of_cell? _ _ hw466_1; first | rwa [add_block] at this | exact this) GW476.out) | (rw [add_block]; exact Nat.ne_of_lt (Nat.lt_of_lt_of_le (by have := World.block_lt_of_cell? _ _ hw466_1; first | rwa [add_block] at this | exact this) GW476.out)) | (show (Addr.add _ _).block ≠ _; rw [add_block]; exact Nat.ne_of_lt (Nat.lt_of_lt_of_le (by have := World.block_lt_of_cell? _ _ hw466_1; first | rwa [add_block] at this | exact this) GW476.out)) | (dsimp only; exact Nat.ne_of_lt (Nat.lt_of_lt_of_le (by have := World.block_lt_of_cell? _ _ hw466_1; first | rwa [add_block] at this | exact this) GW476.out))) _).trans (((cell_far (p := ⟨gb476, _, none⟩) (by first | exact Nat.ne_of_lt (Nat.lt_of_lt_of_le (by have := World.block_lt_of_cell? _ _ hw466_1; first | rwa [add_block] at this | exact this) GW476.out) | (rw [add_block]; exact Nat.ne_of_lt (Nat.lt_of_lt_of_le (by have := World.block_lt_of_cell? _ _ hw466_1; first | rwa [add_block] at this | exact this) GW476.out)) | (show (Addr.add _ _).block ≠ _; rw [add_block]; exact Nat.ne_of_lt (Nat.lt_of_lt_of_le (by have := World.block_lt_of_cell? _ _ hw466_1; first | rwa [add_block] at this | exact this) GW476.out)) | (dsimp only; exact Nat.ne_of_lt (Nat.lt_of_lt_of_le (by have := World.block_lt_of_cell? _ _ hw466_1; first | rwa [add_block] at this | exact this) GW476.out))) _).trans (((cell_far (p := ⟨gb476, _, none⟩) (by first | exact Nat.ne_of_lt (Nat.lt_of_lt_of_le (by have := World.block_lt_of_cell? _ _ hw466_1; first | rwa [add_block] at this | exact this) GW476.out) | (rw [add_block]; exact Nat.ne_of_lt (Nat.lt_of_lt_of_le (by have := World.block_lt_of_cell? _ _ hw466_1; first | rwa [add_block] at this | exact this) GW476.out)) | (show (Addr.add _ _).block ≠ _; rw [add_block]; exact Nat.ne_of_lt (Nat.lt_of_lt_of_le (by have := World.block_lt_of_cell? _ _ hw466_1; first | rwa [add_block] at this | exact this) GW476.out)) | (dsimp only; exact Nat.ne_of_lt (Nat.lt_of_lt_of_le (by have := World.block_lt_of_cell? _ _ hw466_1; first | rwa [add_block] at this | exact this) GW476.out))) _).trans (hHeld.2.2.2.2.2.1)))))))), ((cell_far (p := ⟨gb476, _, none⟩) (by first | exact Nat.ne_of_lt (Nat.lt_of_lt_of_le (by have := World.block_lt_of_cell? _ _ hw466_2; first | rwa [add_block] at this | exact this) GW476.out) | (rw [add_block]; exact Nat.ne_of_lt (Nat.lt_of_lt_of_le (by have := World.block_lt_of_cell? _ _ hw466_2; first | rwa [add_block] at this | exact this) GW476.out)) | (show (Addr.add _ _).block ≠ _; rw [add_block]; exact Nat.ne_of_lt (Nat.lt_of_lt_of_le (by have := World.block_lt_of_cell? _ _ hw466_2; first | rwa [add_block] at this | exact this) GW476.out)) | (dsimp only; exact Nat.ne_of_lt (Nat.lt_of_lt_of_le (by have := World.block_lt_of_cell? _ _ hw466_2; first | rwa [add_block] at this | exact this) GW476.out))) _).trans (((cell_far (p := ⟨gb476, _, none⟩) (by first | exact Nat.ne_of_lt (Nat.lt_of_lt_of_le (by have := World.block_lt_of_cell? _ _ hw466_2; first | rwa [add_block] at this | exact this) GW476.out) | (rw [add_block]; exact Nat.ne_of_lt (Nat.lt_of_lt_of_le (by have := World.block_lt_of_cell? _ _ hw466_2; first | rwa [add_block] at this | exact this) GW476.out)) | (show (Addr.add _ _).block ≠ _; rw [add_block]; exact Nat.ne_of_lt (Nat.lt_of_lt_of_le (by have := World.block_lt_of_cell? _ _ hw466_2; first | rwa [add_block] at this | exact this) GW476.out)) | (dsimp only; exact Nat.ne_of_lt (Nat.lt_of_lt_of_le (by have := World.block_lt_of_cell? _ _ hw466_2; first | rwa [add_block] at this | exact this) GW476.out))) _).trans (((cell_far (p := ⟨gb476, _, none⟩) (by first | exact Nat.ne_of_lt (Nat.lt_of_lt_of_le (by have := World.block_lt_of_cell? _ _ hw466_2; first | rwa [add_block] at this | exact this) GW476.out) | (rw [add_block]; exact Nat.ne_of_lt (Nat.lt_of_lt_of_le (by have := World.block_lt_of_cell? _ _ hw466_2; first | rwa [add_block] at this | exact this) GW476.out)) | (show (Addr.add _ _).block ≠ _; rw [add_block]; exact Nat.ne_of_lt (Nat.lt_of_lt_of_le (by have := World.block_lt_of_cell? _ _ hw466_2; first | rwa [add_block] at this | exact this) GW476.out)) | (dsimp only; exact Nat.ne_of_lt (Nat.lt_of_lt_of_le (by have := World.block_lt_of_cell? _ _ hw466_2; first | rwa [add_block] at this | exact this) GW476.out))) _).trans (((cell_far (p := ⟨gb476, _, none⟩) (by first | exact Nat.ne_of_lt (Nat.lt_of_lt_of_le (by have := World.block_lt_of_cell? _ _ hw466_2; first | rwa [add_block] at this | exact this) GW476.out) | (rw [add_block]; exact Nat.ne_of_lt (Nat.lt_of_lt_of_le (by have := World.block_lt_of_cell? _ _ hw466_2; first | rwa [add_block] at this | exact this) GW476.out)) | (show (Addr.add _ _).block ≠ _; rw [add_block]; exact Nat.ne_of_lt (Nat.lt_of_lt_of_le (by have := World.block_lt_of_cell? _ _ hw466_2; first | rwa [add_block] at this | exact this) GW476.out)) | (dsimp only; exact Nat.ne_of_lt (Nat.lt_of_lt_of_le (by have := World.block_lt_of_cell? _ _ hw466_2; first | rwa [add_block] at this | exact this) GW476.out))) _).trans (hHeld.2.2.2.2.2.2))))))))⟩ (fun hHeld => ?_)
                        clear hK K
                        refine pure_ (i := 12) (N := some 9) (v := ?_) (a' := ?_) #[true, true, true, true, true, true, true, true, true, true, true, true, true] rfl rfl (any_of HT_.out (by kernel_rfl)) (fun _ _ _ h => h) (Or.inl ⟨by rfl, ?_⟩) ?_ ?_
                        rotate_left
                        · intro w'
                          go_simp
                          with_reducible rfl
                        rotate_left
                        · simp only [Act.put, List.setIfInBounds_toArray, List.set_cons_zero, List.set_cons_succ, i64_w, i32_w]
                          rfl
                        refine done_ (done_of HT_.out (by kernel_rfl)) ?_
                        obtain ⟨w30, hw⟩ : ∃ w_, w_ = ((((w23.setCell ⟨gb476, 0, none⟩ (.slice Ao24 t467.length co24)).setCell ⟨gb476, 1, none⟩ (.bool t470)).setCell ⟨gb476, 2, none⟩ (.int .i64 t471)).setCell ⟨gb476, 3, none⟩ (.slice Ao28 t472.length co28)) := ⟨_, rfl⟩
                        rw [← hw]
                        replace HO_465000 := vS (fun k_ => k_ ≠ gb464 ∧ k_ ≠ gb476) HO_465000 hw
                        replace HO_465003 := vS (fun k_ => k_ ≠ gb464 ∧ k_ ≠ gb476) HO_465003 hw
                        replace HO469 := vS (fun k_ => k_ ≠ gb464 ∧ k_ ≠ gb476) HO469 hw
                        replace HO474 := vS (fun k_ => k_ ≠ gb464 ∧ k_ ≠ gb476) HO474 hw
                        replace BK464 := kS BK464 hw
                        replace BK476 := kP4 BK476 hw
                        replace HB := hS HB hw
                        clear hw
                        have hnb31 := NB476_464.out
                        have hnc31 := NB464_476.out
                        obtain ⟨hcz32_0, hcz32_1, hcz32_2, hcz32_3, hfz32_0, hfz32_1, hfz32_2, hfz32_3⟩ := bc4 BK476
                        obtain ⟨hcz33_0, hcz33_1, hcz33_2, hcz33_3, hfz33_0, hfz33_1, hfz33_2, hfz33_3⟩ := bc4 BK464
                        try go_wp2_with (first | ((with_reducible refine gate_store (t := 27) (p := 4) rfl ?_); refine store_event (t := 27) (p := 4) (v := ?vo_w34) (w1 := ((((w30.setCell ⟨gb464, 0, none⟩ (.slice Ao24 t467.length co24)).setCell ⟨gb464, 1, none⟩ (.bool t470)).setCell ⟨gb464, 2, none⟩ (.int .i64 t471)).setCell ⟨gb464, 3, none⟩ (.slice Ao28 t472.length co28))) ?hg ?ho ?hn ?hr ?_; (case ho => rfl); (case hg => rfl); (case hn => rfl); (case hr => first | (go_simp; done) | (go_simp; rfl)); intro w34 hw; replace HO_465000 := vS (fun k_ => k_ ≠ gb464 ∧ k_ ≠ gb476) HO_465000 hw; replace HO_465003 := vS (fun k_ => k_ ≠ gb464 ∧ k_ ≠ gb476) HO_465003 hw; replace HO469 := vS (fun k_ => k_ ≠ gb464 ∧ k_ ≠ gb476) HO469 hw; replace HO474 := vS (fun k_ => k_ ≠ gb464 ∧ k_ ≠ gb476) HO474 hw; replace BK464 := kP4 BK464 hw; replace BK476 := kS BK476 hw; replace HB : Aside0 (Below w.heap.size w w34) := ⟨(by rw [hw]; exact (bb HB))⟩; clear hw; have p477 : 0 ≤ (x7_1 : Int) := of_decide_eq_true (by first | (with_reducible assumption) | assumption); have q477 : x7_1 < (l0.length : Int) := of_decide_eq_true (by first | (with_reducible assumption) | assumption); obtain ⟨ad477, A477_2, c477_2, e477, hx477_0, hx477_1, hx477_2, hl477_2, hi477_2⟩ := at_T29 HR0.out x7_1 p477 q477; obtain rfl : ad465 = ad477 := (by injection e477); replace hx477_0 := (HB.out.cell (World.block_lt_of_cell? w _ hx477_0)).trans hx477_0; replace hx477_1 := (HB.out.cell (World.block_lt_of_cell? w _ hx477_1)).trans hx477_1; replace hx477_2 := (HB.out.cell (World.block_lt_of_cell? w _ hx477_2)).trans hx477_2; have HR477_2 := Aside0.mk hi477_2; have HC477_2 := Aside0.mk hl477_2; clear hi477_2 hl477_2; replace p477 := eq_true p477; replace q477 := eq_true q477; have hcv35 := Kd.C_string (P := Try.prog) (A := A477_2) (c := c477_2) Try.underlying25 Try.underlying5 Try.underlying9 (Kd.C_below HR477_2.out HB.out); obtain ⟨hcz36_0, hcz36_1, hcz36_2, hcz36_3, hfz36_0, hfz36_1, hfz36_2, hfz36_3⟩ := bc4 BK464; have hcv37 := v_string (P := Try.prog) Try.underlying25 Try.underlying5 Try.underlying9 HO469.out) | (go_at_call 15; (with_reducible refine (wire_Sane.calls _ _ t467 t470 t471 _ _ t472 true _ ?side1 ?side2 ?side3 ?side4 A16.out).mono ?_); (case side1 => exact (Kd.V_reads' (vv HO469)).2.2); (case side2 => exact (Kd.V_reads' HO469.out).2.1); (case side3 => exact (Kd.V_reads' (vv HO474)).2.2); (case side4 => exact (Kd.V_reads' HO474.out).2.1); rintro e w38 ⟨rfl, hb⟩; replace HO_465000 := vB HO_465000 hb; replace HO_465003 := vB HO_465003 hb; replace HO469 := vB HO469 hb; replace HO474 := vB HO474 hb; replace BK464 := kB BK464 hb; replace BK476 := kB BK476 hb; replace HB := hB HB hb; (try clear hb); (try clear hb2); (try clear hk); (try clear hi)))
                        go_roundg k1
                        case measure => have := HK1.out; omega
                        case rel => exact ⟨(x5_1 ++ (strOfNums ((rd_T29 l0 x7_1).f2))), (x6_1), (wrap64 (x7_1 + 1)), (t467), (t470), (t471), (t472), (.slice Ao24 t467.length co24), (.slice Ao28 t472.length co28), (by first | rfl | (simp; done) | (simp [*]; done)), (by first | rfl | (simp; done) | (simp [*]; done)), (by first | rfl | (simp; done) | (simp [*]; done)), H', ⟨by have := HK1.out; omega⟩, ⟨vM HO469⟩, ⟨vM HO474⟩, ⟨kk BK464⟩, ⟨bb HB⟩⟩
                      · replace c17 := Bool.eq_false_iff.mpr c17
                        subst c17
                        rw [if_neg nf] at H
                        cases H; exact absurd HRT.out (by decide)
                    · rw [if_neg c15] at H
                      cases H; exact absurd HRT.out (by decide)
                  · rw [if_neg c14] at H
                    exact absurd H (by simp)
                · rw [if_neg c13] at H
                  exact absurd H (by simp)
              · rw [if_neg c12] at H
                have c12b0 : (t475 == 0) = false := beq_eq_false_iff_ne.mpr c12
                have c12b1 : (t475 != 0) = true := bne_iff_ne.mpr c12
                by_cases c39 : x6_1.size + (strOfNums t467).size ≤ 9223372036854775807
                · rw [if_pos c39] at H
                  have c39b0 := eq_true c39
                  have c39b1 : decide (x6_1.size + (strOfNums t467).size ≤ 9223372036854775807) = true := decide_eq_true c39
                  try have c39b2 : (9223372036854775807 < x6_1.size + (strOfNums t467).size) = False := eq_false (Nat.not_lt.2 c39)
                  by_cases c40 : (x6_1 ++ (strOfNums t467)).toList = x5_1.toList
                  · rw [if_pos c40] at H
                    have c40b0 : ((x6_1 ++ (strOfNums t467)).toList == x5_1.toList) = true := beq_iff_eq.mpr c40
                    have c40b1 : ((x6_1 ++ (strOfNums t467)).toList != x5_1.toList) = false := bne_eq_false_iff_eq.mpr c40
                    clear c40
                    obtain ⟨t479, A41, H⟩ := ob H
                    by_cases c42 : t479 = true
                    · subst c42
                      rw [if_pos rfl] at H
                      have H' := Aside0.mk H
                      clear H
                      have p465 : 0 ≤ (x7_1 : Int) := of_decide_eq_true (by first | (with_reducible assumption) | assumption)
                      have q465 : x7_1 < (l0.length : Int) := of_decide_eq_true (by first | (with_reducible assumption) | assumption)
                      obtain ⟨ad465, A465_2, c465_2, e465, hx465_0, hx465_1, hx465_2, hl465_2, hi465_2⟩ := at_T29 HR0.out x7_1 p465 q465
                      cases e465
                      replace hx465_0 := (HB.out.cell (World.block_lt_of_cell? w _ hx465_0)).trans hx465_0
                      replace hx465_1 := (HB.out.cell (World.block_lt_of_cell? w _ hx465_1)).trans hx465_1
                      replace hx465_2 := (HB.out.cell (World.block_lt_of_cell? w _ hx465_2)).trans hx465_2
                      have HR465_2 := Aside0.mk hi465_2
                      have HC465_2 := Aside0.mk hl465_2
                      clear hi465_2 hl465_2
                      replace p465 := eq_true p465
                      replace q465 := eq_true q465
                      obtain ⟨Ao43, co43, eo43⟩ := Kd.V_slice HO_465000.out
                      subst eo43
                      obtain ⟨Ao44, co44, eo44⟩ := Kd.V_slice HO_465003.out
                      subst eo44
                      try go_wp2
                      replace HO_465000 := Aside0.mk (Kd.V_drew HO_465000.out)
                      replace HO_465003 := Aside0.mk (Kd.V_drew HO_465003.out)
                      replace BK464 := Aside0.mk (blk_drew BK464.out)
                      replace HB := Aside0.mk (below_drew1 HB.out)
                      have p466 : 0 ≤ (x7_1 : Int) := of_decide_eq_true (by first | (with_reducible assumption) | assumption)
                      have q466 : x7_1 < (l0.length : Int) := of_decide_eq_true (by first | (with_reducible assumption) | assumption)
                      obtain ⟨ad466, A466_2, c466_2, e466, hx466_0, hx466_1, hx466_2, hl466_2, hi466_2⟩ := at_T29 HR0.out x7_1 p466 q466
                      have hw466_2 := hx466_2
                      have hw466_1 := hx466_1
                      have hw466_0 := hx466_0
                      obtain rfl : ad465 = ad466 := (by injection e466)
                      replace hx466_0 := (HB.out.cell (World.block_lt_of_cell? w _ hx466_0)).trans hx466_0
                      replace hx466_1 := (HB.out.cell (World.block_lt_of_cell? w _ hx466_1)).trans hx466_1
                      replace hx466_2 := (HB.out.cell (World.block_lt_of_cell? w _ hx466_2)).trans hx466_2
                      have HR466_2 := Aside0.mk hi466_2
                      have HC466_2 := Aside0.mk hl466_2
                      clear hi466_2 hl466_2
                      replace p466 := eq_true p466
                      replace q466 := eq_true q466
                      refine start_ (n := 13) (S := fun w' => w'.cell? ⟨gb464, 0, none⟩ = some (.slice Ao43 x465000_1.length co43) ∧ w'.cell? ⟨gb464, 1, none⟩ = some (.bool x465001_1) ∧ w'.cell? ⟨gb464, 2, none⟩ = some (.int .i64 x465002_1) ∧ w'.cell? ⟨gb464, 3, none⟩ = some (.slice Ao44 x465003_1.length co44) ∧ w'.cell? (ad465.add ((x7_1).toNat * 3)) = some (.int .i64 ((rd_T29 l0 x7_1).f0)) ∧ w'.cell? ⟨(ad465.add ((x7_1).toNat * 3)).block, (ad465.add ((x7_1).toNat * 3)).off + 1, none⟩ = some (.int .i64 ((rd_T29 l0 x7_1).f1)) ∧ w'.cell? ⟨(ad465.add ((x7_1).toNat * 3)).block, (ad465.add ((x7_1).toNat * 3)).off + 2, none⟩ = some (.slice A466_2 ((rd_T29 l0 x7_1).f2).length c466_2)) (ds := []) #[false, false, false, false, false, false, false, false, false, false, false, false, false] (by kernel_rfl) rfl rfl ⟨cx BK464 0, cx BK464 1, cx BK464 2, cx BK464 3, ((HB.out.cell (World.block_lt_of_cell? w _ hw466_0)).trans hw466_0), ((HB.out.cell (World.block_lt_of_cell? w _ hw466_1)).trans hw466_1), ((HB.out.cell (World.block_lt_of_cell? w _ hw466_2)).trans hw466_2)⟩ (fun hHeld => ?_); refine with_tabW pentroughlaw19_WireOrder.tab12 pentroughlaw19_WireOrder.bits12 (fun HT_ HW_ => ?_)
                      generalize wr.drew = w45 at HO_465000 HO_465003 BK464 HB HR466_2 hx466_0 hx466_1 hx466_2 hHeld ⊢
                      refine pure_ (i := 1) (N := some 37) (v := ?_) (a' := ?_) #[false, true, false, false, false, false, false, false, false, false, false, false, false] rfl rfl (any_of HT_.out (by kernel_rfl)) (fun _ _ _ h => h) (Or.inl ⟨by rfl, ?_⟩) ?_ ?_
                      rotate_left
                      · intro w'
                        go_simp
                        with_reducible rfl
                      rotate_left
                      · simp only [Act.put, List.setIfInBounds_toArray, List.set_cons_zero, List.set_cons_succ, i64_w, i32_w]
                        rfl
                      refine pure_ (i := 2) (N := some 38) (v := ?_) (a' := ?_) #[false, true, true, false, false, false, false, false, false, false, false, false, false] rfl rfl (any_of HT_.out (by kernel_rfl)) (fun _ _ _ h => h) (Or.inl ⟨by rfl, ?_⟩) ?_ ?_
                      rotate_left
                      · intro w'
                        go_simp
                        with_reducible rfl
                      rotate_left
                      · simp only [Act.put, List.setIfInBounds_toArray, List.set_cons_zero, List.set_cons_succ, i64_w, i32_w]
                        rfl
                      refine pure_ (i := 3) (N := some 39) (v := ?_) (a' := ?_) #[false, true, true, true, false, false, false, false, false, false, false, false, false] rfl rfl (any_of HT_.out (by kernel_rfl)) (fun _ _ _ h => h) (Or.inl ⟨by rfl, ?_⟩) ?_ ?_
                      rotate_left
                      · intro w'
                        go_simp
                        with_reducible rfl
                      rotate_left
                      · simp only [Act.put, List.setIfInBounds_toArray, List.set_cons_zero, List.set_cons_succ, i64_w, i32_w]
                        rfl
                      refine pure_ (i := 4) (N := some 40) (v := ?_) (a' := ?_) #[false, true, true, true, true, false, false, false, false, false, false, false, false] rfl rfl (any_of HT_.out (by kernel_rfl)) (fun _ _ _ h => h) (Or.inl ⟨by rfl, ?_⟩) ?_ ?_
                      rotate_left
                      · intro w'
                        go_simp
                        with_reducible rfl
                      rotate_left
                      · simp only [Act.put, List.setIfInBounds_toArray, List.set_cons_zero, List.set_cons_succ, i64_w, i32_w]
                        rfl
                      refine take_ (i := 0) (N := some 36) (v := ?_) (a' := ?_) #[true, true, true, true, true, false, false, false, false, false, false, false, false] rfl rfl (take_ofW HT_.out HW_.out (by kernel_rfl)) (fun _ _ _ h => h) (Or.inl ⟨by rfl, ?_⟩) hHeld ?_ ?_
                      rotate_left
                      · rintro w' ⟨s0, s1, s2, s3, s4, s5, s6⟩
                        go_simp
                        with_reducible rfl
                      rotate_left
                      · simp only [Act.put, List.setIfInBounds_toArray, List.set_cons_zero, List.set_cons_succ, i64_w, i32_w]
                        rfl
                      refine take_ (i := 5) (N := some 41) (v := ?_) (a' := ?_) #[true, true, true, true, true, true, false, false, false, false, false, false, false] rfl rfl (take_ofW HT_.out HW_.out (by kernel_rfl)) (fun _ _ _ h => h) (Or.inl ⟨by rfl, ?_⟩) hHeld ?_ ?_
                      rotate_left
                      · rintro w' ⟨s0, s1, s2, s3, s4, s5, s6⟩
                        go_simp
                        with_reducible rfl
                      rotate_left
                      · simp only [Act.put, List.setIfInBounds_toArray, List.set_cons_zero, List.set_cons_succ, i64_w, i32_w]
                        rfl
                      refine join_ (σ := Value × Value × Nat) 2 #[true, true, true, true, true, true, true, true, true, true, true, false, false] (fun s_ => [(42, .tuple #[.agg #[s_.1, .bool t470, .int .i64 t471, s_.2.1], .int .i64 t475]), (8, .pointer (some ⟨s_.2.2, 0, none⟩)), (35, .tuple #[.agg #[s_.1, .bool t470, .int .i64 t471, s_.2.1], .int .i64 t475]), (43, .agg #[s_.1, .bool t470, .int .i64 t471, s_.2.1]), (44, .int .i64 t475)]) (fun s_ w' => (w'.cell? ⟨gb464, 0, none⟩ = some (.slice Ao43 x465000_1.length co43) ∧ w'.cell? ⟨gb464, 1, none⟩ = some (.bool x465001_1) ∧ w'.cell? ⟨gb464, 2, none⟩ = some (.int .i64 x465002_1) ∧ w'.cell? ⟨gb464, 3, none⟩ = some (.slice Ao44 x465003_1.length co44) ∧ w'.cell? (ad465.add ((x7_1).toNat * 3)) = some (.int .i64 ((rd_T29 l0 x7_1).f0)) ∧ w'.cell? ⟨(ad465.add ((x7_1).toNat * 3)).block, (ad465.add ((x7_1).toNat * 3)).off + 1, none⟩ = some (.int .i64 ((rd_T29 l0 x7_1).f1)) ∧ w'.cell? ⟨(ad465.add ((x7_1).toNat * 3)).block, (ad465.add ((x7_1).toNat * 3)).off + 2, none⟩ = some (.slice A466_2 ((rd_T29 l0 x7_1).f2).length c466_2)) ∧ (Kd.V (Kd.int .u8) 5 w' w.heap.size (fun k_ => k_ ≠ gb464 ∧ k_ ≠ s_.2.2) s_.1 t467) ∧ (Kd.V (Kd.int .u8) 5 w' w.heap.size (fun k_ => k_ ≠ gb464 ∧ k_ ≠ s_.2.2) s_.2.1 t472) ∧ (Kd.V (Kd.int .u8) 5 w' w.heap.size (fun k_ => k_ ≠ gb464 ∧ k_ ≠ s_.2.2) (.slice Ao43 x465000_1.length co43) x465000_1) ∧ (Kd.V (Kd.int .u8) 5 w' w.heap.size (fun k_ => k_ ≠ gb464 ∧ k_ ≠ s_.2.2) (.slice Ao44 x465003_1.length co44) x465003_1) ∧ (w'.heap[gb464]? = some (.cells #[.slice Ao43 x465000_1.length co43, .bool x465001_1, .int .i64 x465002_1, .slice Ao44 x465003_1.length co44] 27 (0, 0))) ∧ (w'.heap[s_.2.2]? = some (.cells #[.slice none 0 0, .bool false, .int .i64 0, .slice none 0 0] 27 (0, 0))) ∧ (w.heap.size ≤ s_.2.2) ∧ (w.heap.size ≤ s_.2.2) ∧ (gb464 ≠ s_.2.2) ∧ (s_.2.2 ≠ gb464) ∧ (Below w.heap.size w w')) ?_ ?_
                      rotate_left
                      · intro hCont
                        refine two_ (i := 6) (j := 10) (Ni := some 42) (Nj := some 8) #[true, true, true, true, true, true, true, false, false, false, false, false, false] #[true, true, true, true, true, true, false, false, false, false, true, false, false] rfl rfl rfl rfl (two_of HT_.out (by kernel_rfl)) (by decide) (by decide) (fun K hK => ?_) (fun K hK => ?_)
                        · skip
                          refine gs Try.func13 (by kernel_rfl) rfl #[.agg #[.slice Ao43 x465000_1.length co43, .bool x465001_1, .int .i64 x465002_1, .slice Ao44 x465003_1.length co44], .slice A466_2 ((rd_T29 l0 x7_1).f2).length c466_2] (by rfl) rfl rfl ?_
                          with_reducible refine (wire_Arrive.calls (fun k_ => k_ ≠ gb464) _ _ x465000_1 x465001_1 x465002_1 (fun k_ => k_ ≠ gb464) _ _ x465003_1 _ _ ((rd_T29 l0 x7_1).f2) t467 t470 t471 t472 t475 _ ?side1 ?side2 ?side3 ?side4 A11.out).mono ?_
                          (case side1 => exact HO_465000.out)
                          (case side2 => exact HO_465003.out)
                          (case side3 => exact Kd.C_below HR466_2.out (bb HB))
                          (case side4 => exact HC466_2.out)
                          rintro e w46 ⟨v468, v473, rfl, ho0, ho1, hb⟩
                          refine ⟨_, rfl, ?_⟩
                          replace HO_465000 := vB HO_465000 hb
                          replace HO_465003 := vB HO_465003 hb
                          have HO469 := Aside0.mk (Kd.V_lower (Kd.V_mono (ok' := fun k_ => k_ ≠ gb464) ho0 (fun k_ hk_ => oe hk_ (fun h => h) (fun h => h) (Kd.freshB (kk BK464) k_))) (below_size (bb HB)))
                          have HO474 := Aside0.mk (Kd.V_lower (Kd.V_mono (ok' := fun k_ => k_ ≠ gb464) ho1 (fun k_ hk_ => oe hk_ (fun h => h) (fun h => h) (Kd.freshB (kk BK464) k_))) (below_size (bb HB)))
                          replace BK464 := kB BK464 hb
                          replace HB := hB HB hb
                          (try clear hb)
                          (try clear hb2)
                          (try clear hk)
                          (try clear hi)
                          (try clear ho0)
                          (try clear ho1)
                          refine hK.out _ _ ⟨cx BK464 0, cx BK464 1, cx BK464 2, cx BK464 3, ((HB.out.cell (World.block_lt_of_cell? w _ hw466_0)).trans hw466_0), ((HB.out.cell (World.block_lt_of_cell? w _ hw466_1)).trans hw466_1), ((HB.out.cell (World.block_lt_of_cell? w _ hw466_2)).trans hw466_2)⟩ (fun hHeld => ?_)
                          clear hK K
                          refine norm_ (a' := ?_) ?_ ?_
                          rotate_left
                          · show Act.put _ (some 42) _ = _
                            simp only [Act.put, List.setIfInBounds_toArray, List.set_cons_zero, List.set_cons_succ, i64_w, i32_w]
                            rfl
                          refine pure_ (i := 7) (N := some 35) (v := ?_) (a' := ?_) #[true, true, true, true, true, true, true, true, false, false, false, false, false] rfl rfl (any_of HT_.out (by kernel_rfl)) (fun _ _ _ h => h) (Or.inl ⟨by rfl, ?_⟩) ?_ ?_
                          rotate_left
                          · intro w'
                            go_simp
                            with_reducible rfl
                          rotate_left
                          · simp only [Act.put, List.setIfInBounds_toArray, List.set_cons_zero, List.set_cons_succ, i64_w, i32_w]
                            rfl
                          refine pure_ (i := 8) (N := some 43) (v := ?_) (a' := ?_) #[true, true, true, true, true, true, true, true, true, false, false, false, false] rfl rfl (any_of HT_.out (by kernel_rfl)) (fun _ _ _ h => h) (Or.inl ⟨by rfl, ?_⟩) ?_ ?_
                          rotate_left
                          · intro w'
                            go_simp
                            with_reducible rfl
                          rotate_left
                          · simp only [Act.put, List.setIfInBounds_toArray, List.set_cons_zero, List.set_cons_succ, i64_w, i32_w]
                            rfl
                          refine pure_ (i := 9) (N := some 44) (v := ?_) (a' := ?_) #[true, true, true, true, true, true, true, true, true, true, false, false, false] rfl rfl (any_of HT_.out (by kernel_rfl)) (fun _ _ _ h => h) (Or.inl ⟨by rfl, ?_⟩) ?_ ?_
                          rotate_left
                          · intro w'
                            go_simp
                            with_reducible rfl
                          rotate_left
                          · simp only [Act.put, List.setIfInBounds_toArray, List.set_cons_zero, List.set_cons_succ, i64_w, i32_w]
                            rfl
                          refine one_ (i := 10) (N := some 8) #[true, true, true, true, true, true, true, true, true, true, true, false, false] rfl rfl (one_of HT_.out (by kernel_rfl)) (by decide) (fun K hK => ?_)
                          refine box_step ?hg (N := 8) ?hd (cs := #[.slice none 0 0, .bool false, .int .i64 0, .slice none 0 0]) (t := 27) ?hr ?_; (case hd => rfl); (case hg => rfl); (case hr => first | (go_simp; done) | (go_simp; rfl))
                          intro gb476 hg w47 hbox hb
                          replace HO_465000 := vE HO_465000 hg hb
                          replace HO_465003 := vE HO_465003 hg hb
                          replace HO469 := vE HO469 hg hb
                          replace HO474 := vE HO474 hg hb
                          have BK476 := Aside0.mk hbox
                          have GW476 := gE HB hg
                          have GE476 := gE HB hg
                          replace HB := hB HB hb
                          have NB464_476 := nL BK464 hg
                          have NB476_464 := nG BK464 hg
                          replace BK464 := kB BK464 hb
                          clear hb hbox hg
                          refine hK.out _ _ ⟨cx BK464 0, cx BK464 1, cx BK464 2, cx BK464 3, ((HB.out.cell (World.block_lt_of_cell? w _ hw466_0)).trans hw466_0), ((HB.out.cell (World.block_lt_of_cell? w _ hw466_1)).trans hw466_1), ((HB.out.cell (World.block_lt_of_cell? w _ hw466_2)).trans hw466_2)⟩ (fun hHeld => ?_)
                          clear hK K
                          refine norm_ (a' := ?_) ?_ ?_
                          rotate_left
                          · show Act.put _ (some 8) _ = _
                            simp only [Act.put, List.setIfInBounds_toArray, List.set_cons_zero, List.set_cons_succ, i64_w, i32_w]
                            rfl
                          exact norm_ (by simp only [putAll, Act.put, List.setIfInBounds_toArray, List.set_cons_zero, List.set_cons_succ]) (hCont (v468, v473, gb476) _ ⟨hHeld, (vM HO469), (vM HO474), (vM HO_465000), (vM HO_465003), (kk BK464), (kk BK476), GW476.out, GE476.out, NB464_476.out, NB476_464.out, (bb HB)⟩)
                        · skip
                          refine box_step ?hg (N := 8) ?hd (cs := #[.slice none 0 0, .bool false, .int .i64 0, .slice none 0 0]) (t := 27) ?hr ?_; (case hd => rfl); (case hg => rfl); (case hr => first | (go_simp; done) | (go_simp; rfl))
                          intro gb476 hg w46 hbox hb
                          replace HO_465000 := vE HO_465000 hg hb
                          replace HO_465003 := vE HO_465003 hg hb
                          have BK476 := Aside0.mk hbox
                          have GW476 := gE HB hg
                          have GE476 := gE HB hg
                          replace HB := hB HB hb
                          have NB464_476 := nL BK464 hg
                          have NB476_464 := nG BK464 hg
                          replace BK464 := kB BK464 hb
                          clear hb hbox hg
                          refine hK.out _ _ ⟨cx BK464 0, cx BK464 1, cx BK464 2, cx BK464 3, ((HB.out.cell (World.block_lt_of_cell? w _ hw466_0)).trans hw466_0), ((HB.out.cell (World.block_lt_of_cell? w _ hw466_1)).trans hw466_1), ((HB.out.cell (World.block_lt_of_cell? w _ hw466_2)).trans hw466_2)⟩ (fun hHeld => ?_)
                          clear hK K
                          refine norm_ (a' := ?_) ?_ ?_
                          rotate_left
                          · show Act.put _ (some 8) _ = _
                            simp only [Act.put, List.setIfInBounds_toArray, List.set_cons_zero, List.set_cons_succ, i64_w, i32_w]
                            rfl
                          refine one_ (i := 6) (N := some 42) #[true, true, true, true, true, true, true, false, false, false, true, false, false] rfl rfl (one_of HT_.out (by kernel_rfl)) (by decide) (fun K hK => ?_)
                          refine gs Try.func13 (by kernel_rfl) rfl #[.agg #[.slice Ao43 x465000_1.length co43, .bool x465001_1, .int .i64 x465002_1, .slice Ao44 x465003_1.length co44], .slice A466_2 ((rd_T29 l0 x7_1).f2).length c466_2] (by rfl) rfl rfl ?_
                          with_reducible refine (wire_Arrive.calls (fun k_ => (k_ ≠ gb464 ∧ k_ ≠ gb476)) _ _ x465000_1 x465001_1 x465002_1 (fun k_ => (k_ ≠ gb464 ∧ k_ ≠ gb476)) _ _ x465003_1 _ _ ((rd_T29 l0 x7_1).f2) t467 t470 t471 t472 t475 _ ?side1 ?side2 ?side3 ?side4 A11.out).mono ?_
                          (case side1 => exact HO_465000.out)
                          (case side2 => exact HO_465003.out)
                          (case side3 => exact Kd.C_below HR466_2.out (bb HB))
                          (case side4 => exact HC466_2.out)
                          rintro e w47 ⟨v468, v473, rfl, ho0, ho1, hb⟩
                          refine ⟨_, rfl, ?_⟩
                          replace HO_465000 := vB HO_465000 hb
                          replace HO_465003 := vB HO_465003 hb
                          have HO469 := Aside0.mk (Kd.V_lower (Kd.V_mono (ok' := fun k_ => k_ ≠ gb464 ∧ k_ ≠ gb476) ho0 (fun k_ hk_ => ⟨oe hk_ (fun h => h.1) (fun h => h.1) (Kd.freshB (kk BK464) k_), oe hk_ (fun h => h.2) (fun h => h.2) (Kd.freshB (kk BK476) k_)⟩)) (below_size (bb HB)))
                          have HO474 := Aside0.mk (Kd.V_lower (Kd.V_mono (ok' := fun k_ => k_ ≠ gb464 ∧ k_ ≠ gb476) ho1 (fun k_ hk_ => ⟨oe hk_ (fun h => h.1) (fun h => h.1) (Kd.freshB (kk BK464) k_), oe hk_ (fun h => h.2) (fun h => h.2) (Kd.freshB (kk BK476) k_)⟩)) (below_size (bb HB)))
                          replace BK464 := kB BK464 hb
                          replace BK476 := kB BK476 hb
                          replace HB := hB HB hb
                          (try clear hb)
                          (try clear hb2)
                          (try clear hk)
                          (try clear hi)
                          (try clear ho0)
                          (try clear ho1)
                          refine hK.out _ _ ⟨cx BK464 0, cx BK464 1, cx BK464 2, cx BK464 3, ((HB.out.cell (World.block_lt_of_cell? w _ hw466_0)).trans hw466_0), ((HB.out.cell (World.block_lt_of_cell? w _ hw466_1)).trans hw466_1), ((HB.out.cell (World.block_lt_of_cell? w _ hw466_2)).trans hw466_2)⟩ (fun hHeld => ?_)
                          clear hK K
                          refine norm_ (a' := ?_) ?_ ?_
                          rotate_left
                          · show Act.put _ (some 42) _ = _
                            simp only [Act.put, List.setIfInBounds_toArray, List.set_cons_zero, List.set_cons_succ, i64_w, i32_w]
                            rfl
                          refine pure_ (i := 7) (N := some 35) (v := ?_) (a' := ?_) #[true, true, true, true, true, true, true, true, false, false, true, false, false] rfl rfl (any_of HT_.out (by kernel_rfl)) (fun _ _ _ h => h) (Or.inl ⟨by rfl, ?_⟩) ?_ ?_
                          rotate_left
                          · intro w'
                            go_simp
                            with_reducible rfl
                          rotate_left
                          · simp only [Act.put, List.setIfInBounds_toArray, List.set_cons_zero, List.set_cons_succ, i64_w, i32_w]
                            rfl
                          refine pure_ (i := 8) (N := some 43) (v := ?_) (a' := ?_) #[true, true, true, true, true, true, true, true, true, false, true, false, false] rfl rfl (any_of HT_.out (by kernel_rfl)) (fun _ _ _ h => h) (Or.inl ⟨by rfl, ?_⟩) ?_ ?_
                          rotate_left
                          · intro w'
                            go_simp
                            with_reducible rfl
                          rotate_left
                          · simp only [Act.put, List.setIfInBounds_toArray, List.set_cons_zero, List.set_cons_succ, i64_w, i32_w]
                            rfl
                          refine pure_ (i := 9) (N := some 44) (v := ?_) (a' := ?_) #[true, true, true, true, true, true, true, true, true, true, true, false, false] rfl rfl (any_of HT_.out (by kernel_rfl)) (fun _ _ _ h => h) (Or.inl ⟨by rfl, ?_⟩) ?_ ?_
                          rotate_left
                          · intro w'
                            go_simp
                            with_reducible rfl
                          rotate_left
                          · simp only [Act.put, List.setIfInBounds_toArray, List.set_cons_zero, List.set_cons_succ, i64_w, i32_w]
                            rfl
                          exact norm_ (by simp only [putAll, Act.put, List.setIfInBounds_toArray, List.set_cons_zero, List.set_cons_succ]) (hCont (v468, v473, gb476) _ ⟨hHeld, (vM HO469), (vM HO474), (vM HO_465000), (vM HO_465003), (kk BK464), (kk BK476), GW476.out, GE476.out, NB464_476.out, NB476_464.out, (bb HB)⟩)
                      clear HO_465000 HO_465003 BK464 HB
                      rintro ⟨v468, v473, gb476⟩ w48 hS_
                      dsimp only at hS_
                      obtain ⟨hHeld, h0_, h1_, h2_, h3_, h4_, h5_, h6_, h7_, h8_, h9_, h10_⟩ := hS_
                      have HO469 := Aside0.mk h0_
                      have HO474 := Aside0.mk h1_
                      have HO_465000 := Aside0.mk h2_
                      have HO_465003 := Aside0.mk h3_
                      have BK464 := Aside0.mk h4_
                      have BK476 := Aside0.mk h5_
                      have GW476 := Aside0.mk h6_
                      have GE476 := Aside0.mk h7_
                      have NB464_476 := Aside0.mk h8_
                      have NB476_464 := Aside0.mk h9_
                      have HB := Aside0.mk h10_
                      clear h0_ h1_ h2_ h3_ h4_ h5_ h6_ h7_ h8_ h9_ h10_
                      obtain ⟨Ao49, co49, eo49⟩ := Kd.V_slice HO469.out
                      (first | subst eo49 | (injection eo49 with f1_ f2_ f3_; have f4_ := f1_.symm; have f5_ := f3_.symm; clear f1_ f2_ f3_; subst f4_; subst f5_))
                      obtain ⟨Ao53, co53, eo53⟩ := Kd.V_slice HO474.out
                      (first | subst eo53 | (injection eo53 with f1_ f2_ f3_; have f4_ := f1_.symm; have f5_ := f3_.symm; clear f1_ f2_ f3_; subst f4_; subst f5_))
                      refine norm_ (a' := ?_) ?_ ?_
                      rotate_left
                      · simp only [putAll, Act.put, List.setIfInBounds_toArray, List.set_cons_zero, List.set_cons_succ]
                        rfl
                      refine one_ (i := 11) (N := none) #[true, true, true, true, true, true, true, true, true, true, true, true, false] rfl rfl (one_of HT_.out (by kernel_rfl)) (by decide) (fun K hK => ?_)
                      have hs50 : w48.cell? ⟨gb476, 0, none⟩ = some (.slice none 0 0) := cx BK476 0
                      have hfs50 := blk_frozen BK476.out 0
                      have hns50_0 := NB464_476.out
                      have hms50_0 := NB476_464.out
                      have hs51 : w48.cell? ⟨gb476, 1, none⟩ = some (.bool false) := cx BK476 1
                      have hfs51 := blk_frozen BK476.out 1
                      have hns51_0 := NB464_476.out
                      have hms51_0 := NB476_464.out
                      have hs52 : w48.cell? ⟨gb476, 2, none⟩ = some (.int .i64 0) := cx BK476 2
                      have hfs52 := blk_frozen BK476.out 2
                      have hns52_0 := NB464_476.out
                      have hms52_0 := NB476_464.out
                      have hs54 : w48.cell? ⟨gb476, 3, none⟩ = some (.slice none 0 0) := cx BK476 3
                      have hfs54 := blk_frozen BK476.out 3
                      have hns54_0 := NB464_476.out
                      have hms54_0 := NB476_464.out
                      refine skip_ (w1 := ?_) (by rfl) rfl ?_ ?_
                      rotate_left
                      · go_simp
                        rfl
                      refine hK.out _ _ ⟨((cell_far (p := ⟨gb476, _, none⟩) NB464_476.out _).trans (((cell_far (p := ⟨gb476, _, none⟩) NB464_476.out _).trans (((cell_far (p := ⟨gb476, _, none⟩) NB464_476.out _).trans (((cell_far (p := ⟨gb476, _, none⟩) NB464_476.out _).trans (hHeld.1)))))))), ((cell_far (p := ⟨gb476, _, none⟩) NB464_476.out _).trans (((cell_far (p := ⟨gb476, _, none⟩) NB464_476.out _).trans (((cell_far (p := ⟨gb476, _, none⟩) NB464_476.out _).trans (((cell_far (p := ⟨gb476, _, none⟩) NB464_476.out _).trans (hHeld.2.1)))))))), ((cell_far (p := ⟨gb476, _, none⟩) NB464_476.out _).trans (((cell_far (p := ⟨gb476, _, none⟩) NB464_476.out _).trans (((cell_far (p := ⟨gb476, _, none⟩) NB464_476.out _).trans (((cell_far (p := ⟨gb476, _, none⟩) NB464_476.out _).trans (hHeld.2.2.1)))))))), ((cell_far (p := ⟨gb476, _, none⟩) NB464_476.out _).trans (((cell_far (p := ⟨gb476, _, none⟩) NB464_476.out _).trans (((cell_far (p := ⟨gb476, _, none⟩) NB464_476.out _).trans (((cell_far (p := ⟨gb476, _, none⟩) NB464_476.out _).trans (hHeld.2.2.2.1)))))))), ((cell_far (p := ⟨gb476, _, none⟩) (by first | exact Nat.ne_of_lt (Nat.lt_of_lt_of_le (by have := World.block_lt_of_cell? _ _ hw466_0; first | rwa [add_block] at this | exact this) GW476.out) | (rw [add_block]; exact Nat.ne_of_lt (Nat.lt_of_lt_of_le (by have := World.block_lt_of_cell? _ _ hw466_0; first | rwa [add_block] at this | exact this) GW476.out)) | (show (Addr.add _ _).block ≠ _; rw [add_block]; exact Nat.ne_of_lt (Nat.lt_of_lt_of_le (by have := World.block_lt_of_cell? _ _ hw466_0; first | rwa [add_block] at this | exact this) GW476.out)) | (dsimp only; exact Nat.ne_of_lt (Nat.lt_of_lt_of_le (by have := World.block_lt_of_cell? _ _ hw466_0; first | rwa [add_block] at this | exact this) GW476.out))) _).trans (((cell_far (p := ⟨gb476, _, none⟩) (by first | exact Nat.ne_of_lt (Nat.lt_of_lt_of_le (by have := World.block_lt_of_cell? _ _ hw466_0; first | rwa [add_block] at this | exact this) GW476.out) | (rw [add_block]; exact Nat.ne_of_lt (Nat.lt_of_lt_of_le (by have := World.block_lt_of_cell? _ _ hw466_0; first | rwa [add_block] at this | exact this) GW476.out)) | (show (Addr.add _ _).block ≠ _; rw [add_block]; exact Nat.ne_of_lt (Nat.lt_of_lt_of_le (by have := World.block_lt_of_cell? _ _ hw466_0; first | rwa [add_block] at this | exact this) GW476.out)) | (dsimp only; exact Nat.ne_of_lt (Nat.lt_of_lt_of_le (by have := World.block_lt_of_cell? _ _ hw466_0; first | rwa [add_block] at this | exact this) GW476.out))) _).trans (((cell_far (p := ⟨gb476, _, none⟩) (by first | exact Nat.ne_of_lt (Nat.lt_of_lt_of_le (by have := World.block_lt_of_cell? _ _ hw466_0; first | rwa [add_block] at this | exact this) GW476.out) | (rw [add_block]; exact Nat.ne_of_lt (Nat.lt_of_lt_of_le (by have := World.block_lt_of_cell? _ _ hw466_0; first | rwa [add_block] at this | exact this) GW476.out)) | (show (Addr.add _ _).block ≠ _; rw [add_block]; exact Nat.ne_of_lt (Nat.lt_of_lt_of_le (by have := World.block_lt_of_cell? _ _ hw466_0; first | rwa [add_block] at this | exact this) GW476.out)) | (dsimp only; exact Nat.ne_of_lt (Nat.lt_of_lt_of_le (by have := World.block_lt_of_cell? _ _ hw466_0; first | rwa [add_block] at this | exact this) GW476.out))) _).trans (((cell_far (p := ⟨gb476, _, none⟩) (by first | exact Nat.ne_of_lt (Nat.lt_of_lt_of_le (by have := World.block_lt_of_cell? _ _ hw466_0; first | rwa [add_block] at this | exact this) GW476.out) | (rw [add_block]; exact Nat.ne_of_lt (Nat.lt_of_lt_of_le (by have := World.block_lt_of_cell? _ _ hw466_0; first | rwa [add_block] at this | exact this) GW476.out)) | (show (Addr.add _ _).block ≠ _; rw [add_block]; exact Nat.ne_of_lt (Nat.lt_of_lt_of_le (by have := World.block_lt_of_cell? _ _ hw466_0; first | rwa [add_block] at this | exact this) GW476.out)) | (dsimp only; exact Nat.ne_of_lt (Nat.lt_of_lt_of_le (by have := World.block_lt_of_cell? _ _ hw466_0; first | rwa [add_block] at this | exact this) GW476.out))) _).trans (hHeld.2.2.2.2.1)))))))), ((cell_far (p := ⟨gb476, _, none⟩) (by first | exact Nat.ne_of_lt (Nat.lt_of_lt_of_le (by have := World.block_lt_of_cell? _ _ hw466_1; first | rwa [add_block] at this | exact this) GW476.out) | (rw [add_block]; exact Nat.ne_of_lt (Nat.lt_of_lt_of_le (by have := World.block_lt_of_cell? _ _ hw466_1; first | rwa [add_block] at this | exact this) GW476.out)) | (show (Addr.add _ _).block ≠ _; rw [add_block]; exact Nat.ne_of_lt (Nat.lt_of_lt_of_le (by have := World.block_lt_of_cell? _ _ hw466_1; first | rwa [add_block] at this | exact this) GW476.out)) | (dsimp only; exact Nat.ne_of_lt (Nat.lt_of_lt_of_le (by have := World.block_lt_of_cell? _ _ hw466_1; first | rwa [add_block] at this | exact this) GW476.out))) _).trans (((cell_far (p := ⟨gb476, _, none⟩) (by first | exact Nat.ne_of_lt (Nat.lt_of_lt_of_le (by have := World.block_lt_of_cell? _ _ hw466_1; first | rwa [add_block] at this | exact this) GW476.out) | (rw [add_block]; exact Nat.ne_of_lt (Nat.lt_of_lt_of_le (by have := World.block_lt_of_cell? _ _ hw466_1; first | rwa [add_block] at this | exact this) GW476.out)) | (show (Addr.add _ _).block ≠ _; rw [add_block]; exact Nat.ne_of_lt (Nat.lt_of_lt_of_le (by have := World.block_lt_of_cell? _ _ hw466_1; first | rwa [add_block] at this | exact this) GW476.out)) | (dsimp only; exact Nat.ne_of_lt (Nat.lt_of_lt_of_le (by have := World.block_lt_of_cell? _ _ hw466_1; first | rwa [add_block] at this | exact this) GW476.out))) _).trans (((cell_far (p := ⟨gb476, _, none⟩) (by first | exact Nat.ne_of_lt (Nat.lt_of_lt_of_le (by have := World.block_lt_of_cell? _ _ hw466_1; first | rwa [add_block] at this | exact this) GW476.out) | (rw [add_block]; exact Nat.ne_of_lt (Nat.lt_of_lt_of_le (by have := World.block_lt_of_cell? _ _ hw466_1; first | rwa [add_block] at this | exact this) GW476.out)) | (show (Addr.add _ _).block ≠ _; rw [add_block]; exact Nat.ne_of_lt (Nat.lt_of_lt_of_le (by have := World.block_lt_of_cell? _ _ hw466_1; first | rwa [add_block] at this | exact this) GW476.out)) | (dsimp only; exact Nat.ne_of_lt (Nat.lt_of_lt_of_le (by have := World.block_lt_of_cell? _ _ hw466_1; first | rwa [add_block] at this | exact this) GW476.out))) _).trans (((cell_far (p := ⟨gb476, _, none⟩) (by first | exact Nat.ne_of_lt (Nat.lt_of_lt_of_le (by have := World.block_lt_of_cell? _ _ hw466_1; first | rwa [add_block] at this | exact this) GW476.out) | (rw [add_block]; exact Nat.ne_of_lt (Nat.lt_of_lt_of_le (by have := World.block_lt_of_cell? _ _ hw466_1; first | rwa [add_block] at this | exact this) GW476.out)) | (show (Addr.add _ _).block ≠ _; rw [add_block]; exact Nat.ne_of_lt (Nat.lt_of_lt_of_le (by have := World.block_lt_of_cell? _ _ hw466_1; first | rwa [add_block] at this | exact this) GW476.out)) | (dsimp only; exact Nat.ne_of_lt (Nat.lt_of_lt_of_le (by have := World.block_lt_of_cell? _ _ hw466_1; first | rwa [add_block] at this | exact this) GW476.out))) _).trans (hHeld.2.2.2.2.2.1)))))))), ((cell_far (p := ⟨gb476, _, none⟩) (by first | exact Nat.ne_of_lt (Nat.lt_of_lt_of_le (by have := World.block_lt_of_cell? _ _ hw466_2; first | rwa [add_block] at this | exact this) GW476.out) | (rw [add_block]; exact Nat.ne_of_lt (Nat.lt_of_lt_of_le (by have := World.block_lt_of_cell? _ _ hw466_2; first | rwa [add_block] at this | exact this) GW476.out)) | (show (Addr.add _ _).block ≠ _; rw [add_block]; exact Nat.ne_of_lt (Nat.lt_of_lt_of_le (by have := World.block_lt_of_cell? _ _ hw466_2; first | rwa [add_block] at this | exact this) GW476.out)) | (dsimp only; exact Nat.ne_of_lt (Nat.lt_of_lt_of_le (by have := World.block_lt_of_cell? _ _ hw466_2; first | rwa [add_block] at this | exact this) GW476.out))) _).trans (((cell_far (p := ⟨gb476, _, none⟩) (by first | exact Nat.ne_of_lt (Nat.lt_of_lt_of_le (by have := World.block_lt_of_cell? _ _ hw466_2; first | rwa [add_block] at this | exact this) GW476.out) | (rw [add_block]; exact Nat.ne_of_lt (Nat.lt_of_lt_of_le (by have := World.block_lt_of_cell? _ _ hw466_2; first | rwa [add_block] at this | exact this) GW476.out)) | (show (Addr.add _ _).block ≠ _; rw [add_block]; exact Nat.ne_of_lt (Nat.lt_of_lt_of_le (by have := World.block_lt_of_cell? _ _ hw466_2; first | rwa [add_block] at this | exact this) GW476.out)) | (dsimp only; exact Nat.ne_of_lt (Nat.lt_of_lt_of_le (by have := World.block_lt_of_cell? _ _ hw466_2; first | rwa [add_block] at this | exact this) GW476.out))) _).trans (((cell_far (p := ⟨gb476, _, none⟩) (by first | exact Nat.ne_of_lt (Nat.lt_of_lt_of_le (by have := World.block_lt_of_cell? _ _ hw466_2; first | rwa [add_block] at this | exact this) GW476.out) | (rw [add_block]; exact Nat.ne_of_lt (Nat.lt_of_lt_of_le (by have := World.block_lt_of_cell? _ _ hw466_2; first | rwa [add_block] at this | exact this) GW476.out)) | (show (Addr.add _ _).block ≠ _; rw [add_block]; exact Nat.ne_of_lt (Nat.lt_of_lt_of_le (by have := World.block_lt_of_cell? _ _ hw466_2; first | rwa [add_block] at this | exact this) GW476.out)) | (dsimp only; exact Nat.ne_of_lt (Nat.lt_of_lt_of_le (by have := World.block_lt_of_cell? _ _ hw466_2; first | rwa [add_block] at this | exact this) GW476.out))) _).trans (((cell_far (p := ⟨gb476, _, none⟩) (by first | exact Nat.ne_of_lt (Nat.lt_of_lt_of_le (by have := World.block_lt_of_cell? _ _ hw466_2; first | rwa [add_block] at this | exact this) GW476.out) | (rw [add_block]; exact Nat.ne_of_lt (Nat.lt_of_lt_of_le (by have := World.block_lt_of_cell? _ _ hw466_2; first | rwa [add_block] at this | exact this) GW476.out)) | (show (Addr.add _ _).block ≠ _; rw [add_block]; exact Nat.ne_of_lt (Nat.lt_of_lt_of_le (by have := World.block_lt_of_cell? _ _ hw466_2; first | rwa [add_block] at this | exact this) GW476.out)) | (dsimp only; exact Nat.ne_of_lt (Nat.lt_of_lt_of_le (by have := World.block_lt_of_cell? _ _ hw466_2; first | rwa [add_block] at this | exact this) GW476.out))) _).trans (hHeld.2.2.2.2.2.2))))))))⟩ (fun hHeld => ?_)
                      clear hK K
                      refine pure_ (i := 12) (N := some 9) (v := ?_) (a' := ?_) #[true, true, true, true, true, true, true, true, true, true, true, true, true] rfl rfl (any_of HT_.out (by kernel_rfl)) (fun _ _ _ h => h) (Or.inl ⟨by rfl, ?_⟩) ?_ ?_
                      rotate_left
                      · intro w'
                        go_simp
                        with_reducible rfl
                      rotate_left
                      · simp only [Act.put, List.setIfInBounds_toArray, List.set_cons_zero, List.set_cons_succ, i64_w, i32_w]
                        rfl
                      refine done_ (done_of HT_.out (by kernel_rfl)) ?_
                      obtain ⟨w55, hw⟩ : ∃ w_, w_ = ((((w48.setCell ⟨gb476, 0, none⟩ (.slice Ao49 t467.length co49)).setCell ⟨gb476, 1, none⟩ (.bool t470)).setCell ⟨gb476, 2, none⟩ (.int .i64 t471)).setCell ⟨gb476, 3, none⟩ (.slice Ao53 t472.length co53)) := ⟨_, rfl⟩
                      rw [← hw]
                      replace HO_465000 := vS (fun k_ => k_ ≠ gb464 ∧ k_ ≠ gb476) HO_465000 hw
                      replace HO_465003 := vS (fun k_ => k_ ≠ gb464 ∧ k_ ≠ gb476) HO_465003 hw
                      replace HO469 := vS (fun k_ => k_ ≠ gb464 ∧ k_ ≠ gb476) HO469 hw
                      replace HO474 := vS (fun k_ => k_ ≠ gb464 ∧ k_ ≠ gb476) HO474 hw
                      replace BK464 := kS BK464 hw
                      replace BK476 := kP4 BK476 hw
                      replace HB := hS HB hw
                      clear hw
                      have hnb56 := NB476_464.out
                      have hnc56 := NB464_476.out
                      obtain ⟨hcz57_0, hcz57_1, hcz57_2, hcz57_3, hfz57_0, hfz57_1, hfz57_2, hfz57_3⟩ := bc4 BK476
                      obtain ⟨hcz58_0, hcz58_1, hcz58_2, hcz58_3, hfz58_0, hfz58_1, hfz58_2, hfz58_3⟩ := bc4 BK464
                      try go_wp2_with (first | ((with_reducible refine gate_store (t := 27) (p := 4) rfl ?_); refine store_event (t := 27) (p := 4) (v := ?vo_w59) (w1 := ((((w55.setCell ⟨gb464, 0, none⟩ (.slice Ao49 t467.length co49)).setCell ⟨gb464, 1, none⟩ (.bool t470)).setCell ⟨gb464, 2, none⟩ (.int .i64 t471)).setCell ⟨gb464, 3, none⟩ (.slice Ao53 t472.length co53))) ?hg ?ho ?hn ?hr ?_; (case ho => rfl); (case hg => rfl); (case hn => rfl); (case hr => first | (go_simp; done) | (go_simp; rfl)); intro w59 hw; replace HO_465000 := vS (fun k_ => k_ ≠ gb464 ∧ k_ ≠ gb476) HO_465000 hw; replace HO_465003 := vS (fun k_ => k_ ≠ gb464 ∧ k_ ≠ gb476) HO_465003 hw; replace HO469 := vS (fun k_ => k_ ≠ gb464 ∧ k_ ≠ gb476) HO469 hw; replace HO474 := vS (fun k_ => k_ ≠ gb464 ∧ k_ ≠ gb476) HO474 hw; replace BK464 := kP4 BK464 hw; replace BK476 := kS BK476 hw; replace HB : Aside0 (Below w.heap.size w w59) := ⟨(by rw [hw]; exact (bb HB))⟩; clear hw; obtain ⟨hcz60_0, hcz60_1, hcz60_2, hcz60_3, hfz60_0, hfz60_1, hfz60_2, hfz60_3⟩ := bc4 BK464; have hcv61 := v_string (P := Try.prog) Try.underlying25 Try.underlying5 Try.underlying9 HO469.out) | (go_at_call 15; (with_reducible refine (wire_Sane.calls _ _ t467 t470 t471 _ _ t472 true _ ?side1 ?side2 ?side3 ?side4 A41.out).mono ?_); (case side1 => exact (Kd.V_reads' (vv HO469)).2.2); (case side2 => exact (Kd.V_reads' HO469.out).2.1); (case side3 => exact (Kd.V_reads' (vv HO474)).2.2); (case side4 => exact (Kd.V_reads' HO474.out).2.1); rintro e w62 ⟨rfl, hb⟩; replace HO_465000 := vB HO_465000 hb; replace HO_465003 := vB HO_465003 hb; replace HO469 := vB HO469 hb; replace HO474 := vB HO474 hb; replace BK464 := kB BK464 hb; replace BK476 := kB BK476 hb; replace HB := hB HB hb; (try clear hb); (try clear hb2); (try clear hk); (try clear hi)))
                      go_roundg k1
                      case measure => have := HK1.out; omega
                      case rel => exact ⟨(x5_1), (x6_1), (wrap64 (x7_1 + 1)), (t467), (t470), (t471), (t472), (.slice Ao49 t467.length co49), (.slice Ao53 t472.length co53), (by first | rfl | (simp; done) | (simp [*]; done)), (by first | rfl | (simp; done) | (simp [*]; done)), (by first | rfl | (simp; done) | (simp [*]; done)), H', ⟨by have := HK1.out; omega⟩, ⟨vM HO469⟩, ⟨vM HO474⟩, ⟨kk BK464⟩, ⟨bb HB⟩⟩
                    · replace c42 := Bool.eq_false_iff.mpr c42
                      subst c42
                      rw [if_neg nf] at H
                      cases H; exact absurd HRT.out (by decide)
                  · rw [if_neg c40] at H
                    cases H; exact absurd HRT.out (by decide)
                · rw [if_neg c39] at H
                  exact absurd H (by simp)
            · rw [if_neg c10] at H
              have c10b0 : (((rd_T29 l0 x7_1).f0) == 0) = false := beq_eq_false_iff_ne.mpr c10
              have c10b1 : (((rd_T29 l0 x7_1).f0) != 0) = true := bne_iff_ne.mpr c10
              by_cases c63 : ((rd_T29 l0 x7_1).f0) = 1
              · rw [if_pos c63] at H
                have c63b0 : (((rd_T29 l0 x7_1).f0) == 1) = true := beq_iff_eq.mpr c63
                have c63b1 : (((rd_T29 l0 x7_1).f0) != 1) = false := bne_eq_false_iff_eq.mpr c63
                clear c63
                obtain ⟨⟨t481, t484, t485, t486, t489⟩, A64, H⟩ := ob H
                dsimp only at H
                by_cases c65 : x6_1.size + (strOfNums t489).size ≤ 9223372036854775807
                · rw [if_pos c65] at H
                  have c65b0 := eq_true c65
                  have c65b1 : decide (x6_1.size + (strOfNums t489).size ≤ 9223372036854775807) = true := decide_eq_true c65
                  try have c65b2 : (9223372036854775807 < x6_1.size + (strOfNums t489).size) = False := eq_false (Nat.not_lt.2 c65)
                  by_cases c66 : (x6_1 ++ (strOfNums t489)).size + (strOfNums t481).size ≤ 9223372036854775807
                  · rw [if_pos c66] at H
                    have c66b0 := eq_true c66
                    have c66b1 : decide ((x6_1 ++ (strOfNums t489)).size + (strOfNums t481).size ≤ 9223372036854775807) = true := decide_eq_true c66
                    try have c66b2 : (9223372036854775807 < (x6_1 ++ (strOfNums t489)).size + (strOfNums t481).size) = False := eq_false (Nat.not_lt.2 c66)
                    by_cases c67 : ((x6_1 ++ (strOfNums t489)) ++ (strOfNums t481)).toList = x5_1.toList
                    · rw [if_pos c67] at H
                      have c67b0 : (((x6_1 ++ (strOfNums t489)) ++ (strOfNums t481)).toList == x5_1.toList) = true := beq_iff_eq.mpr c67
                      have c67b1 : (((x6_1 ++ (strOfNums t489)) ++ (strOfNums t481)).toList != x5_1.toList) = false := bne_eq_false_iff_eq.mpr c67
                      clear c67
                      obtain ⟨t493, A68, H⟩ := ob H
                      by_cases c69 : t493 = true
                      · subst c69
                        rw [if_pos rfl] at H
                        have H' := Aside0.mk H
                        clear H
                        have p465 : 0 ≤ (x7_1 : Int) := of_decide_eq_true (by first | (with_reducible assumption) | assumption)
                        have q465 : x7_1 < (l0.length : Int) := of_decide_eq_true (by first | (with_reducible assumption) | assumption)
                        obtain ⟨ad465, A465_2, c465_2, e465, hx465_0, hx465_1, hx465_2, hl465_2, hi465_2⟩ := at_T29 HR0.out x7_1 p465 q465
                        cases e465
                        replace hx465_0 := (HB.out.cell (World.block_lt_of_cell? w _ hx465_0)).trans hx465_0
                        replace hx465_1 := (HB.out.cell (World.block_lt_of_cell? w _ hx465_1)).trans hx465_1
                        replace hx465_2 := (HB.out.cell (World.block_lt_of_cell? w _ hx465_2)).trans hx465_2
                        have HR465_2 := Aside0.mk hi465_2
                        have HC465_2 := Aside0.mk hl465_2
                        clear hi465_2 hl465_2
                        replace p465 := eq_true p465
                        replace q465 := eq_true q465
                        obtain ⟨Ao70, co70, eo70⟩ := Kd.V_slice HO_465000.out
                        subst eo70
                        obtain ⟨Ao71, co71, eo71⟩ := Kd.V_slice HO_465003.out
                        subst eo71
                        try go_wp2
                        replace HO_465000 := Aside0.mk (Kd.V_drew HO_465000.out)
                        replace HO_465003 := Aside0.mk (Kd.V_drew HO_465003.out)
                        replace BK464 := Aside0.mk (blk_drew BK464.out)
                        replace HB := Aside0.mk (below_drew1 HB.out)
                        have p480 : 0 ≤ (x7_1 : Int) := of_decide_eq_true (by first | (with_reducible assumption) | assumption)
                        have q480 : x7_1 < (l0.length : Int) := of_decide_eq_true (by first | (with_reducible assumption) | assumption)
                        obtain ⟨ad480, A480_2, c480_2, e480, hx480_0, hx480_1, hx480_2, hl480_2, hi480_2⟩ := at_T29 HR0.out x7_1 p480 q480
                        have hw480_2 := hx480_2
                        have hw480_1 := hx480_1
                        have hw480_0 := hx480_0
                        obtain rfl : ad465 = ad480 := (by injection e480)
                        replace hx480_0 := (HB.out.cell (World.block_lt_of_cell? w _ hx480_0)).trans hx480_0
                        replace hx480_1 := (HB.out.cell (World.block_lt_of_cell? w _ hx480_1)).trans hx480_1
                        replace hx480_2 := (HB.out.cell (World.block_lt_of_cell? w _ hx480_2)).trans hx480_2
                        have HR480_2 := Aside0.mk hi480_2
                        have HC480_2 := Aside0.mk hl480_2
                        clear hi480_2 hl480_2
                        replace p480 := eq_true p480
                        replace q480 := eq_true q480
                        refine start_ (n := 13) (S := fun w' => w'.cell? ⟨gb464, 0, none⟩ = some (.slice Ao70 x465000_1.length co70) ∧ w'.cell? ⟨gb464, 1, none⟩ = some (.bool x465001_1) ∧ w'.cell? ⟨gb464, 2, none⟩ = some (.int .i64 x465002_1) ∧ w'.cell? ⟨gb464, 3, none⟩ = some (.slice Ao71 x465003_1.length co71) ∧ w'.cell? (ad465.add ((x7_1).toNat * 3)) = some (.int .i64 ((rd_T29 l0 x7_1).f0)) ∧ w'.cell? ⟨(ad465.add ((x7_1).toNat * 3)).block, (ad465.add ((x7_1).toNat * 3)).off + 1, none⟩ = some (.int .i64 ((rd_T29 l0 x7_1).f1)) ∧ w'.cell? ⟨(ad465.add ((x7_1).toNat * 3)).block, (ad465.add ((x7_1).toNat * 3)).off + 2, none⟩ = some (.slice A480_2 ((rd_T29 l0 x7_1).f2).length c480_2)) (ds := []) #[false, false, false, false, false, false, false, false, false, false, false, false, false] (by kernel_rfl) rfl rfl ⟨cx BK464 0, cx BK464 1, cx BK464 2, cx BK464 3, ((HB.out.cell (World.block_lt_of_cell? w _ hw480_0)).trans hw480_0), ((HB.out.cell (World.block_lt_of_cell? w _ hw480_1)).trans hw480_1), ((HB.out.cell (World.block_lt_of_cell? w _ hw480_2)).trans hw480_2)⟩ (fun hHeld => ?_); refine with_tabW pentroughlaw19_WireOrder.tab17 pentroughlaw19_WireOrder.bits17 (fun HT_ HW_ => ?_)
                        generalize wr.drew = w72 at HO_465000 HO_465003 BK464 HB HR480_2 hx480_0 hx480_1 hx480_2 hHeld ⊢
                        refine pure_ (i := 1) (N := some 60) (v := ?_) (a' := ?_) #[false, true, false, false, false, false, false, false, false, false, false, false, false] rfl rfl (any_of HT_.out (by kernel_rfl)) (fun _ _ _ h => h) (Or.inl ⟨by rfl, ?_⟩) ?_ ?_
                        rotate_left
                        · intro w'
                          go_simp
                          with_reducible rfl
                        rotate_left
                        · simp only [Act.put, List.setIfInBounds_toArray, List.set_cons_zero, List.set_cons_succ, i64_w, i32_w]
                          rfl
                        refine pure_ (i := 2) (N := some 61) (v := ?_) (a' := ?_) #[false, true, true, false, false, false, false, false, false, false, false, false, false] rfl rfl (any_of HT_.out (by kernel_rfl)) (fun _ _ _ h => h) (Or.inl ⟨by rfl, ?_⟩) ?_ ?_
                        rotate_left
                        · intro w'
                          go_simp
                          with_reducible rfl
                        rotate_left
                        · simp only [Act.put, List.setIfInBounds_toArray, List.set_cons_zero, List.set_cons_succ, i64_w, i32_w]
                          rfl
                        refine pure_ (i := 3) (N := some 62) (v := ?_) (a' := ?_) #[false, true, true, true, false, false, false, false, false, false, false, false, false] rfl rfl (any_of HT_.out (by kernel_rfl)) (fun _ _ _ h => h) (Or.inl ⟨by rfl, ?_⟩) ?_ ?_
                        rotate_left
                        · intro w'
                          go_simp
                          with_reducible rfl
                        rotate_left
                        · simp only [Act.put, List.setIfInBounds_toArray, List.set_cons_zero, List.set_cons_succ, i64_w, i32_w]
                          rfl
                        refine pure_ (i := 4) (N := some 63) (v := ?_) (a' := ?_) #[false, true, true, true, true, false, false, false, false, false, false, false, false] rfl rfl (any_of HT_.out (by kernel_rfl)) (fun _ _ _ h => h) (Or.inl ⟨by rfl, ?_⟩) ?_ ?_
                        rotate_left
                        · intro w'
                          go_simp
                          with_reducible rfl
                        rotate_left
                        · simp only [Act.put, List.setIfInBounds_toArray, List.set_cons_zero, List.set_cons_succ, i64_w, i32_w]
                          rfl
                        refine take_ (i := 0) (N := some 59) (v := ?_) (a' := ?_) #[true, true, true, true, true, false, false, false, false, false, false, false, false] rfl rfl (take_ofW HT_.out HW_.out (by kernel_rfl)) (fun _ _ _ h => h) (Or.inl ⟨by rfl, ?_⟩) hHeld ?_ ?_
                        rotate_left
                        · rintro w' ⟨s0, s1, s2, s3, s4, s5, s6⟩
                          go_simp
                          with_reducible rfl
                        rotate_left
                        · simp only [Act.put, List.setIfInBounds_toArray, List.set_cons_zero, List.set_cons_succ, i64_w, i32_w]
                          rfl
                        refine take_ (i := 5) (N := some 64) (v := ?_) (a' := ?_) #[true, true, true, true, true, true, false, false, false, false, false, false, false] rfl rfl (take_ofW HT_.out HW_.out (by kernel_rfl)) (fun _ _ _ h => h) (Or.inl ⟨by rfl, ?_⟩) hHeld ?_ ?_
                        rotate_left
                        · rintro w' ⟨s0, s1, s2, s3, s4, s5, s6⟩
                          go_simp
                          with_reducible rfl
                        rotate_left
                        · simp only [Act.put, List.setIfInBounds_toArray, List.set_cons_zero, List.set_cons_succ, i64_w, i32_w]
                          rfl
                        refine join_ (σ := Value × Value × Value × Nat) 2 #[true, true, true, true, true, true, true, true, true, true, true, false, false] (fun s_ => [(65, .tuple #[.agg #[s_.1, .bool t484, .int .i64 t485, s_.2.1], s_.2.2.1]), (10, .pointer (some ⟨s_.2.2.2, 0, none⟩)), (58, .tuple #[.agg #[s_.1, .bool t484, .int .i64 t485, s_.2.1], s_.2.2.1]), (66, .agg #[s_.1, .bool t484, .int .i64 t485, s_.2.1]), (67, s_.2.2.1)]) (fun s_ w' => (w'.cell? ⟨gb464, 0, none⟩ = some (.slice Ao70 x465000_1.length co70) ∧ w'.cell? ⟨gb464, 1, none⟩ = some (.bool x465001_1) ∧ w'.cell? ⟨gb464, 2, none⟩ = some (.int .i64 x465002_1) ∧ w'.cell? ⟨gb464, 3, none⟩ = some (.slice Ao71 x465003_1.length co71) ∧ w'.cell? (ad465.add ((x7_1).toNat * 3)) = some (.int .i64 ((rd_T29 l0 x7_1).f0)) ∧ w'.cell? ⟨(ad465.add ((x7_1).toNat * 3)).block, (ad465.add ((x7_1).toNat * 3)).off + 1, none⟩ = some (.int .i64 ((rd_T29 l0 x7_1).f1)) ∧ w'.cell? ⟨(ad465.add ((x7_1).toNat * 3)).block, (ad465.add ((x7_1).toNat * 3)).off + 2, none⟩ = some (.slice A480_2 ((rd_T29 l0 x7_1).f2).length c480_2)) ∧ (Kd.V (Kd.int .u8) 5 w' w.heap.size (fun k_ => k_ ≠ gb464 ∧ k_ ≠ s_.2.2.2) s_.1 t481) ∧ (Kd.V (Kd.int .u8) 5 w' w.heap.size (fun k_ => k_ ≠ gb464 ∧ k_ ≠ s_.2.2.2) s_.2.1 t486) ∧ (Kd.V (Kd.int .u8) 5 w' w.heap.size (fun k_ => k_ ≠ gb464 ∧ k_ ≠ s_.2.2.2) s_.2.2.1 t489) ∧ (Kd.V (Kd.int .u8) 5 w' w.heap.size (fun k_ => k_ ≠ gb464 ∧ k_ ≠ s_.2.2.2) (.slice Ao70 x465000_1.length co70) x465000_1) ∧ (Kd.V (Kd.int .u8) 5 w' w.heap.size (fun k_ => k_ ≠ gb464 ∧ k_ ≠ s_.2.2.2) (.slice Ao71 x465003_1.length co71) x465003_1) ∧ (w'.heap[gb464]? = some (.cells #[.slice Ao70 x465000_1.length co70, .bool x465001_1, .int .i64 x465002_1, .slice Ao71 x465003_1.length co71] 27 (0, 0))) ∧ (w'.heap[s_.2.2.2]? = some (.cells #[.slice none 0 0, .bool false, .int .i64 0, .slice none 0 0] 27 (0, 0))) ∧ (w.heap.size ≤ s_.2.2.2) ∧ (w.heap.size ≤ s_.2.2.2) ∧ (gb464 ≠ s_.2.2.2) ∧ (s_.2.2.2 ≠ gb464) ∧ (Below w.heap.size w w')) ?_ ?_
                        rotate_left
                        · intro hCont
                          refine two_ (i := 6) (j := 10) (Ni := some 65) (Nj := some 10) #[true, true, true, true, true, true, true, false, false, false, false, false, false] #[true, true, true, true, true, true, false, false, false, false, true, false, false] rfl rfl rfl rfl (two_of HT_.out (by kernel_rfl)) (by decide) (by decide) (fun K hK => ?_) (fun K hK => ?_)
                          · skip
                            refine gs Try.func17 (by kernel_rfl) rfl #[.agg #[.slice Ao70 x465000_1.length co70, .bool x465001_1, .int .i64 x465002_1, .slice Ao71 x465003_1.length co71], .int .i64 ((rd_T29 l0 x7_1).f1)] (by rfl) rfl rfl ?_
                            with_reducible refine (wire_Read.calls (fun k_ => k_ ≠ gb464) _ _ x465000_1 x465001_1 x465002_1 (fun k_ => k_ ≠ gb464) _ _ x465003_1 ((rd_T29 l0 x7_1).f1) t481 t484 t485 t486 t489 _ ?side1 ?side2 A64.out).mono ?_
                            (case side1 => exact HO_465000.out)
                            (case side2 => exact HO_465003.out)
                            rintro e w73 ⟨v482, v487, v490, rfl, ho0, ho1, ho2, hb⟩
                            refine ⟨_, rfl, ?_⟩
                            replace HO_465000 := vB HO_465000 hb
                            replace HO_465003 := vB HO_465003 hb
                            have HO483 := Aside0.mk (Kd.V_lower (Kd.V_mono (ok' := fun k_ => k_ ≠ gb464) ho0 (fun k_ hk_ => oe hk_ (fun h => h) (fun h => h) (Kd.freshB (kk BK464) k_))) (below_size (bb HB)))
                            have HO488 := Aside0.mk (Kd.V_lower (Kd.V_mono (ok' := fun k_ => k_ ≠ gb464) ho1 (fun k_ hk_ => oe hk_ (fun h => h) (fun h => h) (Kd.freshB (kk BK464) k_))) (below_size (bb HB)))
                            have HO491 := Aside0.mk (Kd.V_lower (Kd.V_mono (ok' := fun k_ => k_ ≠ gb464) ho2 (fun k_ hk_ => oe hk_ (fun h => h) (fun h => h) (Kd.freshB (kk BK464) k_))) (below_size (bb HB)))
                            replace BK464 := kB BK464 hb
                            replace HB := hB HB hb
                            (try clear hb)
                            (try clear hb2)
                            (try clear hk)
                            (try clear hi)
                            (try clear ho0)
                            (try clear ho1)
                            (try clear ho2)
                            refine hK.out _ _ ⟨cx BK464 0, cx BK464 1, cx BK464 2, cx BK464 3, ((HB.out.cell (World.block_lt_of_cell? w _ hw480_0)).trans hw480_0), ((HB.out.cell (World.block_lt_of_cell? w _ hw480_1)).trans hw480_1), ((HB.out.cell (World.block_lt_of_cell? w _ hw480_2)).trans hw480_2)⟩ (fun hHeld => ?_)
                            clear hK K
                            refine norm_ (a' := ?_) ?_ ?_
                            rotate_left
                            · show Act.put _ (some 65) _ = _
                              simp only [Act.put, List.setIfInBounds_toArray, List.set_cons_zero, List.set_cons_succ, i64_w, i32_w]
                              rfl
                            refine pure_ (i := 7) (N := some 58) (v := ?_) (a' := ?_) #[true, true, true, true, true, true, true, true, false, false, false, false, false] rfl rfl (any_of HT_.out (by kernel_rfl)) (fun _ _ _ h => h) (Or.inl ⟨by rfl, ?_⟩) ?_ ?_
                            rotate_left
                            · intro w'
                              go_simp
                              with_reducible rfl
                            rotate_left
                            · simp only [Act.put, List.setIfInBounds_toArray, List.set_cons_zero, List.set_cons_succ, i64_w, i32_w]
                              rfl
                            refine pure_ (i := 8) (N := some 66) (v := ?_) (a' := ?_) #[true, true, true, true, true, true, true, true, true, false, false, false, false] rfl rfl (any_of HT_.out (by kernel_rfl)) (fun _ _ _ h => h) (Or.inl ⟨by rfl, ?_⟩) ?_ ?_
                            rotate_left
                            · intro w'
                              go_simp
                              with_reducible rfl
                            rotate_left
                            · simp only [Act.put, List.setIfInBounds_toArray, List.set_cons_zero, List.set_cons_succ, i64_w, i32_w]
                              rfl
                            refine pure_ (i := 9) (N := some 67) (v := ?_) (a' := ?_) #[true, true, true, true, true, true, true, true, true, true, false, false, false] rfl rfl (any_of HT_.out (by kernel_rfl)) (fun _ _ _ h => h) (Or.inl ⟨by rfl, ?_⟩) ?_ ?_
                            rotate_left
                            · intro w'
                              go_simp
                              with_reducible rfl
                            rotate_left
                            · simp only [Act.put, List.setIfInBounds_toArray, List.set_cons_zero, List.set_cons_succ, i64_w, i32_w]
                              rfl
                            refine one_ (i := 10) (N := some 10) #[true, true, true, true, true, true, true, true, true, true, true, false, false] rfl rfl (one_of HT_.out (by kernel_rfl)) (by decide) (fun K hK => ?_)
                            refine box_step ?hg (N := 10) ?hd (cs := #[.slice none 0 0, .bool false, .int .i64 0, .slice none 0 0]) (t := 27) ?hr ?_; (case hd => rfl); (case hg => rfl); (case hr => first | (go_simp; done) | (go_simp; rfl))
                            intro gb492 hg w74 hbox hb
                            replace HO_465000 := vE HO_465000 hg hb
                            replace HO_465003 := vE HO_465003 hg hb
                            replace HO483 := vE HO483 hg hb
                            replace HO488 := vE HO488 hg hb
                            replace HO491 := vE HO491 hg hb
                            have BK492 := Aside0.mk hbox
                            have GW492 := gE HB hg
                            have GE492 := gE HB hg
                            replace HB := hB HB hb
                            have NB464_492 := nL BK464 hg
                            have NB492_464 := nG BK464 hg
                            replace BK464 := kB BK464 hb
                            clear hb hbox hg
                            refine hK.out _ _ ⟨cx BK464 0, cx BK464 1, cx BK464 2, cx BK464 3, ((HB.out.cell (World.block_lt_of_cell? w _ hw480_0)).trans hw480_0), ((HB.out.cell (World.block_lt_of_cell? w _ hw480_1)).trans hw480_1), ((HB.out.cell (World.block_lt_of_cell? w _ hw480_2)).trans hw480_2)⟩ (fun hHeld => ?_)
                            clear hK K
                            refine norm_ (a' := ?_) ?_ ?_
                            rotate_left
                            · show Act.put _ (some 10) _ = _
                              simp only [Act.put, List.setIfInBounds_toArray, List.set_cons_zero, List.set_cons_succ, i64_w, i32_w]
                              rfl
                            exact norm_ (by simp only [putAll, Act.put, List.setIfInBounds_toArray, List.set_cons_zero, List.set_cons_succ]) (hCont (v482, v487, v490, gb492) _ ⟨hHeld, (vM HO483), (vM HO488), (vM HO491), (vM HO_465000), (vM HO_465003), (kk BK464), (kk BK492), GW492.out, GE492.out, NB464_492.out, NB492_464.out, (bb HB)⟩)
                          · skip
                            refine box_step ?hg (N := 10) ?hd (cs := #[.slice none 0 0, .bool false, .int .i64 0, .slice none 0 0]) (t := 27) ?hr ?_; (case hd => rfl); (case hg => rfl); (case hr => first | (go_simp; done) | (go_simp; rfl))
                            intro gb492 hg w73 hbox hb
                            replace HO_465000 := vE HO_465000 hg hb
                            replace HO_465003 := vE HO_465003 hg hb
                            have BK492 := Aside0.mk hbox
                            have GW492 := gE HB hg
                            have GE492 := gE HB hg
                            replace HB := hB HB hb
                            have NB464_492 := nL BK464 hg
                            have NB492_464 := nG BK464 hg
                            replace BK464 := kB BK464 hb
                            clear hb hbox hg
                            refine hK.out _ _ ⟨cx BK464 0, cx BK464 1, cx BK464 2, cx BK464 3, ((HB.out.cell (World.block_lt_of_cell? w _ hw480_0)).trans hw480_0), ((HB.out.cell (World.block_lt_of_cell? w _ hw480_1)).trans hw480_1), ((HB.out.cell (World.block_lt_of_cell? w _ hw480_2)).trans hw480_2)⟩ (fun hHeld => ?_)
                            clear hK K
                            refine norm_ (a' := ?_) ?_ ?_
                            rotate_left
                            · show Act.put _ (some 10) _ = _
                              simp only [Act.put, List.setIfInBounds_toArray, List.set_cons_zero, List.set_cons_succ, i64_w, i32_w]
                              rfl
                            refine one_ (i := 6) (N := some 65) #[true, true, true, true, true, true, true, false, false, false, true, false, false] rfl rfl (one_of HT_.out (by kernel_rfl)) (by decide) (fun K hK => ?_)
                            refine gs Try.func17 (by kernel_rfl) rfl #[.agg #[.slice Ao70 x465000_1.length co70, .bool x465001_1, .int .i64 x465002_1, .slice Ao71 x465003_1.length co71], .int .i64 ((rd_T29 l0 x7_1).f1)] (by rfl) rfl rfl ?_
                            with_reducible refine (wire_Read.calls (fun k_ => (k_ ≠ gb464 ∧ k_ ≠ gb492)) _ _ x465000_1 x465001_1 x465002_1 (fun k_ => (k_ ≠ gb464 ∧ k_ ≠ gb492)) _ _ x465003_1 ((rd_T29 l0 x7_1).f1) t481 t484 t485 t486 t489 _ ?side1 ?side2 A64.out).mono ?_
                            (case side1 => exact HO_465000.out)
                            (case side2 => exact HO_465003.out)
                            rintro e w74 ⟨v482, v487, v490, rfl, ho0, ho1, ho2, hb⟩
                            refine ⟨_, rfl, ?_⟩
                            replace HO_465000 := vB HO_465000 hb
                            replace HO_465003 := vB HO_465003 hb
                            have HO483 := Aside0.mk (Kd.V_lower (Kd.V_mono (ok' := fun k_ => k_ ≠ gb464 ∧ k_ ≠ gb492) ho0 (fun k_ hk_ => ⟨oe hk_ (fun h => h.1) (fun h => h.1) (Kd.freshB (kk BK464) k_), oe hk_ (fun h => h.2) (fun h => h.2) (Kd.freshB (kk BK492) k_)⟩)) (below_size (bb HB)))
                            have HO488 := Aside0.mk (Kd.V_lower (Kd.V_mono (ok' := fun k_ => k_ ≠ gb464 ∧ k_ ≠ gb492) ho1 (fun k_ hk_ => ⟨oe hk_ (fun h => h.1) (fun h => h.1) (Kd.freshB (kk BK464) k_), oe hk_ (fun h => h.2) (fun h => h.2) (Kd.freshB (kk BK492) k_)⟩)) (below_size (bb HB)))
                            have HO491 := Aside0.mk (Kd.V_lower (Kd.V_mono (ok' := fun k_ => k_ ≠ gb464 ∧ k_ ≠ gb492) ho2 (fun k_ hk_ => ⟨oe hk_ (fun h => h.1) (fun h => h.1) (Kd.freshB (kk BK464) k_), oe hk_ (fun h => h.2) (fun h => h.2) (Kd.freshB (kk BK492) k_)⟩)) (below_size (bb HB)))
                            replace BK464 := kB BK464 hb
                            replace BK492 := kB BK492 hb
                            replace HB := hB HB hb
                            (try clear hb)
                            (try clear hb2)
                            (try clear hk)
                            (try clear hi)
                            (try clear ho0)
                            (try clear ho1)
                            (try clear ho2)
                            refine hK.out _ _ ⟨cx BK464 0, cx BK464 1, cx BK464 2, cx BK464 3, ((HB.out.cell (World.block_lt_of_cell? w _ hw480_0)).trans hw480_0), ((HB.out.cell (World.block_lt_of_cell? w _ hw480_1)).trans hw480_1), ((HB.out.cell (World.block_lt_of_cell? w _ hw480_2)).trans hw480_2)⟩ (fun hHeld => ?_)
                            clear hK K
                            refine norm_ (a' := ?_) ?_ ?_
                            rotate_left
                            · show Act.put _ (some 65) _ = _
                              simp only [Act.put, List.setIfInBounds_toArray, List.set_cons_zero, List.set_cons_succ, i64_w, i32_w]
                              rfl
                            refine pure_ (i := 7) (N := some 58) (v := ?_) (a' := ?_) #[true, true, true, true, true, true, true, true, false, false, true, false, false] rfl rfl (any_of HT_.out (by kernel_rfl)) (fun _ _ _ h => h) (Or.inl ⟨by rfl, ?_⟩) ?_ ?_
                            rotate_left
                            · intro w'
                              go_simp
                              with_reducible rfl
                            rotate_left
                            · simp only [Act.put, List.setIfInBounds_toArray, List.set_cons_zero, List.set_cons_succ, i64_w, i32_w]
                              rfl
                            refine pure_ (i := 8) (N := some 66) (v := ?_) (a' := ?_) #[true, true, true, true, true, true, true, true, true, false, true, false, false] rfl rfl (any_of HT_.out (by kernel_rfl)) (fun _ _ _ h => h) (Or.inl ⟨by rfl, ?_⟩) ?_ ?_
                            rotate_left
                            · intro w'
                              go_simp
                              with_reducible rfl
                            rotate_left
                            · simp only [Act.put, List.setIfInBounds_toArray, List.set_cons_zero, List.set_cons_succ, i64_w, i32_w]
                              rfl
                            refine pure_ (i := 9) (N := some 67) (v := ?_) (a' := ?_) #[true, true, true, true, true, true, true, true, true, true, true, false, false] rfl rfl (any_of HT_.out (by kernel_rfl)) (fun _ _ _ h => h) (Or.inl ⟨by rfl, ?_⟩) ?_ ?_
                            rotate_left
                            · intro w'
                              go_simp
                              with_reducible rfl
                            rotate_left
                            · simp only [Act.put, List.setIfInBounds_toArray, List.set_cons_zero, List.set_cons_succ, i64_w, i32_w]
                              rfl
                            exact norm_ (by simp only [putAll, Act.put, List.setIfInBounds_toArray, List.set_cons_zero, List.set_cons_succ]) (hCont (v482, v487, v490, gb492) _ ⟨hHeld, (vM HO483), (vM HO488), (vM HO491), (vM HO_465000), (vM HO_465003), (kk BK464), (kk BK492), GW492.out, GE492.out, NB464_492.out, NB492_464.out, (bb HB)⟩)
                        clear HO_465000 HO_465003 BK464 HB
                        rintro ⟨v482, v487, v490, gb492⟩ w75 hS_
                        dsimp only at hS_
                        obtain ⟨hHeld, h0_, h1_, h2_, h3_, h4_, h5_, h6_, h7_, h8_, h9_, h10_, h11_⟩ := hS_
                        have HO483 := Aside0.mk h0_
                        have HO488 := Aside0.mk h1_
                        have HO491 := Aside0.mk h2_
                        have HO_465000 := Aside0.mk h3_
                        have HO_465003 := Aside0.mk h4_
                        have BK464 := Aside0.mk h5_
                        have BK492 := Aside0.mk h6_
                        have GW492 := Aside0.mk h7_
                        have GE492 := Aside0.mk h8_
                        have NB464_492 := Aside0.mk h9_
                        have NB492_464 := Aside0.mk h10_
                        have HB := Aside0.mk h11_
                        clear h0_ h1_ h2_ h3_ h4_ h5_ h6_ h7_ h8_ h9_ h10_ h11_
                        obtain ⟨Ao76, co76, eo76⟩ := Kd.V_slice HO483.out
                        (first | subst eo76 | (injection eo76 with f1_ f2_ f3_; have f4_ := f1_.symm; have f5_ := f3_.symm; clear f1_ f2_ f3_; subst f4_; subst f5_))
                        obtain ⟨Ao80, co80, eo80⟩ := Kd.V_slice HO488.out
                        (first | subst eo80 | (injection eo80 with f1_ f2_ f3_; have f4_ := f1_.symm; have f5_ := f3_.symm; clear f1_ f2_ f3_; subst f4_; subst f5_))
                        refine norm_ (a' := ?_) ?_ ?_
                        rotate_left
                        · simp only [putAll, Act.put, List.setIfInBounds_toArray, List.set_cons_zero, List.set_cons_succ]
                          rfl
                        refine one_ (i := 11) (N := none) #[true, true, true, true, true, true, true, true, true, true, true, true, false] rfl rfl (one_of HT_.out (by kernel_rfl)) (by decide) (fun K hK => ?_)
                        have hs77 : w75.cell? ⟨gb492, 0, none⟩ = some (.slice none 0 0) := cx BK492 0
                        have hfs77 := blk_frozen BK492.out 0
                        have hns77_0 := NB464_492.out
                        have hms77_0 := NB492_464.out
                        have hs78 : w75.cell? ⟨gb492, 1, none⟩ = some (.bool false) := cx BK492 1
                        have hfs78 := blk_frozen BK492.out 1
                        have hns78_0 := NB464_492.out
                        have hms78_0 := NB492_464.out
                        have hs79 : w75.cell? ⟨gb492, 2, none⟩ = some (.int .i64 0) := cx BK492 2
                        have hfs79 := blk_frozen BK492.out 2
                        have hns79_0 := NB464_492.out
                        have hms79_0 := NB492_464.out
                        have hs81 : w75.cell? ⟨gb492, 3, none⟩ = some (.slice none 0 0) := cx BK492 3
                        have hfs81 := blk_frozen BK492.out 3
                        have hns81_0 := NB464_492.out
                        have hms81_0 := NB492_464.out
                        refine skip_ (w1 := ?_) (by rfl) rfl ?_ ?_
                        rotate_left
                        · go_simp
                          rfl
                        refine hK.out _ _ ⟨((cell_far (p := ⟨gb492, _, none⟩) NB464_492.out _).trans (((cell_far (p := ⟨gb492, _, none⟩) NB464_492.out _).trans (((cell_far (p := ⟨gb492, _, none⟩) NB464_492.out _).trans (((cell_far (p := ⟨gb492, _, none⟩) NB464_492.out _).trans (hHeld.1)))))))), ((cell_far (p := ⟨gb492, _, none⟩) NB464_492.out _).trans (((cell_far (p := ⟨gb492, _, none⟩) NB464_492.out _).trans (((cell_far (p := ⟨gb492, _, none⟩) NB464_492.out _).trans (((cell_far (p := ⟨gb492, _, none⟩) NB464_492.out _).trans (hHeld.2.1)))))))), ((cell_far (p := ⟨gb492, _, none⟩) NB464_492.out _).trans (((cell_far (p := ⟨gb492, _, none⟩) NB464_492.out _).trans (((cell_far (p := ⟨gb492, _, none⟩) NB464_492.out _).trans (((cell_far (p := ⟨gb492, _, none⟩) NB464_492.out _).trans (hHeld.2.2.1)))))))), ((cell_far (p := ⟨gb492, _, none⟩) NB464_492.out _).trans (((cell_far (p := ⟨gb492, _, none⟩) NB464_492.out _).trans (((cell_far (p := ⟨gb492, _, none⟩) NB464_492.out _).trans (((cell_far (p := ⟨gb492, _, none⟩) NB464_492.out _).trans (hHeld.2.2.2.1)))))))), ((cell_far (p := ⟨gb492, _, none⟩) (by first | exact Nat.ne_of_lt (Nat.lt_of_lt_of_le (by have := World.block_lt_of_cell? _ _ hw480_0; first | rwa [add_block] at this | exact this) GW492.out) | (rw [add_block]; exact Nat.ne_of_lt (Nat.lt_of_lt_of_le (by have := World.block_lt_of_cell? _ _ hw480_0; first | rwa [add_block] at this | exact this) GW492.out)) | (show (Addr.add _ _).block ≠ _; rw [add_block]; exact Nat.ne_of_lt (Nat.lt_of_lt_of_le (by have := World.block_lt_of_cell? _ _ hw480_0; first | rwa [add_block] at this | exact this) GW492.out)) | (dsimp only; exact Nat.ne_of_lt (Nat.lt_of_lt_of_le (by have := World.block_lt_of_cell? _ _ hw480_0; first | rwa [add_block] at this | exact this) GW492.out))) _).trans (((cell_far (p := ⟨gb492, _, none⟩) (by first | exact Nat.ne_of_lt (Nat.lt_of_lt_of_le (by have := World.block_lt_of_cell? _ _ hw480_0; first | rwa [add_block] at this | exact this) GW492.out) | (rw [add_block]; exact Nat.ne_of_lt (Nat.lt_of_lt_of_le (by have := World.block_lt_of_cell? _ _ hw480_0; first | rwa [add_block] at this | exact this) GW492.out)) | (show (Addr.add _ _).block ≠ _; rw [add_block]; exact Nat.ne_of_lt (Nat.lt_of_lt_of_le (by have := World.block_lt_of_cell? _ _ hw480_0; first | rwa [add_block] at this | exact this) GW492.out)) | (dsimp only; exact Nat.ne_of_lt (Nat.lt_of_lt_of_le (by have := World.block_lt_of_cell? _ _ hw480_0; first | rwa [add_block] at this | exact this) GW492.out))) _).trans (((cell_far (p := ⟨gb492, _, none⟩) (by first | exact Nat.ne_of_lt (Nat.lt_of_lt_of_le (by have := World.block_lt_of_cell? _ _ hw480_0; first | rwa [add_block] at this | exact this) GW492.out) | (rw [add_block]; exact Nat.ne_of_lt (Nat.lt_of_lt_of_le (by have := World.block_lt_of_cell? _ _ hw480_0; first | rwa [add_block] at this | exact this) GW492.out)) | (show (Addr.add _ _).block ≠ _; rw [add_block]; exact Nat.ne_of_lt (Nat.lt_of_lt_of_le (by have := World.block_lt_of_cell? _ _ hw480_0; first | rwa [add_block] at this | exact this) GW492.out)) | (dsimp only; exact Nat.ne_of_lt (Nat.lt_of_lt_of_le (by have := World.block_lt_of_cell? _ _ hw480_0; first | rwa [add_block] at this | exact this) GW492.out))) _).trans (((cell_far (p := ⟨gb492, _, none⟩) (by first | exact Nat.ne_of_lt (Nat.lt_of_lt_of_le (by have := World.block_lt_of_cell? _ _ hw480_0; first | rwa [add_block] at this | exact this) GW492.out) | (rw [add_block]; exact Nat.ne_of_lt (Nat.lt_of_lt_of_le (by have := World.block_lt_of_cell? _ _ hw480_0; first | rwa [add_block] at this | exact this) GW492.out)) | (show (Addr.add _ _).block ≠ _; rw [add_block]; exact Nat.ne_of_lt (Nat.lt_of_lt_of_le (by have := World.block_lt_of_cell? _ _ hw480_0; first | rwa [add_block] at this | exact this) GW492.out)) | (dsimp only; exact Nat.ne_of_lt (Nat.lt_of_lt_of_le (by have := World.block_lt_of_cell? _ _ hw480_0; first | rwa [add_block] at this | exact this) GW492.out))) _).trans (hHeld.2.2.2.2.1)))))))), ((cell_far (p := ⟨gb492, _, none⟩) (by first | exact Nat.ne_of_lt (Nat.lt_of_lt_of_le (by have := World.block_lt_of_cell? _ _ hw480_1; first | rwa [add_block] at this | exact this) GW492.out) | (rw [add_block]; exact Nat.ne_of_lt (Nat.lt_of_lt_of_le (by have := World.block_lt_of_cell? _ _ hw480_1; first | rwa [add_block] at this | exact this) GW492.out)) | (show (Addr.add _ _).block ≠ _; rw [add_block]; exact Nat.ne_of_lt (Nat.lt_of_lt_of_le (by have := World.block_lt_of_cell? _ _ hw480_1; first | rwa [add_block] at this | exact this) GW492.out)) | (dsimp only; exact Nat.ne_of_lt (Nat.lt_of_lt_of_le (by have := World.block_lt_of_cell? _ _ hw480_1; first | rwa [add_block] at this | exact this) GW492.out))) _).trans (((cell_far (p := ⟨gb492, _, none⟩) (by first | exact Nat.ne_of_lt (Nat.lt_of_lt_of_le (by have := World.block_lt_of_cell? _ _ hw480_1; first | rwa [add_block] at this | exact this) GW492.out) | (rw [add_block]; exact Nat.ne_of_lt (Nat.lt_of_lt_of_le (by have := World.block_lt_of_cell? _ _ hw480_1; first | rwa [add_block] at this | exact this) GW492.out)) | (show (Addr.add _ _).block ≠ _; rw [add_block]; exact Nat.ne_of_lt (Nat.lt_of_lt_of_le (by have := World.block_lt_of_cell? _ _ hw480_1; first | rwa [add_block] at this | exact this) GW492.out)) | (dsimp only; exact Nat.ne_of_lt (Nat.lt_of_lt_of_le (by have := World.block_lt_of_cell? _ _ hw480_1; first | rwa [add_block] at this | exact this) GW492.out))) _).trans (((cell_far (p := ⟨gb492, _, none⟩) (by first | exact Nat.ne_of_lt (Nat.lt_of_lt_of_le (by have := World.block_lt_of_cell? _ _ hw480_1; first | rwa [add_block] at this | exact this) GW492.out) | (rw [add_block]; exact Nat.ne_of_lt (Nat.lt_of_lt_of_le (by have := World.block_lt_of_cell? _ _ hw480_1; first | rwa [add_block] at this | exact this) GW492.out)) | (show (Addr.add _ _).block ≠ _; rw [add_block]; exact Nat.ne_of_lt (Nat.lt_of_lt_of_le (by have := World.block_lt_of_cell? _ _ hw480_1; first | rwa [add_block] at this | exact this) GW492.out)) | (dsimp only; exact Nat.ne_of_lt (Nat.lt_of_lt_of_le (by have := World.block_lt_of_cell? _ _ hw480_1; first | rwa [add_block] at this | exact this) GW492.out))) _).trans (((cell_far (p := ⟨gb492, _, none⟩) (by first | exact Nat.ne_of_lt (Nat.lt_of_lt_of_le (by have := World.block_lt_of_cell? _ _ hw480_1; first | rwa [add_block] at this | exact this) GW492.out) | (rw [add_block]; exact Nat.ne_of_lt (Nat.lt_of_lt_of_le (by have := World.block_lt_of_cell? _ _ hw480_1; first | rwa [add_block] at this | exact this) GW492.out)) | (show (Addr.add _ _).block ≠ _; rw [add_block]; exact Nat.ne_of_lt (Nat.lt_of_lt_of_le (by have := World.block_lt_of_cell? _ _ hw480_1; first | rwa [add_block] at this | exact this) GW492.out)) | (dsimp only; exact Nat.ne_of_lt (Nat.lt_of_lt_of_le (by have := World.block_lt_of_cell? _ _ hw480_1; first | rwa [add_block] at this | exact this) GW492.out))) _).trans (hHeld.2.2.2.2.2.1)))))))), ((cell_far (p := ⟨gb492, _, none⟩) (by first | exact Nat.ne_of_lt (Nat.lt_of_lt_of_le (by have := World.block_lt_of_cell? _ _ hw480_2; first | rwa [add_block] at this | exact this) GW492.out) | (rw [add_block]; exact Nat.ne_of_lt (Nat.lt_of_lt_of_le (by have := World.block_lt_of_cell? _ _ hw480_2; first | rwa [add_block] at this | exact this) GW492.out)) | (show (Addr.add _ _).block ≠ _; rw [add_block]; exact Nat.ne_of_lt (Nat.lt_of_lt_of_le (by have := World.block_lt_of_cell? _ _ hw480_2; first | rwa [add_block] at this | exact this) GW492.out)) | (dsimp only; exact Nat.ne_of_lt (Nat.lt_of_lt_of_le (by have := World.block_lt_of_cell? _ _ hw480_2; first | rwa [add_block] at this | exact this) GW492.out))) _).trans (((cell_far (p := ⟨gb492, _, none⟩) (by first | exact Nat.ne_of_lt (Nat.lt_of_lt_of_le (by have := World.block_lt_of_cell? _ _ hw480_2; first | rwa [add_block] at this | exact this) GW492.out) | (rw [add_block]; exact Nat.ne_of_lt (Nat.lt_of_lt_of_le (by have := World.block_lt_of_cell? _ _ hw480_2; first | rwa [add_block] at this | exact this) GW492.out)) | (show (Addr.add _ _).block ≠ _; rw [add_block]; exact Nat.ne_of_lt (Nat.lt_of_lt_of_le (by have := World.block_lt_of_cell? _ _ hw480_2; first | rwa [add_block] at this | exact this) GW492.out)) | (dsimp only; exact Nat.ne_of_lt (Nat.lt_of_lt_of_le (by have := World.block_lt_of_cell? _ _ hw480_2; first | rwa [add_block] at this | exact this) GW492.out))) _).trans (((cell_far (p := ⟨gb492, _, none⟩) (by first | exact Nat.ne_of_lt (Nat.lt_of_lt_of_le (by have := World.block_lt_of_cell? _ _ hw480_2; first | rwa [add_block] at this | exact this) GW492.out) | (rw [add_block]; exact Nat.ne_of_lt (Nat.lt_of_lt_of_le (by have := World.block_lt_of_cell? _ _ hw480_2; first | rwa [add_block] at this | exact this) GW492.out)) | (show (Addr.add _ _).block ≠ _; rw [add_block]; exact Nat.ne_of_lt (Nat.lt_of_lt_of_le (by have := World.block_lt_of_cell? _ _ hw480_2; first | rwa [add_block] at this | exact this) GW492.out)) | (dsimp only; exact Nat.ne_of_lt (Nat.lt_of_lt_of_le (by have := World.block_lt_of_cell? _ _ hw480_2; first | rwa [add_block] at this | exact this) GW492.out))) _).trans (((cell_far (p := ⟨gb492, _, none⟩) (by first | exact Nat.ne_of_lt (Nat.lt_of_lt_of_le (by have := World.block_lt_of_cell? _ _ hw480_2; first | rwa [add_block] at this | exact this) GW492.out) | (rw [add_block]; exact Nat.ne_of_lt (Nat.lt_of_lt_of_le (by have := World.block_lt_of_cell? _ _ hw480_2; first | rwa [add_block] at this | exact this) GW492.out)) | (show (Addr.add _ _).block ≠ _; rw [add_block]; exact Nat.ne_of_lt (Nat.lt_of_lt_of_le (by have := World.block_lt_of_cell? _ _ hw480_2; first | rwa [add_block] at this | exact this) GW492.out)) | (dsimp only; exact Nat.ne_of_lt (Nat.lt_of_lt_of_le (by have := World.block_lt_of_cell? _ _ hw480_2; first | rwa [add_block] at this | exact this) GW492.out))) _).trans (hHeld.2.2.2.2.2.2))))))))⟩ (fun hHeld => ?_)
                        clear hK K
                        refine pure_ (i := 12) (N := some 11) (v := ?_) (a' := ?_) #[true, true, true, true, true, true, true, true, true, true, true, true, true] rfl rfl (any_of HT_.out (by kernel_rfl)) (fun _ _ _ h => h) (Or.inl ⟨by rfl, ?_⟩) ?_ ?_
                        rotate_left
                        · intro w'
                          go_simp
                          with_reducible rfl
                        rotate_left
                        · simp only [Act.put, List.setIfInBounds_toArray, List.set_cons_zero, List.set_cons_succ, i64_w, i32_w]
                          rfl
                        refine done_ (done_of HT_.out (by kernel_rfl)) ?_
                        obtain ⟨w82, hw⟩ : ∃ w_, w_ = ((((w75.setCell ⟨gb492, 0, none⟩ (.slice Ao76 t481.length co76)).setCell ⟨gb492, 1, none⟩ (.bool t484)).setCell ⟨gb492, 2, none⟩ (.int .i64 t485)).setCell ⟨gb492, 3, none⟩ (.slice Ao80 t486.length co80)) := ⟨_, rfl⟩
                        rw [← hw]
                        replace HO_465000 := vS (fun k_ => k_ ≠ gb464 ∧ k_ ≠ gb492) HO_465000 hw
                        replace HO_465003 := vS (fun k_ => k_ ≠ gb464 ∧ k_ ≠ gb492) HO_465003 hw
                        replace HO483 := vS (fun k_ => k_ ≠ gb464 ∧ k_ ≠ gb492) HO483 hw
                        replace HO488 := vS (fun k_ => k_ ≠ gb464 ∧ k_ ≠ gb492) HO488 hw
                        replace HO491 := vS (fun k_ => k_ ≠ gb464 ∧ k_ ≠ gb492) HO491 hw
                        replace BK464 := kS BK464 hw
                        replace BK492 := kP4 BK492 hw
                        replace HB := hS HB hw
                        clear hw
                        have hnb83 := NB492_464.out
                        have hnc83 := NB464_492.out
                        obtain ⟨hcz84_0, hcz84_1, hcz84_2, hcz84_3, hfz84_0, hfz84_1, hfz84_2, hfz84_3⟩ := bc4 BK492
                        obtain ⟨hcz85_0, hcz85_1, hcz85_2, hcz85_3, hfz85_0, hfz85_1, hfz85_2, hfz85_3⟩ := bc4 BK464
                        try go_wp2_with (first | ((with_reducible refine gate_store (t := 27) (p := 4) rfl ?_); refine store_event (t := 27) (p := 4) (v := ?vo_w86) (w1 := ((((w82.setCell ⟨gb464, 0, none⟩ (.slice Ao76 t481.length co76)).setCell ⟨gb464, 1, none⟩ (.bool t484)).setCell ⟨gb464, 2, none⟩ (.int .i64 t485)).setCell ⟨gb464, 3, none⟩ (.slice Ao80 t486.length co80))) ?hg ?ho ?hn ?hr ?_; (case ho => rfl); (case hg => rfl); (case hn => rfl); (case hr => first | (go_simp; done) | (go_simp; rfl)); intro w86 hw; replace HO_465000 := vS (fun k_ => k_ ≠ gb464 ∧ k_ ≠ gb492) HO_465000 hw; replace HO_465003 := vS (fun k_ => k_ ≠ gb464 ∧ k_ ≠ gb492) HO_465003 hw; replace HO483 := vS (fun k_ => k_ ≠ gb464 ∧ k_ ≠ gb492) HO483 hw; replace HO488 := vS (fun k_ => k_ ≠ gb464 ∧ k_ ≠ gb492) HO488 hw; replace HO491 := vS (fun k_ => k_ ≠ gb464 ∧ k_ ≠ gb492) HO491 hw; replace BK464 := kP4 BK464 hw; replace BK492 := kS BK492 hw; replace HB : Aside0 (Below w.heap.size w w86) := ⟨(by rw [hw]; exact (bb HB))⟩; clear hw; have hcv87 := v_string (P := Try.prog) Try.underlying25 Try.underlying5 Try.underlying9 HO491.out; obtain ⟨hcz88_0, hcz88_1, hcz88_2, hcz88_3, hfz88_0, hfz88_1, hfz88_2, hfz88_3⟩ := bc4 BK464; have hcv89 := v_string (P := Try.prog) Try.underlying25 Try.underlying5 Try.underlying9 HO483.out) | (go_at_call 15; (with_reducible refine (wire_Sane.calls _ _ t481 t484 t485 _ _ t486 true _ ?side1 ?side2 ?side3 ?side4 A68.out).mono ?_); (case side1 => exact (Kd.V_reads' (vv HO483)).2.2); (case side2 => exact (Kd.V_reads' HO483.out).2.1); (case side3 => exact (Kd.V_reads' (vv HO488)).2.2); (case side4 => exact (Kd.V_reads' HO488.out).2.1); rintro e w90 ⟨rfl, hb⟩; replace HO_465000 := vB HO_465000 hb; replace HO_465003 := vB HO_465003 hb; replace HO483 := vB HO483 hb; replace HO488 := vB HO488 hb; replace HO491 := vB HO491 hb; replace BK464 := kB BK464 hb; replace BK492 := kB BK492 hb; replace HB := hB HB hb; (try clear hb); (try clear hb2); (try clear hk); (try clear hi)))
                        go_roundg k1
                        case measure => have := HK1.out; omega
                        case rel => exact ⟨(x5_1), (x6_1 ++ (strOfNums t489)), (wrap64 (x7_1 + 1)), (t481), (t484), (t485), (t486), (.slice Ao76 t481.length co76), (.slice Ao80 t486.length co80), (by first | rfl | (simp; done) | (simp [*]; done)), (by first | rfl | (simp; done) | (simp [*]; done)), (by first | rfl | (simp; done) | (simp [*]; done)), H', ⟨by have := HK1.out; omega⟩, ⟨vM HO483⟩, ⟨vM HO488⟩, ⟨kk BK464⟩, ⟨bb HB⟩⟩
                      · replace c69 := Bool.eq_false_iff.mpr c69
                        subst c69
                        rw [if_neg nf] at H
                        cases H; exact absurd HRT.out (by decide)
                    · rw [if_neg c67] at H
                      cases H; exact absurd HRT.out (by decide)
                  · rw [if_neg c66] at H
                    exact absurd H (by simp)
                · rw [if_neg c65] at H
                  exact absurd H (by simp)
              · rw [if_neg c63] at H
                have c63b0 : (((rd_T29 l0 x7_1).f0) == 1) = false := beq_eq_false_iff_ne.mpr c63
                have c63b1 : (((rd_T29 l0 x7_1).f0) != 1) = true := bne_iff_ne.mpr c63
                by_cases c91 : ((rd_T29 l0 x7_1).f0) = 2
                · rw [if_pos c91] at H
                  have c91b0 : (((rd_T29 l0 x7_1).f0) == 2) = true := beq_iff_eq.mpr c91
                  have c91b1 : (((rd_T29 l0 x7_1).f0) != 2) = false := bne_eq_false_iff_eq.mpr c91
                  clear c91
                  obtain ⟨⟨t495, t498, t499, t500, t503⟩, A92, H⟩ := ob H
                  dsimp only at H
                  by_cases c93 : x6_1.size + (strOfNums t495).size ≤ 9223372036854775807
                  · rw [if_pos c93] at H
                    have c93b0 := eq_true c93
                    have c93b1 : decide (x6_1.size + (strOfNums t495).size ≤ 9223372036854775807) = true := decide_eq_true c93
                    try have c93b2 : (9223372036854775807 < x6_1.size + (strOfNums t495).size) = False := eq_false (Nat.not_lt.2 c93)
                    by_cases c94 : (x6_1 ++ (strOfNums t495)).toList = x5_1.toList
                    · rw [if_pos c94] at H
                      have c94b0 : ((x6_1 ++ (strOfNums t495)).toList == x5_1.toList) = true := beq_iff_eq.mpr c94
                      have c94b1 : ((x6_1 ++ (strOfNums t495)).toList != x5_1.toList) = false := bne_eq_false_iff_eq.mpr c94
                      clear c94
                      obtain ⟨t505, A95, H⟩ := ob H
                      by_cases c96 : t505 = true
                      · subst c96
                        rw [if_pos rfl] at H
                        have H' := Aside0.mk H
                        clear H
                        have p465 : 0 ≤ (x7_1 : Int) := of_decide_eq_true (by first | (with_reducible assumption) | assumption)
                        have q465 : x7_1 < (l0.length : Int) := of_decide_eq_true (by first | (with_reducible assumption) | assumption)
                        obtain ⟨ad465, A465_2, c465_2, e465, hx465_0, hx465_1, hx465_2, hl465_2, hi465_2⟩ := at_T29 HR0.out x7_1 p465 q465
                        cases e465
                        replace hx465_0 := (HB.out.cell (World.block_lt_of_cell? w _ hx465_0)).trans hx465_0
                        replace hx465_1 := (HB.out.cell (World.block_lt_of_cell? w _ hx465_1)).trans hx465_1
                        replace hx465_2 := (HB.out.cell (World.block_lt_of_cell? w _ hx465_2)).trans hx465_2
                        have HR465_2 := Aside0.mk hi465_2
                        have HC465_2 := Aside0.mk hl465_2
                        clear hi465_2 hl465_2
                        replace p465 := eq_true p465
                        replace q465 := eq_true q465
                        obtain ⟨Ao97, co97, eo97⟩ := Kd.V_slice HO_465000.out
                        subst eo97
                        obtain ⟨Ao98, co98, eo98⟩ := Kd.V_slice HO_465003.out
                        subst eo98
                        try go_wp2
                        replace HO_465000 := Aside0.mk (Kd.V_drew HO_465000.out)
                        replace HO_465003 := Aside0.mk (Kd.V_drew HO_465003.out)
                        replace BK464 := Aside0.mk (blk_drew BK464.out)
                        replace HB := Aside0.mk (below_drew1 HB.out)
                        have p494 : 0 ≤ (x7_1 : Int) := of_decide_eq_true (by first | (with_reducible assumption) | assumption)
                        have q494 : x7_1 < (l0.length : Int) := of_decide_eq_true (by first | (with_reducible assumption) | assumption)
                        obtain ⟨ad494, A494_2, c494_2, e494, hx494_0, hx494_1, hx494_2, hl494_2, hi494_2⟩ := at_T29 HR0.out x7_1 p494 q494
                        have hw494_2 := hx494_2
                        have hw494_1 := hx494_1
                        have hw494_0 := hx494_0
                        obtain rfl : ad465 = ad494 := (by injection e494)
                        replace hx494_0 := (HB.out.cell (World.block_lt_of_cell? w _ hx494_0)).trans hx494_0
                        replace hx494_1 := (HB.out.cell (World.block_lt_of_cell? w _ hx494_1)).trans hx494_1
                        replace hx494_2 := (HB.out.cell (World.block_lt_of_cell? w _ hx494_2)).trans hx494_2
                        have HR494_2 := Aside0.mk hi494_2
                        have HC494_2 := Aside0.mk hl494_2
                        clear hi494_2 hl494_2
                        replace p494 := eq_true p494
                        replace q494 := eq_true q494
                        refine start_ (n := 13) (S := fun w' => w'.cell? ⟨gb464, 0, none⟩ = some (.slice Ao97 x465000_1.length co97) ∧ w'.cell? ⟨gb464, 1, none⟩ = some (.bool x465001_1) ∧ w'.cell? ⟨gb464, 2, none⟩ = some (.int .i64 x465002_1) ∧ w'.cell? ⟨gb464, 3, none⟩ = some (.slice Ao98 x465003_1.length co98) ∧ w'.cell? (ad465.add ((x7_1).toNat * 3)) = some (.int .i64 ((rd_T29 l0 x7_1).f0)) ∧ w'.cell? ⟨(ad465.add ((x7_1).toNat * 3)).block, (ad465.add ((x7_1).toNat * 3)).off + 1, none⟩ = some (.int .i64 ((rd_T29 l0 x7_1).f1)) ∧ w'.cell? ⟨(ad465.add ((x7_1).toNat * 3)).block, (ad465.add ((x7_1).toNat * 3)).off + 2, none⟩ = some (.slice A494_2 ((rd_T29 l0 x7_1).f2).length c494_2)) (ds := []) #[false, false, false, false, false, false, false, false, false, false, false, false, false] (by kernel_rfl) rfl rfl ⟨cx BK464 0, cx BK464 1, cx BK464 2, cx BK464 3, ((HB.out.cell (World.block_lt_of_cell? w _ hw494_0)).trans hw494_0), ((HB.out.cell (World.block_lt_of_cell? w _ hw494_1)).trans hw494_1), ((HB.out.cell (World.block_lt_of_cell? w _ hw494_2)).trans hw494_2)⟩ (fun hHeld => ?_); refine with_tabW pentroughlaw19_WireOrder.tab21 pentroughlaw19_WireOrder.bits21 (fun HT_ HW_ => ?_)
                        generalize wr.drew = w99 at HO_465000 HO_465003 BK464 HB HR494_2 hx494_0 hx494_1 hx494_2 hHeld ⊢
                        refine pure_ (i := 1) (N := some 77) (v := ?_) (a' := ?_) #[false, true, false, false, false, false, false, false, false, false, false, false, false] rfl rfl (any_of HT_.out (by kernel_rfl)) (fun _ _ _ h => h) (Or.inl ⟨by rfl, ?_⟩) ?_ ?_
                        rotate_left
                        · intro w'
                          go_simp
                          with_reducible rfl
                        rotate_left
                        · simp only [Act.put, List.setIfInBounds_toArray, List.set_cons_zero, List.set_cons_succ, i64_w, i32_w]
                          rfl
                        refine pure_ (i := 2) (N := some 78) (v := ?_) (a' := ?_) #[false, true, true, false, false, false, false, false, false, false, false, false, false] rfl rfl (any_of HT_.out (by kernel_rfl)) (fun _ _ _ h => h) (Or.inl ⟨by rfl, ?_⟩) ?_ ?_
                        rotate_left
                        · intro w'
                          go_simp
                          with_reducible rfl
                        rotate_left
                        · simp only [Act.put, List.setIfInBounds_toArray, List.set_cons_zero, List.set_cons_succ, i64_w, i32_w]
                          rfl
                        refine pure_ (i := 3) (N := some 79) (v := ?_) (a' := ?_) #[false, true, true, true, false, false, false, false, false, false, false, false, false] rfl rfl (any_of HT_.out (by kernel_rfl)) (fun _ _ _ h => h) (Or.inl ⟨by rfl, ?_⟩) ?_ ?_
                        rotate_left
                        · intro w'
                          go_simp
                          with_reducible rfl
                        rotate_left
                        · simp only [Act.put, List.setIfInBounds_toArray, List.set_cons_zero, List.set_cons_succ, i64_w, i32_w]
                          rfl
                        refine pure_ (i := 4) (N := some 80) (v := ?_) (a' := ?_) #[false, true, true, true, true, false, false, false, false, false, false, false, false] rfl rfl (any_of HT_.out (by kernel_rfl)) (fun _ _ _ h => h) (Or.inl ⟨by rfl, ?_⟩) ?_ ?_
                        rotate_left
                        · intro w'
                          go_simp
                          with_reducible rfl
                        rotate_left
                        · simp only [Act.put, List.setIfInBounds_toArray, List.set_cons_zero, List.set_cons_succ, i64_w, i32_w]
                          rfl
                        refine take_ (i := 0) (N := some 76) (v := ?_) (a' := ?_) #[true, true, true, true, true, false, false, false, false, false, false, false, false] rfl rfl (take_ofW HT_.out HW_.out (by kernel_rfl)) (fun _ _ _ h => h) (Or.inl ⟨by rfl, ?_⟩) hHeld ?_ ?_
                        rotate_left
                        · rintro w' ⟨s0, s1, s2, s3, s4, s5, s6⟩
                          go_simp
                          with_reducible rfl
                        rotate_left
                        · simp only [Act.put, List.setIfInBounds_toArray, List.set_cons_zero, List.set_cons_succ, i64_w, i32_w]
                          rfl
                        refine take_ (i := 5) (N := some 81) (v := ?_) (a' := ?_) #[true, true, true, true, true, true, false, false, false, false, false, false, false] rfl rfl (take_ofW HT_.out HW_.out (by kernel_rfl)) (fun _ _ _ h => h) (Or.inl ⟨by rfl, ?_⟩) hHeld ?_ ?_
                        rotate_left
                        · rintro w' ⟨s0, s1, s2, s3, s4, s5, s6⟩
                          go_simp
                          with_reducible rfl
                        rotate_left
                        · simp only [Act.put, List.setIfInBounds_toArray, List.set_cons_zero, List.set_cons_succ, i64_w, i32_w]
                          rfl
                        refine join_ (σ := Value × Value × Nat) 2 #[true, true, true, true, true, true, true, true, true, true, true, false, false] (fun s_ => [(82, .tuple #[.agg #[s_.1, .bool t498, .int .i64 t499, s_.2.1], .int .i64 t503]), (12, .pointer (some ⟨s_.2.2, 0, none⟩)), (75, .tuple #[.agg #[s_.1, .bool t498, .int .i64 t499, s_.2.1], .int .i64 t503]), (83, .agg #[s_.1, .bool t498, .int .i64 t499, s_.2.1]), (84, .int .i64 t503)]) (fun s_ w' => (w'.cell? ⟨gb464, 0, none⟩ = some (.slice Ao97 x465000_1.length co97) ∧ w'.cell? ⟨gb464, 1, none⟩ = some (.bool x465001_1) ∧ w'.cell? ⟨gb464, 2, none⟩ = some (.int .i64 x465002_1) ∧ w'.cell? ⟨gb464, 3, none⟩ = some (.slice Ao98 x465003_1.length co98) ∧ w'.cell? (ad465.add ((x7_1).toNat * 3)) = some (.int .i64 ((rd_T29 l0 x7_1).f0)) ∧ w'.cell? ⟨(ad465.add ((x7_1).toNat * 3)).block, (ad465.add ((x7_1).toNat * 3)).off + 1, none⟩ = some (.int .i64 ((rd_T29 l0 x7_1).f1)) ∧ w'.cell? ⟨(ad465.add ((x7_1).toNat * 3)).block, (ad465.add ((x7_1).toNat * 3)).off + 2, none⟩ = some (.slice A494_2 ((rd_T29 l0 x7_1).f2).length c494_2)) ∧ (Kd.V (Kd.int .u8) 5 w' w.heap.size (fun k_ => k_ ≠ gb464 ∧ k_ ≠ s_.2.2) s_.1 t495) ∧ (Kd.V (Kd.int .u8) 5 w' w.heap.size (fun k_ => k_ ≠ gb464 ∧ k_ ≠ s_.2.2) s_.2.1 t500) ∧ (Kd.V (Kd.int .u8) 5 w' w.heap.size (fun k_ => k_ ≠ gb464 ∧ k_ ≠ s_.2.2) (.slice Ao97 x465000_1.length co97) x465000_1) ∧ (Kd.V (Kd.int .u8) 5 w' w.heap.size (fun k_ => k_ ≠ gb464 ∧ k_ ≠ s_.2.2) (.slice Ao98 x465003_1.length co98) x465003_1) ∧ (w'.heap[gb464]? = some (.cells #[.slice Ao97 x465000_1.length co97, .bool x465001_1, .int .i64 x465002_1, .slice Ao98 x465003_1.length co98] 27 (0, 0))) ∧ (w'.heap[s_.2.2]? = some (.cells #[.slice none 0 0, .bool false, .int .i64 0, .slice none 0 0] 27 (0, 0))) ∧ (w.heap.size ≤ s_.2.2) ∧ (w.heap.size ≤ s_.2.2) ∧ (gb464 ≠ s_.2.2) ∧ (s_.2.2 ≠ gb464) ∧ (Below w.heap.size w w')) ?_ ?_
                        rotate_left
                        · intro hCont
                          refine two_ (i := 6) (j := 10) (Ni := some 82) (Nj := some 12) #[true, true, true, true, true, true, true, false, false, false, false, false, false] #[true, true, true, true, true, true, false, false, false, false, true, false, false] rfl rfl rfl rfl (two_of HT_.out (by kernel_rfl)) (by decide) (by decide) (fun K hK => ?_) (fun K hK => ?_)
                          · skip
                            refine gs Try.func11 (by kernel_rfl) rfl #[.agg #[.slice Ao97 x465000_1.length co97, .bool x465001_1, .int .i64 x465002_1, .slice Ao98 x465003_1.length co98], .int .i64 ((rd_T29 l0 x7_1).f1)] (by rfl) rfl rfl ?_
                            with_reducible refine (wire_Grant.calls (fun k_ => k_ ≠ gb464) _ _ x465000_1 x465001_1 x465002_1 (fun k_ => k_ ≠ gb464) _ _ x465003_1 ((rd_T29 l0 x7_1).f1) t495 t498 t499 t500 t503 _ ?side1 ?side2 A92.out).mono ?_
                            (case side1 => exact HO_465000.out)
                            (case side2 => exact HO_465003.out)
                            rintro e w100 ⟨v496, v501, rfl, ho0, ho1, hb⟩
                            refine ⟨_, rfl, ?_⟩
                            replace HO_465000 := vB HO_465000 hb
                            replace HO_465003 := vB HO_465003 hb
                            have HO497 := Aside0.mk (Kd.V_lower (Kd.V_mono (ok' := fun k_ => k_ ≠ gb464) ho0 (fun k_ hk_ => oe hk_ (fun h => h) (fun h => h) (Kd.freshB (kk BK464) k_))) (below_size (bb HB)))
                            have HO502 := Aside0.mk (Kd.V_lower (Kd.V_mono (ok' := fun k_ => k_ ≠ gb464) ho1 (fun k_ hk_ => oe hk_ (fun h => h) (fun h => h) (Kd.freshB (kk BK464) k_))) (below_size (bb HB)))
                            replace BK464 := kB BK464 hb
                            replace HB := hB HB hb
                            (try clear hb)
                            (try clear hb2)
                            (try clear hk)
                            (try clear hi)
                            (try clear ho0)
                            (try clear ho1)
                            refine hK.out _ _ ⟨cx BK464 0, cx BK464 1, cx BK464 2, cx BK464 3, ((HB.out.cell (World.block_lt_of_cell? w _ hw494_0)).trans hw494_0), ((HB.out.cell (World.block_lt_of_cell? w _ hw494_1)).trans hw494_1), ((HB.out.cell (World.block_lt_of_cell? w _ hw494_2)).trans hw494_2)⟩ (fun hHeld => ?_)
                            clear hK K
                            refine norm_ (a' := ?_) ?_ ?_
                            rotate_left
                            · show Act.put _ (some 82) _ = _
                              simp only [Act.put, List.setIfInBounds_toArray, List.set_cons_zero, List.set_cons_succ, i64_w, i32_w]
                              rfl
                            refine pure_ (i := 7) (N := some 75) (v := ?_) (a' := ?_) #[true, true, true, true, true, true, true, true, false, false, false, false, false] rfl rfl (any_of HT_.out (by kernel_rfl)) (fun _ _ _ h => h) (Or.inl ⟨by rfl, ?_⟩) ?_ ?_
                            rotate_left
                            · intro w'
                              go_simp
                              with_reducible rfl
                            rotate_left
                            · simp only [Act.put, List.setIfInBounds_toArray, List.set_cons_zero, List.set_cons_succ, i64_w, i32_w]
                              rfl
                            refine pure_ (i := 8) (N := some 83) (v := ?_) (a' := ?_) #[true, true, true, true, true, true, true, true, true, false, false, false, false] rfl rfl (any_of HT_.out (by kernel_rfl)) (fun _ _ _ h => h) (Or.inl ⟨by rfl, ?_⟩) ?_ ?_
                            rotate_left
                            · intro w'
                              go_simp
                              with_reducible rfl
                            rotate_left
                            · simp only [Act.put, List.setIfInBounds_toArray, List.set_cons_zero, List.set_cons_succ, i64_w, i32_w]
                              rfl
                            refine pure_ (i := 9) (N := some 84) (v := ?_) (a' := ?_) #[true, true, true, true, true, true, true, true, true, true, false, false, false] rfl rfl (any_of HT_.out (by kernel_rfl)) (fun _ _ _ h => h) (Or.inl ⟨by rfl, ?_⟩) ?_ ?_
                            rotate_left
                            · intro w'
                              go_simp
                              with_reducible rfl
                            rotate_left
                            · simp only [Act.put, List.setIfInBounds_toArray, List.set_cons_zero, List.set_cons_succ, i64_w, i32_w]
                              rfl
                            refine one_ (i := 10) (N := some 12) #[true, true, true, true, true, true, true, true, true, true, true, false, false] rfl rfl (one_of HT_.out (by kernel_rfl)) (by decide) (fun K hK => ?_)
                            refine box_step ?hg (N := 12) ?hd (cs := #[.slice none 0 0, .bool false, .int .i64 0, .slice none 0 0]) (t := 27) ?hr ?_; (case hd => rfl); (case hg => rfl); (case hr => first | (go_simp; done) | (go_simp; rfl))
                            intro gb504 hg w101 hbox hb
                            replace HO_465000 := vE HO_465000 hg hb
                            replace HO_465003 := vE HO_465003 hg hb
                            replace HO497 := vE HO497 hg hb
                            replace HO502 := vE HO502 hg hb
                            have BK504 := Aside0.mk hbox
                            have GW504 := gE HB hg
                            have GE504 := gE HB hg
                            replace HB := hB HB hb
                            have NB464_504 := nL BK464 hg
                            have NB504_464 := nG BK464 hg
                            replace BK464 := kB BK464 hb
                            clear hb hbox hg
                            refine hK.out _ _ ⟨cx BK464 0, cx BK464 1, cx BK464 2, cx BK464 3, ((HB.out.cell (World.block_lt_of_cell? w _ hw494_0)).trans hw494_0), ((HB.out.cell (World.block_lt_of_cell? w _ hw494_1)).trans hw494_1), ((HB.out.cell (World.block_lt_of_cell? w _ hw494_2)).trans hw494_2)⟩ (fun hHeld => ?_)
                            clear hK K
                            refine norm_ (a' := ?_) ?_ ?_
                            rotate_left
                            · show Act.put _ (some 12) _ = _
                              simp only [Act.put, List.setIfInBounds_toArray, List.set_cons_zero, List.set_cons_succ, i64_w, i32_w]
                              rfl
                            exact norm_ (by simp only [putAll, Act.put, List.setIfInBounds_toArray, List.set_cons_zero, List.set_cons_succ]) (hCont (v496, v501, gb504) _ ⟨hHeld, (vM HO497), (vM HO502), (vM HO_465000), (vM HO_465003), (kk BK464), (kk BK504), GW504.out, GE504.out, NB464_504.out, NB504_464.out, (bb HB)⟩)
                          · skip
                            refine box_step ?hg (N := 12) ?hd (cs := #[.slice none 0 0, .bool false, .int .i64 0, .slice none 0 0]) (t := 27) ?hr ?_; (case hd => rfl); (case hg => rfl); (case hr => first | (go_simp; done) | (go_simp; rfl))
                            intro gb504 hg w100 hbox hb
                            replace HO_465000 := vE HO_465000 hg hb
                            replace HO_465003 := vE HO_465003 hg hb
                            have BK504 := Aside0.mk hbox
                            have GW504 := gE HB hg
                            have GE504 := gE HB hg
                            replace HB := hB HB hb
                            have NB464_504 := nL BK464 hg
                            have NB504_464 := nG BK464 hg
                            replace BK464 := kB BK464 hb
                            clear hb hbox hg
                            refine hK.out _ _ ⟨cx BK464 0, cx BK464 1, cx BK464 2, cx BK464 3, ((HB.out.cell (World.block_lt_of_cell? w _ hw494_0)).trans hw494_0), ((HB.out.cell (World.block_lt_of_cell? w _ hw494_1)).trans hw494_1), ((HB.out.cell (World.block_lt_of_cell? w _ hw494_2)).trans hw494_2)⟩ (fun hHeld => ?_)
                            clear hK K
                            refine norm_ (a' := ?_) ?_ ?_
                            rotate_left
                            · show Act.put _ (some 12) _ = _
                              simp only [Act.put, List.setIfInBounds_toArray, List.set_cons_zero, List.set_cons_succ, i64_w, i32_w]
                              rfl
                            refine one_ (i := 6) (N := some 82) #[true, true, true, true, true, true, true, false, false, false, true, false, false] rfl rfl (one_of HT_.out (by kernel_rfl)) (by decide) (fun K hK => ?_)
                            refine gs Try.func11 (by kernel_rfl) rfl #[.agg #[.slice Ao97 x465000_1.length co97, .bool x465001_1, .int .i64 x465002_1, .slice Ao98 x465003_1.length co98], .int .i64 ((rd_T29 l0 x7_1).f1)] (by rfl) rfl rfl ?_
                            with_reducible refine (wire_Grant.calls (fun k_ => (k_ ≠ gb464 ∧ k_ ≠ gb504)) _ _ x465000_1 x465001_1 x465002_1 (fun k_ => (k_ ≠ gb464 ∧ k_ ≠ gb504)) _ _ x465003_1 ((rd_T29 l0 x7_1).f1) t495 t498 t499 t500 t503 _ ?side1 ?side2 A92.out).mono ?_
                            (case side1 => exact HO_465000.out)
                            (case side2 => exact HO_465003.out)
                            rintro e w101 ⟨v496, v501, rfl, ho0, ho1, hb⟩
                            refine ⟨_, rfl, ?_⟩
                            replace HO_465000 := vB HO_465000 hb
                            replace HO_465003 := vB HO_465003 hb
                            have HO497 := Aside0.mk (Kd.V_lower (Kd.V_mono (ok' := fun k_ => k_ ≠ gb464 ∧ k_ ≠ gb504) ho0 (fun k_ hk_ => ⟨oe hk_ (fun h => h.1) (fun h => h.1) (Kd.freshB (kk BK464) k_), oe hk_ (fun h => h.2) (fun h => h.2) (Kd.freshB (kk BK504) k_)⟩)) (below_size (bb HB)))
                            have HO502 := Aside0.mk (Kd.V_lower (Kd.V_mono (ok' := fun k_ => k_ ≠ gb464 ∧ k_ ≠ gb504) ho1 (fun k_ hk_ => ⟨oe hk_ (fun h => h.1) (fun h => h.1) (Kd.freshB (kk BK464) k_), oe hk_ (fun h => h.2) (fun h => h.2) (Kd.freshB (kk BK504) k_)⟩)) (below_size (bb HB)))
                            replace BK464 := kB BK464 hb
                            replace BK504 := kB BK504 hb
                            replace HB := hB HB hb
                            (try clear hb)
                            (try clear hb2)
                            (try clear hk)
                            (try clear hi)
                            (try clear ho0)
                            (try clear ho1)
                            refine hK.out _ _ ⟨cx BK464 0, cx BK464 1, cx BK464 2, cx BK464 3, ((HB.out.cell (World.block_lt_of_cell? w _ hw494_0)).trans hw494_0), ((HB.out.cell (World.block_lt_of_cell? w _ hw494_1)).trans hw494_1), ((HB.out.cell (World.block_lt_of_cell? w _ hw494_2)).trans hw494_2)⟩ (fun hHeld => ?_)
                            clear hK K
                            refine norm_ (a' := ?_) ?_ ?_
                            rotate_left
                            · show Act.put _ (some 82) _ = _
                              simp only [Act.put, List.setIfInBounds_toArray, List.set_cons_zero, List.set_cons_succ, i64_w, i32_w]
                              rfl
                            refine pure_ (i := 7) (N := some 75) (v := ?_) (a' := ?_) #[true, true, true, true, true, true, true, true, false, false, true, false, false] rfl rfl (any_of HT_.out (by kernel_rfl)) (fun _ _ _ h => h) (Or.inl ⟨by rfl, ?_⟩) ?_ ?_
                            rotate_left
                            · intro w'
                              go_simp
                              with_reducible rfl
                            rotate_left
                            · simp only [Act.put, List.setIfInBounds_toArray, List.set_cons_zero, List.set_cons_succ, i64_w, i32_w]
                              rfl
                            refine pure_ (i := 8) (N := some 83) (v := ?_) (a' := ?_) #[true, true, true, true, true, true, true, true, true, false, true, false, false] rfl rfl (any_of HT_.out (by kernel_rfl)) (fun _ _ _ h => h) (Or.inl ⟨by rfl, ?_⟩) ?_ ?_
                            rotate_left
                            · intro w'
                              go_simp
                              with_reducible rfl
                            rotate_left
                            · simp only [Act.put, List.setIfInBounds_toArray, List.set_cons_zero, List.set_cons_succ, i64_w, i32_w]
                              rfl
                            refine pure_ (i := 9) (N := some 84) (v := ?_) (a' := ?_) #[true, true, true, true, true, true, true, true, true, true, true, false, false] rfl rfl (any_of HT_.out (by kernel_rfl)) (fun _ _ _ h => h) (Or.inl ⟨by rfl, ?_⟩) ?_ ?_
                            rotate_left
                            · intro w'
                              go_simp
                              with_reducible rfl
                            rotate_left
                            · simp only [Act.put, List.setIfInBounds_toArray, List.set_cons_zero, List.set_cons_succ, i64_w, i32_w]
                              rfl
                            exact norm_ (by simp only [putAll, Act.put, List.setIfInBounds_toArray, List.set_cons_zero, List.set_cons_succ]) (hCont (v496, v501, gb504) _ ⟨hHeld, (vM HO497), (vM HO502), (vM HO_465000), (vM HO_465003), (kk BK464), (kk BK504), GW504.out, GE504.out, NB464_504.out, NB504_464.out, (bb HB)⟩)
                        clear HO_465000 HO_465003 BK464 HB
                        rintro ⟨v496, v501, gb504⟩ w102 hS_
                        dsimp only at hS_
                        obtain ⟨hHeld, h0_, h1_, h2_, h3_, h4_, h5_, h6_, h7_, h8_, h9_, h10_⟩ := hS_
                        have HO497 := Aside0.mk h0_
                        have HO502 := Aside0.mk h1_
                        have HO_465000 := Aside0.mk h2_
                        have HO_465003 := Aside0.mk h3_
                        have BK464 := Aside0.mk h4_
                        have BK504 := Aside0.mk h5_
                        have GW504 := Aside0.mk h6_
                        have GE504 := Aside0.mk h7_
                        have NB464_504 := Aside0.mk h8_
                        have NB504_464 := Aside0.mk h9_
                        have HB := Aside0.mk h10_
                        clear h0_ h1_ h2_ h3_ h4_ h5_ h6_ h7_ h8_ h9_ h10_
                        obtain ⟨Ao103, co103, eo103⟩ := Kd.V_slice HO497.out
                        (first | subst eo103 | (injection eo103 with f1_ f2_ f3_; have f4_ := f1_.symm; have f5_ := f3_.symm; clear f1_ f2_ f3_; subst f4_; subst f5_))
                        obtain ⟨Ao107, co107, eo107⟩ := Kd.V_slice HO502.out
                        (first | subst eo107 | (injection eo107 with f1_ f2_ f3_; have f4_ := f1_.symm; have f5_ := f3_.symm; clear f1_ f2_ f3_; subst f4_; subst f5_))
                        refine norm_ (a' := ?_) ?_ ?_
                        rotate_left
                        · simp only [putAll, Act.put, List.setIfInBounds_toArray, List.set_cons_zero, List.set_cons_succ]
                          rfl
                        refine one_ (i := 11) (N := none) #[true, true, true, true, true, true, true, true, true, true, true, true, false] rfl rfl (one_of HT_.out (by kernel_rfl)) (by decide) (fun K hK => ?_)
                        have hs104 : w102.cell? ⟨gb504, 0, none⟩ = some (.slice none 0 0) := cx BK504 0
                        have hfs104 := blk_frozen BK504.out 0
                        have hns104_0 := NB464_504.out
                        have hms104_0 := NB504_464.out
                        have hs105 : w102.cell? ⟨gb504, 1, none⟩ = some (.bool false) := cx BK504 1
                        have hfs105 := blk_frozen BK504.out 1
                        have hns105_0 := NB464_504.out
                        have hms105_0 := NB504_464.out
                        have hs106 : w102.cell? ⟨gb504, 2, none⟩ = some (.int .i64 0) := cx BK504 2
                        have hfs106 := blk_frozen BK504.out 2
                        have hns106_0 := NB464_504.out
                        have hms106_0 := NB504_464.out
                        have hs108 : w102.cell? ⟨gb504, 3, none⟩ = some (.slice none 0 0) := cx BK504 3
                        have hfs108 := blk_frozen BK504.out 3
                        have hns108_0 := NB464_504.out
                        have hms108_0 := NB504_464.out
                        refine skip_ (w1 := ?_) (by rfl) rfl ?_ ?_
                        rotate_left
                        · go_simp
                          rfl
                        refine hK.out _ _ ⟨((cell_far (p := ⟨gb504, _, none⟩) NB464_504.out _).trans (((cell_far (p := ⟨gb504, _, none⟩) NB464_504.out _).trans (((cell_far (p := ⟨gb504, _, none⟩) NB464_504.out _).trans (((cell_far (p := ⟨gb504, _, none⟩) NB464_504.out _).trans (hHeld.1)))))))), ((cell_far (p := ⟨gb504, _, none⟩) NB464_504.out _).trans (((cell_far (p := ⟨gb504, _, none⟩) NB464_504.out _).trans (((cell_far (p := ⟨gb504, _, none⟩) NB464_504.out _).trans (((cell_far (p := ⟨gb504, _, none⟩) NB464_504.out _).trans (hHeld.2.1)))))))), ((cell_far (p := ⟨gb504, _, none⟩) NB464_504.out _).trans (((cell_far (p := ⟨gb504, _, none⟩) NB464_504.out _).trans (((cell_far (p := ⟨gb504, _, none⟩) NB464_504.out _).trans (((cell_far (p := ⟨gb504, _, none⟩) NB464_504.out _).trans (hHeld.2.2.1)))))))), ((cell_far (p := ⟨gb504, _, none⟩) NB464_504.out _).trans (((cell_far (p := ⟨gb504, _, none⟩) NB464_504.out _).trans (((cell_far (p := ⟨gb504, _, none⟩) NB464_504.out _).trans (((cell_far (p := ⟨gb504, _, none⟩) NB464_504.out _).trans (hHeld.2.2.2.1)))))))), ((cell_far (p := ⟨gb504, _, none⟩) (by first | exact Nat.ne_of_lt (Nat.lt_of_lt_of_le (by have := World.block_lt_of_cell? _ _ hw494_0; first | rwa [add_block] at this | exact this) GW504.out) | (rw [add_block]; exact Nat.ne_of_lt (Nat.lt_of_lt_of_le (by have := World.block_lt_of_cell? _ _ hw494_0; first | rwa [add_block] at this | exact this) GW504.out)) | (show (Addr.add _ _).block ≠ _; rw [add_block]; exact Nat.ne_of_lt (Nat.lt_of_lt_of_le (by have := World.block_lt_of_cell? _ _ hw494_0; first | rwa [add_block] at this | exact this) GW504.out)) | (dsimp only; exact Nat.ne_of_lt (Nat.lt_of_lt_of_le (by have := World.block_lt_of_cell? _ _ hw494_0; first | rwa [add_block] at this | exact this) GW504.out))) _).trans (((cell_far (p := ⟨gb504, _, none⟩) (by first | exact Nat.ne_of_lt (Nat.lt_of_lt_of_le (by have := World.block_lt_of_cell? _ _ hw494_0; first | rwa [add_block] at this | exact this) GW504.out) | (rw [add_block]; exact Nat.ne_of_lt (Nat.lt_of_lt_of_le (by have := World.block_lt_of_cell? _ _ hw494_0; first | rwa [add_block] at this | exact this) GW504.out)) | (show (Addr.add _ _).block ≠ _; rw [add_block]; exact Nat.ne_of_lt (Nat.lt_of_lt_of_le (by have := World.block_lt_of_cell? _ _ hw494_0; first | rwa [add_block] at this | exact this) GW504.out)) | (dsimp only; exact Nat.ne_of_lt (Nat.lt_of_lt_of_le (by have := World.block_lt_of_cell? _ _ hw494_0; first | rwa [add_block] at this | exact this) GW504.out))) _).trans (((cell_far (p := ⟨gb504, _, none⟩) (by first | exact Nat.ne_of_lt (Nat.lt_of_lt_of_le (by have := World.block_lt_of_cell? _ _ hw494_0; first | rwa [add_block] at this | exact this) GW504.out) | (rw [add_block]; exact Nat.ne_of_lt (Nat.lt_of_lt_of_le (by have := World.block_lt_of_cell? _ _ hw494_0; first | rwa [add_block] at this | exact this) GW504.out)) | (show (Addr.add _ _).block ≠ _; rw [add_block]; exact Nat.ne_of_lt (Nat.lt_of_lt_of_le (by have := World.block_lt_of_cell? _ _ hw494_0; first | rwa [add_block] at this | exact this) GW504.out)) | (dsimp only; exact Nat.ne_of_lt (Nat.lt_of_lt_of_le (by have := World.block_lt_of_cell? _ _ hw494_0; first | rwa [add_block] at this | exact this) GW504.out))) _).trans (((cell_far (p := ⟨gb504, _, none⟩) (by first | exact Nat.ne_of_lt (Nat.lt_of_lt_of_le (by have := World.block_lt_of_cell? _ _ hw494_0; first | rwa [add_block] at this | exact this) GW504.out) | (rw [add_block]; exact Nat.ne_of_lt (Nat.lt_of_lt_of_le (by have := World.block_lt_of_cell? _ _ hw494_0; first | rwa [add_block] at this | exact this) GW504.out)) | (show (Addr.add _ _).block ≠ _; rw [add_block]; exact Nat.ne_of_lt (Nat.lt_of_lt_of_le (by have := World.block_lt_of_cell? _ _ hw494_0; first | rwa [add_block] at this | exact this) GW504.out)) | (dsimp only; exact Nat.ne_of_lt (Nat.lt_of_lt_of_le (by have := World.block_lt_of_cell? _ _ hw494_0; first | rwa [add_block] at this | exact this) GW504.out))) _).trans (hHeld.2.2.2.2.1)))))))), ((cell_far (p := ⟨gb504, _, none⟩) (by first | exact Nat.ne_of_lt (Nat.lt_of_lt_of_le (by have := World.block_lt_of_cell? _ _ hw494_1; first | rwa [add_block] at this | exact this) GW504.out) | (rw [add_block]; exact Nat.ne_of_lt (Nat.lt_of_lt_of_le (by have := World.block_lt_of_cell? _ _ hw494_1; first | rwa [add_block] at this | exact this) GW504.out)) | (show (Addr.add _ _).block ≠ _; rw [add_block]; exact Nat.ne_of_lt (Nat.lt_of_lt_of_le (by have := World.block_lt_of_cell? _ _ hw494_1; first | rwa [add_block] at this | exact this) GW504.out)) | (dsimp only; exact Nat.ne_of_lt (Nat.lt_of_lt_of_le (by have := World.block_lt_of_cell? _ _ hw494_1; first | rwa [add_block] at this | exact this) GW504.out))) _).trans (((cell_far (p := ⟨gb504, _, none⟩) (by first | exact Nat.ne_of_lt (Nat.lt_of_lt_of_le (by have := World.block_lt_of_cell? _ _ hw494_1; first | rwa [add_block] at this | exact this) GW504.out) | (rw [add_block]; exact Nat.ne_of_lt (Nat.lt_of_lt_of_le (by have := World.block_lt_of_cell? _ _ hw494_1; first | rwa [add_block] at this | exact this) GW504.out)) | (show (Addr.add _ _).block ≠ _; rw [add_block]; exact Nat.ne_of_lt (Nat.lt_of_lt_of_le (by have := World.block_lt_of_cell? _ _ hw494_1; first | rwa [add_block] at this | exact this) GW504.out)) | (dsimp only; exact Nat.ne_of_lt (Nat.lt_of_lt_of_le (by have := World.block_lt_of_cell? _ _ hw494_1; first | rwa [add_block] at this | exact this) GW504.out))) _).trans (((cell_far (p := ⟨gb504, _, none⟩) (by first | exact Nat.ne_of_lt (Nat.lt_of_lt_of_le (by have := World.block_lt_of_cell? _ _ hw494_1; first | rwa [add_block] at this | exact this) GW504.out) | (rw [add_block]; exact Nat.ne_of_lt (Nat.lt_of_lt_of_le (by have := World.block_lt_of_cell? _ _ hw494_1; first | rwa [add_block] at this | exact this) GW504.out)) | (show (Addr.add _ _).block ≠ _; rw [add_block]; exact Nat.ne_of_lt (Nat.lt_of_lt_of_le (by have := World.block_lt_of_cell? _ _ hw494_1; first | rwa [add_block] at this | exact this) GW504.out)) | (dsimp only; exact Nat.ne_of_lt (Nat.lt_of_lt_of_le (by have := World.block_lt_of_cell? _ _ hw494_1; first | rwa [add_block] at this | exact this) GW504.out))) _).trans (((cell_far (p := ⟨gb504, _, none⟩) (by first | exact Nat.ne_of_lt (Nat.lt_of_lt_of_le (by have := World.block_lt_of_cell? _ _ hw494_1; first | rwa [add_block] at this | exact this) GW504.out) | (rw [add_block]; exact Nat.ne_of_lt (Nat.lt_of_lt_of_le (by have := World.block_lt_of_cell? _ _ hw494_1; first | rwa [add_block] at this | exact this) GW504.out)) | (show (Addr.add _ _).block ≠ _; rw [add_block]; exact Nat.ne_of_lt (Nat.lt_of_lt_of_le (by have := World.block_lt_of_cell? _ _ hw494_1; first | rwa [add_block] at this | exact this) GW504.out)) | (dsimp only; exact Nat.ne_of_lt (Nat.lt_of_lt_of_le (by have := World.block_lt_of_cell? _ _ hw494_1; first | rwa [add_block] at this | exact this) GW504.out))) _).trans (hHeld.2.2.2.2.2.1)))))))), ((cell_far (p := ⟨gb504, _, none⟩) (by first | exact Nat.ne_of_lt (Nat.lt_of_lt_of_le (by have := World.block_lt_of_cell? _ _ hw494_2; first | rwa [add_block] at this | exact this) GW504.out) | (rw [add_block]; exact Nat.ne_of_lt (Nat.lt_of_lt_of_le (by have := World.block_lt_of_cell? _ _ hw494_2; first | rwa [add_block] at this | exact this) GW504.out)) | (show (Addr.add _ _).block ≠ _; rw [add_block]; exact Nat.ne_of_lt (Nat.lt_of_lt_of_le (by have := World.block_lt_of_cell? _ _ hw494_2; first | rwa [add_block] at this | exact this) GW504.out)) | (dsimp only; exact Nat.ne_of_lt (Nat.lt_of_lt_of_le (by have := World.block_lt_of_cell? _ _ hw494_2; first | rwa [add_block] at this | exact this) GW504.out))) _).trans (((cell_far (p := ⟨gb504, _, none⟩) (by first | exact Nat.ne_of_lt (Nat.lt_of_lt_of_le (by have := World.block_lt_of_cell? _ _ hw494_2; first | rwa [add_block] at this | exact this) GW504.out) | (rw [add_block]; exact Nat.ne_of_lt (Nat.lt_of_lt_of_le (by have := World.block_lt_of_cell? _ _ hw494_2; first | rwa [add_block] at this | exact this) GW504.out)) | (show (Addr.add _ _).block ≠ _; rw [add_block]; exact Nat.ne_of_lt (Nat.lt_of_lt_of_le (by have := World.block_lt_of_cell? _ _ hw494_2; first | rwa [add_block] at this | exact this) GW504.out)) | (dsimp only; exact Nat.ne_of_lt (Nat.lt_of_lt_of_le (by have := World.block_lt_of_cell? _ _ hw494_2; first | rwa [add_block] at this | exact this) GW504.out))) _).trans (((cell_far (p := ⟨gb504, _, none⟩) (by first | exact Nat.ne_of_lt (Nat.lt_of_lt_of_le (by have := World.block_lt_of_cell? _ _ hw494_2; first | rwa [add_block] at this | exact this) GW504.out) | (rw [add_block]; exact Nat.ne_of_lt (Nat.lt_of_lt_of_le (by have := World.block_lt_of_cell? _ _ hw494_2; first | rwa [add_block] at this | exact this) GW504.out)) | (show (Addr.add _ _).block ≠ _; rw [add_block]; exact Nat.ne_of_lt (Nat.lt_of_lt_of_le (by have := World.block_lt_of_cell? _ _ hw494_2; first | rwa [add_block] at this | exact this) GW504.out)) | (dsimp only; exact Nat.ne_of_lt (Nat.lt_of_lt_of_le (by have := World.block_lt_of_cell? _ _ hw494_2; first | rwa [add_block] at this | exact this) GW504.out))) _).trans (((cell_far (p := ⟨gb504, _, none⟩) (by first | exact Nat.ne_of_lt (Nat.lt_of_lt_of_le (by have := World.block_lt_of_cell? _ _ hw494_2; first | rwa [add_block] at this | exact this) GW504.out) | (rw [add_block]; exact Nat.ne_of_lt (Nat.lt_of_lt_of_le (by have := World.block_lt_of_cell? _ _ hw494_2; first | rwa [add_block] at this | exact this) GW504.out)) | (show (Addr.add _ _).block ≠ _; rw [add_block]; exact Nat.ne_of_lt (Nat.lt_of_lt_of_le (by have := World.block_lt_of_cell? _ _ hw494_2; first | rwa [add_block] at this | exact this) GW504.out)) | (dsimp only; exact Nat.ne_of_lt (Nat.lt_of_lt_of_le (by have := World.block_lt_of_cell? _ _ hw494_2; first | rwa [add_block] at this | exact this) GW504.out))) _).trans (hHeld.2.2.2.2.2.2))))))))⟩ (fun hHeld => ?_)
                        clear hK K
                        refine pure_ (i := 12) (N := some 13) (v := ?_) (a' := ?_) #[true, true, true, true, true, true, true, true, true, true, true, true, true] rfl rfl (any_of HT_.out (by kernel_rfl)) (fun _ _ _ h => h) (Or.inl ⟨by rfl, ?_⟩) ?_ ?_
                        rotate_left
                        · intro w'
                          go_simp
                          with_reducible rfl
                        rotate_left
                        · simp only [Act.put, List.setIfInBounds_toArray, List.set_cons_zero, List.set_cons_succ, i64_w, i32_w]
                          rfl
                        refine done_ (done_of HT_.out (by kernel_rfl)) ?_
                        obtain ⟨w109, hw⟩ : ∃ w_, w_ = ((((w102.setCell ⟨gb504, 0, none⟩ (.slice Ao103 t495.length co103)).setCell ⟨gb504, 1, none⟩ (.bool t498)).setCell ⟨gb504, 2, none⟩ (.int .i64 t499)).setCell ⟨gb504, 3, none⟩ (.slice Ao107 t500.length co107)) := ⟨_, rfl⟩
                        rw [← hw]
                        replace HO_465000 := vS (fun k_ => k_ ≠ gb464 ∧ k_ ≠ gb504) HO_465000 hw
                        replace HO_465003 := vS (fun k_ => k_ ≠ gb464 ∧ k_ ≠ gb504) HO_465003 hw
                        replace HO497 := vS (fun k_ => k_ ≠ gb464 ∧ k_ ≠ gb504) HO497 hw
                        replace HO502 := vS (fun k_ => k_ ≠ gb464 ∧ k_ ≠ gb504) HO502 hw
                        replace BK464 := kS BK464 hw
                        replace BK504 := kP4 BK504 hw
                        replace HB := hS HB hw
                        clear hw
                        have hnb110 := NB504_464.out
                        have hnc110 := NB464_504.out
                        obtain ⟨hcz111_0, hcz111_1, hcz111_2, hcz111_3, hfz111_0, hfz111_1, hfz111_2, hfz111_3⟩ := bc4 BK504
                        obtain ⟨hcz112_0, hcz112_1, hcz112_2, hcz112_3, hfz112_0, hfz112_1, hfz112_2, hfz112_3⟩ := bc4 BK464
                        try go_wp2_with (first | ((with_reducible refine gate_store (t := 27) (p := 4) rfl ?_); refine store_event (t := 27) (p := 4) (v := ?vo_w113) (w1 := ((((w109.setCell ⟨gb464, 0, none⟩ (.slice Ao103 t495.length co103)).setCell ⟨gb464, 1, none⟩ (.bool t498)).setCell ⟨gb464, 2, none⟩ (.int .i64 t499)).setCell ⟨gb464, 3, none⟩ (.slice Ao107 t500.length co107))) ?hg ?ho ?hn ?hr ?_; (case ho => rfl); (case hg => rfl); (case hn => rfl); (case hr => first | (go_simp; done) | (go_simp; rfl)); intro w113 hw; replace HO_465000 := vS (fun k_ => k_ ≠ gb464 ∧ k_ ≠ gb504) HO_465000 hw; replace HO_465003 := vS (fun k_ => k_ ≠ gb464 ∧ k_ ≠ gb504) HO_465003 hw; replace HO497 := vS (fun k_ => k_ ≠ gb464 ∧ k_ ≠ gb504) HO497 hw; replace HO502 := vS (fun k_ => k_ ≠ gb464 ∧ k_ ≠ gb504) HO502 hw; replace BK464 := kP4 BK464 hw; replace BK504 := kS BK504 hw; replace HB : Aside0 (Below w.heap.size w w113) := ⟨(by rw [hw]; exact (bb HB))⟩; clear hw; obtain ⟨hcz114_0, hcz114_1, hcz114_2, hcz114_3, hfz114_0, hfz114_1, hfz114_2, hfz114_3⟩ := bc4 BK464; have hcv115 := v_string (P := Try.prog) Try.underlying25 Try.underlying5 Try.underlying9 HO497.out) | (go_at_call 15; (with_reducible refine (wire_Sane.calls _ _ t495 t498 t499 _ _ t500 true _ ?side1 ?side2 ?side3 ?side4 A95.out).mono ?_); (case side1 => exact (Kd.V_reads' (vv HO497)).2.2); (case side2 => exact (Kd.V_reads' HO497.out).2.1); (case side3 => exact (Kd.V_reads' (vv HO502)).2.2); (case side4 => exact (Kd.V_reads' HO502.out).2.1); rintro e w116 ⟨rfl, hb⟩; replace HO_465000 := vB HO_465000 hb; replace HO_465003 := vB HO_465003 hb; replace HO497 := vB HO497 hb; replace HO502 := vB HO502 hb; replace BK464 := kB BK464 hb; replace BK504 := kB BK504 hb; replace HB := hB HB hb; (try clear hb); (try clear hb2); (try clear hk); (try clear hi)))
                        go_roundg k1
                        case measure => have := HK1.out; omega
                        case rel => exact ⟨(x5_1), (x6_1), (wrap64 (x7_1 + 1)), (t495), (t498), (t499), (t500), (.slice Ao103 t495.length co103), (.slice Ao107 t500.length co107), (by first | rfl | (simp; done) | (simp [*]; done)), (by first | rfl | (simp; done) | (simp [*]; done)), (by first | rfl | (simp; done) | (simp [*]; done)), H', ⟨by have := HK1.out; omega⟩, ⟨vM HO497⟩, ⟨vM HO502⟩, ⟨kk BK464⟩, ⟨bb HB⟩⟩
                      · replace c96 := Bool.eq_false_iff.mpr c96
                        subst c96
                        rw [if_neg nf] at H
                        cases H; exact absurd HRT.out (by decide)
                    · rw [if_neg c94] at H
                      cases H; exact absurd HRT.out (by decide)
                  · rw [if_neg c93] at H
                    exact absurd H (by simp)
                · rw [if_neg c91] at H
                  have c91b0 : (((rd_T29 l0 x7_1).f0) == 2) = false := beq_eq_false_iff_ne.mpr c91
                  have c91b1 : (((rd_T29 l0 x7_1).f0) != 2) = true := bne_iff_ne.mpr c91
                  by_cases c117 : ((rd_T29 l0 x7_1).f0) = 3
                  · rw [if_pos c117] at H
                    have c117b0 : (((rd_T29 l0 x7_1).f0) == 3) = true := beq_iff_eq.mpr c117
                    have c117b1 : (((rd_T29 l0 x7_1).f0) != 3) = false := bne_eq_false_iff_eq.mpr c117
                    clear c117
                    obtain ⟨⟨t507, t510, t511, t512, t515⟩, A118, H⟩ := ob H
                    dsimp only at H
                    by_cases c119 : x6_1.size + (strOfNums t507).size ≤ 9223372036854775807
                    · rw [if_pos c119] at H
                      have c119b0 := eq_true c119
                      have c119b1 : decide (x6_1.size + (strOfNums t507).size ≤ 9223372036854775807) = true := decide_eq_true c119
                      try have c119b2 : (9223372036854775807 < x6_1.size + (strOfNums t507).size) = False := eq_false (Nat.not_lt.2 c119)
                      by_cases c120 : (x6_1 ++ (strOfNums t507)).toList = x5_1.toList
                      · rw [if_pos c120] at H
                        have c120b0 : ((x6_1 ++ (strOfNums t507)).toList == x5_1.toList) = true := beq_iff_eq.mpr c120
                        have c120b1 : ((x6_1 ++ (strOfNums t507)).toList != x5_1.toList) = false := bne_eq_false_iff_eq.mpr c120
                        clear c120
                        obtain ⟨t517, A121, H⟩ := ob H
                        by_cases c122 : t517 = true
                        · subst c122
                          rw [if_pos rfl] at H
                          have H' := Aside0.mk H
                          clear H
                          have p465 : 0 ≤ (x7_1 : Int) := of_decide_eq_true (by first | (with_reducible assumption) | assumption)
                          have q465 : x7_1 < (l0.length : Int) := of_decide_eq_true (by first | (with_reducible assumption) | assumption)
                          obtain ⟨ad465, A465_2, c465_2, e465, hx465_0, hx465_1, hx465_2, hl465_2, hi465_2⟩ := at_T29 HR0.out x7_1 p465 q465
                          cases e465
                          replace hx465_0 := (HB.out.cell (World.block_lt_of_cell? w _ hx465_0)).trans hx465_0
                          replace hx465_1 := (HB.out.cell (World.block_lt_of_cell? w _ hx465_1)).trans hx465_1
                          replace hx465_2 := (HB.out.cell (World.block_lt_of_cell? w _ hx465_2)).trans hx465_2
                          have HR465_2 := Aside0.mk hi465_2
                          have HC465_2 := Aside0.mk hl465_2
                          clear hi465_2 hl465_2
                          replace p465 := eq_true p465
                          replace q465 := eq_true q465
                          obtain ⟨Ao123, co123, eo123⟩ := Kd.V_slice HO_465000.out
                          subst eo123
                          obtain ⟨Ao124, co124, eo124⟩ := Kd.V_slice HO_465003.out
                          subst eo124
                          try go_wp2
                          replace HO_465000 := Aside0.mk (Kd.V_drew HO_465000.out)
                          replace HO_465003 := Aside0.mk (Kd.V_drew HO_465003.out)
                          replace BK464 := Aside0.mk (blk_drew BK464.out)
                          replace HB := Aside0.mk (below_drew1 HB.out)
                          have p506 : 0 ≤ (x7_1 : Int) := of_decide_eq_true (by first | (with_reducible assumption) | assumption)
                          have q506 : x7_1 < (l0.length : Int) := of_decide_eq_true (by first | (with_reducible assumption) | assumption)
                          obtain ⟨ad506, A506_2, c506_2, e506, hx506_0, hx506_1, hx506_2, hl506_2, hi506_2⟩ := at_T29 HR0.out x7_1 p506 q506
                          have hw506_2 := hx506_2
                          have hw506_1 := hx506_1
                          have hw506_0 := hx506_0
                          obtain rfl : ad465 = ad506 := (by injection e506)
                          replace hx506_0 := (HB.out.cell (World.block_lt_of_cell? w _ hx506_0)).trans hx506_0
                          replace hx506_1 := (HB.out.cell (World.block_lt_of_cell? w _ hx506_1)).trans hx506_1
                          replace hx506_2 := (HB.out.cell (World.block_lt_of_cell? w _ hx506_2)).trans hx506_2
                          have HR506_2 := Aside0.mk hi506_2
                          have HC506_2 := Aside0.mk hl506_2
                          clear hi506_2 hl506_2
                          replace p506 := eq_true p506
                          replace q506 := eq_true q506
                          refine start_ (n := 13) (S := fun w' => w'.cell? ⟨gb464, 0, none⟩ = some (.slice Ao123 x465000_1.length co123) ∧ w'.cell? ⟨gb464, 1, none⟩ = some (.bool x465001_1) ∧ w'.cell? ⟨gb464, 2, none⟩ = some (.int .i64 x465002_1) ∧ w'.cell? ⟨gb464, 3, none⟩ = some (.slice Ao124 x465003_1.length co124) ∧ w'.cell? (ad465.add ((x7_1).toNat * 3)) = some (.int .i64 ((rd_T29 l0 x7_1).f0)) ∧ w'.cell? ⟨(ad465.add ((x7_1).toNat * 3)).block, (ad465.add ((x7_1).toNat * 3)).off + 1, none⟩ = some (.int .i64 ((rd_T29 l0 x7_1).f1)) ∧ w'.cell? ⟨(ad465.add ((x7_1).toNat * 3)).block, (ad465.add ((x7_1).toNat * 3)).off + 2, none⟩ = some (.slice A506_2 ((rd_T29 l0 x7_1).f2).length c506_2)) (ds := []) #[false, false, false, false, false, false, false, false, false, false, false, false, false] (by kernel_rfl) rfl rfl ⟨cx BK464 0, cx BK464 1, cx BK464 2, cx BK464 3, ((HB.out.cell (World.block_lt_of_cell? w _ hw506_0)).trans hw506_0), ((HB.out.cell (World.block_lt_of_cell? w _ hw506_1)).trans hw506_1), ((HB.out.cell (World.block_lt_of_cell? w _ hw506_2)).trans hw506_2)⟩ (fun hHeld => ?_); refine with_tabW pentroughlaw19_WireOrder.tab24 pentroughlaw19_WireOrder.bits24 (fun HT_ HW_ => ?_)
                          generalize wr.drew = w125 at HO_465000 HO_465003 BK464 HB HR506_2 hx506_0 hx506_1 hx506_2 hHeld ⊢
                          refine pure_ (i := 1) (N := some 90) (v := ?_) (a' := ?_) #[false, true, false, false, false, false, false, false, false, false, false, false, false] rfl rfl (any_of HT_.out (by kernel_rfl)) (fun _ _ _ h => h) (Or.inl ⟨by rfl, ?_⟩) ?_ ?_
                          rotate_left
                          · intro w'
                            go_simp
                            with_reducible rfl
                          rotate_left
                          · simp only [Act.put, List.setIfInBounds_toArray, List.set_cons_zero, List.set_cons_succ, i64_w, i32_w]
                            rfl
                          refine pure_ (i := 2) (N := some 91) (v := ?_) (a' := ?_) #[false, true, true, false, false, false, false, false, false, false, false, false, false] rfl rfl (any_of HT_.out (by kernel_rfl)) (fun _ _ _ h => h) (Or.inl ⟨by rfl, ?_⟩) ?_ ?_
                          rotate_left
                          · intro w'
                            go_simp
                            with_reducible rfl
                          rotate_left
                          · simp only [Act.put, List.setIfInBounds_toArray, List.set_cons_zero, List.set_cons_succ, i64_w, i32_w]
                            rfl
                          refine pure_ (i := 3) (N := some 92) (v := ?_) (a' := ?_) #[false, true, true, true, false, false, false, false, false, false, false, false, false] rfl rfl (any_of HT_.out (by kernel_rfl)) (fun _ _ _ h => h) (Or.inl ⟨by rfl, ?_⟩) ?_ ?_
                          rotate_left
                          · intro w'
                            go_simp
                            with_reducible rfl
                          rotate_left
                          · simp only [Act.put, List.setIfInBounds_toArray, List.set_cons_zero, List.set_cons_succ, i64_w, i32_w]
                            rfl
                          refine pure_ (i := 4) (N := some 93) (v := ?_) (a' := ?_) #[false, true, true, true, true, false, false, false, false, false, false, false, false] rfl rfl (any_of HT_.out (by kernel_rfl)) (fun _ _ _ h => h) (Or.inl ⟨by rfl, ?_⟩) ?_ ?_
                          rotate_left
                          · intro w'
                            go_simp
                            with_reducible rfl
                          rotate_left
                          · simp only [Act.put, List.setIfInBounds_toArray, List.set_cons_zero, List.set_cons_succ, i64_w, i32_w]
                            rfl
                          refine take_ (i := 0) (N := some 89) (v := ?_) (a' := ?_) #[true, true, true, true, true, false, false, false, false, false, false, false, false] rfl rfl (take_ofW HT_.out HW_.out (by kernel_rfl)) (fun _ _ _ h => h) (Or.inl ⟨by rfl, ?_⟩) hHeld ?_ ?_
                          rotate_left
                          · rintro w' ⟨s0, s1, s2, s3, s4, s5, s6⟩
                            go_simp
                            with_reducible rfl
                          rotate_left
                          · simp only [Act.put, List.setIfInBounds_toArray, List.set_cons_zero, List.set_cons_succ, i64_w, i32_w]
                            rfl
                          refine take_ (i := 5) (N := some 94) (v := ?_) (a' := ?_) #[true, true, true, true, true, true, false, false, false, false, false, false, false] rfl rfl (take_ofW HT_.out HW_.out (by kernel_rfl)) (fun _ _ _ h => h) (Or.inl ⟨by rfl, ?_⟩) hHeld ?_ ?_
                          rotate_left
                          · rintro w' ⟨s0, s1, s2, s3, s4, s5, s6⟩
                            go_simp
                            with_reducible rfl
                          rotate_left
                          · simp only [Act.put, List.setIfInBounds_toArray, List.set_cons_zero, List.set_cons_succ, i64_w, i32_w]
                            rfl
                          refine join_ (σ := Value × Value × Nat) 2 #[true, true, true, true, true, true, true, true, true, true, true, false, false] (fun s_ => [(95, .tuple #[.agg #[s_.1, .bool t510, .int .i64 t511, s_.2.1], .int .i64 t515]), (14, .pointer (some ⟨s_.2.2, 0, none⟩)), (88, .tuple #[.agg #[s_.1, .bool t510, .int .i64 t511, s_.2.1], .int .i64 t515]), (96, .agg #[s_.1, .bool t510, .int .i64 t511, s_.2.1]), (97, .int .i64 t515)]) (fun s_ w' => (w'.cell? ⟨gb464, 0, none⟩ = some (.slice Ao123 x465000_1.length co123) ∧ w'.cell? ⟨gb464, 1, none⟩ = some (.bool x465001_1) ∧ w'.cell? ⟨gb464, 2, none⟩ = some (.int .i64 x465002_1) ∧ w'.cell? ⟨gb464, 3, none⟩ = some (.slice Ao124 x465003_1.length co124) ∧ w'.cell? (ad465.add ((x7_1).toNat * 3)) = some (.int .i64 ((rd_T29 l0 x7_1).f0)) ∧ w'.cell? ⟨(ad465.add ((x7_1).toNat * 3)).block, (ad465.add ((x7_1).toNat * 3)).off + 1, none⟩ = some (.int .i64 ((rd_T29 l0 x7_1).f1)) ∧ w'.cell? ⟨(ad465.add ((x7_1).toNat * 3)).block, (ad465.add ((x7_1).toNat * 3)).off + 2, none⟩ = some (.slice A506_2 ((rd_T29 l0 x7_1).f2).length c506_2)) ∧ (Kd.V (Kd.int .u8) 5 w' w.heap.size (fun k_ => k_ ≠ gb464 ∧ k_ ≠ s_.2.2) s_.1 t507) ∧ (Kd.V (Kd.int .u8) 5 w' w.heap.size (fun k_ => k_ ≠ gb464 ∧ k_ ≠ s_.2.2) s_.2.1 t512) ∧ (Kd.V (Kd.int .u8) 5 w' w.heap.size (fun k_ => k_ ≠ gb464 ∧ k_ ≠ s_.2.2) (.slice Ao123 x465000_1.length co123) x465000_1) ∧ (Kd.V (Kd.int .u8) 5 w' w.heap.size (fun k_ => k_ ≠ gb464 ∧ k_ ≠ s_.2.2) (.slice Ao124 x465003_1.length co124) x465003_1) ∧ (w'.heap[gb464]? = some (.cells #[.slice Ao123 x465000_1.length co123, .bool x465001_1, .int .i64 x465002_1, .slice Ao124 x465003_1.length co124] 27 (0, 0))) ∧ (w'.heap[s_.2.2]? = some (.cells #[.slice none 0 0, .bool false, .int .i64 0, .slice none 0 0] 27 (0, 0))) ∧ (w.heap.size ≤ s_.2.2) ∧ (w.heap.size ≤ s_.2.2) ∧ (gb464 ≠ s_.2.2) ∧ (s_.2.2 ≠ gb464) ∧ (Below w.heap.size w w')) ?_ ?_
                          rotate_left
                          · intro hCont
                            refine two_ (i := 6) (j := 10) (Ni := some 95) (Nj := some 14) #[true, true, true, true, true, true, true, false, false, false, false, false, false] #[true, true, true, true, true, true, false, false, false, false, true, false, false] rfl rfl rfl rfl (two_of HT_.out (by kernel_rfl)) (by decide) (by decide) (fun K hK => ?_) (fun K hK => ?_)
                            · skip
                              refine gs Try.func12 (by kernel_rfl) rfl #[.agg #[.slice Ao123 x465000_1.length co123, .bool x465001_1, .int .i64 x465002_1, .slice Ao124 x465003_1.length co124], .slice A506_2 ((rd_T29 l0 x7_1).f2).length c506_2] (by rfl) rfl rfl ?_
                              with_reducible refine (wire_Write.calls (fun k_ => k_ ≠ gb464) _ _ x465000_1 x465001_1 x465002_1 (fun k_ => k_ ≠ gb464) _ _ x465003_1 _ _ ((rd_T29 l0 x7_1).f2) t507 t510 t511 t512 t515 _ ?side1 ?side2 ?side3 ?side4 A118.out).mono ?_
                              (case side1 => exact HO_465000.out)
                              (case side2 => exact HO_465003.out)
                              (case side3 => exact Kd.C_below HR506_2.out (bb HB))
                              (case side4 => exact HC506_2.out)
                              rintro e w126 ⟨v508, v513, rfl, ho0, ho1, hb⟩
                              refine ⟨_, rfl, ?_⟩
                              replace HO_465000 := vB HO_465000 hb
                              replace HO_465003 := vB HO_465003 hb
                              have HO509 := Aside0.mk (Kd.V_lower (Kd.V_mono (ok' := fun k_ => k_ ≠ gb464) ho0 (fun k_ hk_ => oe hk_ (fun h => h) (fun h => h) (Kd.freshB (kk BK464) k_))) (below_size (bb HB)))
                              have HO514 := Aside0.mk (Kd.V_lower (Kd.V_mono (ok' := fun k_ => k_ ≠ gb464) ho1 (fun k_ hk_ => oe hk_ (fun h => h) (fun h => h) (Kd.freshB (kk BK464) k_))) (below_size (bb HB)))
                              replace BK464 := kB BK464 hb
                              replace HB := hB HB hb
                              (try clear hb)
                              (try clear hb2)
                              (try clear hk)
                              (try clear hi)
                              (try clear ho0)
                              (try clear ho1)
                              refine hK.out _ _ ⟨cx BK464 0, cx BK464 1, cx BK464 2, cx BK464 3, ((HB.out.cell (World.block_lt_of_cell? w _ hw506_0)).trans hw506_0), ((HB.out.cell (World.block_lt_of_cell? w _ hw506_1)).trans hw506_1), ((HB.out.cell (World.block_lt_of_cell? w _ hw506_2)).trans hw506_2)⟩ (fun hHeld => ?_)
                              clear hK K
                              refine norm_ (a' := ?_) ?_ ?_
                              rotate_left
                              · show Act.put _ (some 95) _ = _
                                simp only [Act.put, List.setIfInBounds_toArray, List.set_cons_zero, List.set_cons_succ, i64_w, i32_w]
                                rfl
                              refine pure_ (i := 7) (N := some 88) (v := ?_) (a' := ?_) #[true, true, true, true, true, true, true, true, false, false, false, false, false] rfl rfl (any_of HT_.out (by kernel_rfl)) (fun _ _ _ h => h) (Or.inl ⟨by rfl, ?_⟩) ?_ ?_
                              rotate_left
                              · intro w'
                                go_simp
                                with_reducible rfl
                              rotate_left
                              · simp only [Act.put, List.setIfInBounds_toArray, List.set_cons_zero, List.set_cons_succ, i64_w, i32_w]
                                rfl
                              refine pure_ (i := 8) (N := some 96) (v := ?_) (a' := ?_) #[true, true, true, true, true, true, true, true, true, false, false, false, false] rfl rfl (any_of HT_.out (by kernel_rfl)) (fun _ _ _ h => h) (Or.inl ⟨by rfl, ?_⟩) ?_ ?_
                              rotate_left
                              · intro w'
                                go_simp
                                with_reducible rfl
                              rotate_left
                              · simp only [Act.put, List.setIfInBounds_toArray, List.set_cons_zero, List.set_cons_succ, i64_w, i32_w]
                                rfl
                              refine pure_ (i := 9) (N := some 97) (v := ?_) (a' := ?_) #[true, true, true, true, true, true, true, true, true, true, false, false, false] rfl rfl (any_of HT_.out (by kernel_rfl)) (fun _ _ _ h => h) (Or.inl ⟨by rfl, ?_⟩) ?_ ?_
                              rotate_left
                              · intro w'
                                go_simp
                                with_reducible rfl
                              rotate_left
                              · simp only [Act.put, List.setIfInBounds_toArray, List.set_cons_zero, List.set_cons_succ, i64_w, i32_w]
                                rfl
                              refine one_ (i := 10) (N := some 14) #[true, true, true, true, true, true, true, true, true, true, true, false, false] rfl rfl (one_of HT_.out (by kernel_rfl)) (by decide) (fun K hK => ?_)
                              refine box_step ?hg (N := 14) ?hd (cs := #[.slice none 0 0, .bool false, .int .i64 0, .slice none 0 0]) (t := 27) ?hr ?_; (case hd => rfl); (case hg => rfl); (case hr => first | (go_simp; done) | (go_simp; rfl))
                              intro gb516 hg w127 hbox hb
                              replace HO_465000 := vE HO_465000 hg hb
                              replace HO_465003 := vE HO_465003 hg hb
                              replace HO509 := vE HO509 hg hb
                              replace HO514 := vE HO514 hg hb
                              have BK516 := Aside0.mk hbox
                              have GW516 := gE HB hg
                              have GE516 := gE HB hg
                              replace HB := hB HB hb
                              have NB464_516 := nL BK464 hg
                              have NB516_464 := nG BK464 hg
                              replace BK464 := kB BK464 hb
                              clear hb hbox hg
                              refine hK.out _ _ ⟨cx BK464 0, cx BK464 1, cx BK464 2, cx BK464 3, ((HB.out.cell (World.block_lt_of_cell? w _ hw506_0)).trans hw506_0), ((HB.out.cell (World.block_lt_of_cell? w _ hw506_1)).trans hw506_1), ((HB.out.cell (World.block_lt_of_cell? w _ hw506_2)).trans hw506_2)⟩ (fun hHeld => ?_)
                              clear hK K
                              refine norm_ (a' := ?_) ?_ ?_
                              rotate_left
                              · show Act.put _ (some 14) _ = _
                                simp only [Act.put, List.setIfInBounds_toArray, List.set_cons_zero, List.set_cons_succ, i64_w, i32_w]
                                rfl
                              exact norm_ (by simp only [putAll, Act.put, List.setIfInBounds_toArray, List.set_cons_zero, List.set_cons_succ]) (hCont (v508, v513, gb516) _ ⟨hHeld, (vM HO509), (vM HO514), (vM HO_465000), (vM HO_465003), (kk BK464), (kk BK516), GW516.out, GE516.out, NB464_516.out, NB516_464.out, (bb HB)⟩)
                            · skip
                              refine box_step ?hg (N := 14) ?hd (cs := #[.slice none 0 0, .bool false, .int .i64 0, .slice none 0 0]) (t := 27) ?hr ?_; (case hd => rfl); (case hg => rfl); (case hr => first | (go_simp; done) | (go_simp; rfl))
                              intro gb516 hg w126 hbox hb
                              replace HO_465000 := vE HO_465000 hg hb
                              replace HO_465003 := vE HO_465003 hg hb
                              have BK516 := Aside0.mk hbox
                              have GW516 := gE HB hg
                              have GE516 := gE HB hg
                              replace HB := hB HB hb
                              have NB464_516 := nL BK464 hg
                              have NB516_464 := nG BK464 hg
                              replace BK464 := kB BK464 hb
                              clear hb hbox hg
                              refine hK.out _ _ ⟨cx BK464 0, cx BK464 1, cx BK464 2, cx BK464 3, ((HB.out.cell (World.block_lt_of_cell? w _ hw506_0)).trans hw506_0), ((HB.out.cell (World.block_lt_of_cell? w _ hw506_1)).trans hw506_1), ((HB.out.cell (World.block_lt_of_cell? w _ hw506_2)).trans hw506_2)⟩ (fun hHeld => ?_)
                              clear hK K
                              refine norm_ (a' := ?_) ?_ ?_
                              rotate_left
                              · show Act.put _ (some 14) _ = _
                                simp only [Act.put, List.setIfInBounds_toArray, List.set_cons_zero, List.set_cons_succ, i64_w, i32_w]
                                rfl
                              refine one_ (i := 6) (N := some 95) #[true, true, true, true, true, true, true, false, false, false, true, false, false] rfl rfl (one_of HT_.out (by kernel_rfl)) (by decide) (fun K hK => ?_)
                              refine gs Try.func12 (by kernel_rfl) rfl #[.agg #[.slice Ao123 x465000_1.length co123, .bool x465001_1, .int .i64 x465002_1, .slice Ao124 x465003_1.length co124], .slice A506_2 ((rd_T29 l0 x7_1).f2).length c506_2] (by rfl) rfl rfl ?_
                              with_reducible refine (wire_Write.calls (fun k_ => (k_ ≠ gb464 ∧ k_ ≠ gb516)) _ _ x465000_1 x465001_1 x465002_1 (fun k_ => (k_ ≠ gb464 ∧ k_ ≠ gb516)) _ _ x465003_1 _ _ ((rd_T29 l0 x7_1).f2) t507 t510 t511 t512 t515 _ ?side1 ?side2 ?side3 ?side4 A118.out).mono ?_
                              (case side1 => exact HO_465000.out)
                              (case side2 => exact HO_465003.out)
                              (case side3 => exact Kd.C_below HR506_2.out (bb HB))
                              (case side4 => exact HC506_2.out)
                              rintro e w127 ⟨v508, v513, rfl, ho0, ho1, hb⟩
                              refine ⟨_, rfl, ?_⟩
                              replace HO_465000 := vB HO_465000 hb
                              replace HO_465003 := vB HO_465003 hb
                              have HO509 := Aside0.mk (Kd.V_lower (Kd.V_mono (ok' := fun k_ => k_ ≠ gb464 ∧ k_ ≠ gb516) ho0 (fun k_ hk_ => ⟨oe hk_ (fun h => h.1) (fun h => h.1) (Kd.freshB (kk BK464) k_), oe hk_ (fun h => h.2) (fun h => h.2) (Kd.freshB (kk BK516) k_)⟩)) (below_size (bb HB)))
                              have HO514 := Aside0.mk (Kd.V_lower (Kd.V_mono (ok' := fun k_ => k_ ≠ gb464 ∧ k_ ≠ gb516) ho1 (fun k_ hk_ => ⟨oe hk_ (fun h => h.1) (fun h => h.1) (Kd.freshB (kk BK464) k_), oe hk_ (fun h => h.2) (fun h => h.2) (Kd.freshB (kk BK516) k_)⟩)) (below_size (bb HB)))
                              replace BK464 := kB BK464 hb
                              replace BK516 := kB BK516 hb
                              replace HB := hB HB hb
                              (try clear hb)
                              (try clear hb2)
                              (try clear hk)
                              (try clear hi)
                              (try clear ho0)
                              (try clear ho1)
                              refine hK.out _ _ ⟨cx BK464 0, cx BK464 1, cx BK464 2, cx BK464 3, ((HB.out.cell (World.block_lt_of_cell? w _ hw506_0)).trans hw506_0), ((HB.out.cell (World.block_lt_of_cell? w _ hw506_1)).trans hw506_1), ((HB.out.cell (World.block_lt_of_cell? w _ hw506_2)).trans hw506_2)⟩ (fun hHeld => ?_)
                              clear hK K
                              refine norm_ (a' := ?_) ?_ ?_
                              rotate_left
                              · show Act.put _ (some 95) _ = _
                                simp only [Act.put, List.setIfInBounds_toArray, List.set_cons_zero, List.set_cons_succ, i64_w, i32_w]
                                rfl
                              refine pure_ (i := 7) (N := some 88) (v := ?_) (a' := ?_) #[true, true, true, true, true, true, true, true, false, false, true, false, false] rfl rfl (any_of HT_.out (by kernel_rfl)) (fun _ _ _ h => h) (Or.inl ⟨by rfl, ?_⟩) ?_ ?_
                              rotate_left
                              · intro w'
                                go_simp
                                with_reducible rfl
                              rotate_left
                              · simp only [Act.put, List.setIfInBounds_toArray, List.set_cons_zero, List.set_cons_succ, i64_w, i32_w]
                                rfl
                              refine pure_ (i := 8) (N := some 96) (v := ?_) (a' := ?_) #[true, true, true, true, true, true, true, true, true, false, true, false, false] rfl rfl (any_of HT_.out (by kernel_rfl)) (fun _ _ _ h => h) (Or.inl ⟨by rfl, ?_⟩) ?_ ?_
                              rotate_left
                              · intro w'
                                go_simp
                                with_reducible rfl
                              rotate_left
                              · simp only [Act.put, List.setIfInBounds_toArray, List.set_cons_zero, List.set_cons_succ, i64_w, i32_w]
                                rfl
                              refine pure_ (i := 9) (N := some 97) (v := ?_) (a' := ?_) #[true, true, true, true, true, true, true, true, true, true, true, false, false] rfl rfl (any_of HT_.out (by kernel_rfl)) (fun _ _ _ h => h) (Or.inl ⟨by rfl, ?_⟩) ?_ ?_
                              rotate_left
                              · intro w'
                                go_simp
                                with_reducible rfl
                              rotate_left
                              · simp only [Act.put, List.setIfInBounds_toArray, List.set_cons_zero, List.set_cons_succ, i64_w, i32_w]
                                rfl
                              exact norm_ (by simp only [putAll, Act.put, List.setIfInBounds_toArray, List.set_cons_zero, List.set_cons_succ]) (hCont (v508, v513, gb516) _ ⟨hHeld, (vM HO509), (vM HO514), (vM HO_465000), (vM HO_465003), (kk BK464), (kk BK516), GW516.out, GE516.out, NB464_516.out, NB516_464.out, (bb HB)⟩)
                          clear HO_465000 HO_465003 BK464 HB
                          rintro ⟨v508, v513, gb516⟩ w128 hS_
                          dsimp only at hS_
                          obtain ⟨hHeld, h0_, h1_, h2_, h3_, h4_, h5_, h6_, h7_, h8_, h9_, h10_⟩ := hS_
                          have HO509 := Aside0.mk h0_
                          have HO514 := Aside0.mk h1_
                          have HO_465000 := Aside0.mk h2_
                          have HO_465003 := Aside0.mk h3_
                          have BK464 := Aside0.mk h4_
                          have BK516 := Aside0.mk h5_
                          have GW516 := Aside0.mk h6_
                          have GE516 := Aside0.mk h7_
                          have NB464_516 := Aside0.mk h8_
                          have NB516_464 := Aside0.mk h9_
                          have HB := Aside0.mk h10_
                          clear h0_ h1_ h2_ h3_ h4_ h5_ h6_ h7_ h8_ h9_ h10_
                          obtain ⟨Ao129, co129, eo129⟩ := Kd.V_slice HO509.out
                          (first | subst eo129 | (injection eo129 with f1_ f2_ f3_; have f4_ := f1_.symm; have f5_ := f3_.symm; clear f1_ f2_ f3_; subst f4_; subst f5_))
                          obtain ⟨Ao133, co133, eo133⟩ := Kd.V_slice HO514.out
                          (first | subst eo133 | (injection eo133 with f1_ f2_ f3_; have f4_ := f1_.symm; have f5_ := f3_.symm; clear f1_ f2_ f3_; subst f4_; subst f5_))
                          refine norm_ (a' := ?_) ?_ ?_
                          rotate_left
                          · simp only [putAll, Act.put, List.setIfInBounds_toArray, List.set_cons_zero, List.set_cons_succ]
                            rfl
                          refine one_ (i := 11) (N := none) #[true, true, true, true, true, true, true, true, true, true, true, true, false] rfl rfl (one_of HT_.out (by kernel_rfl)) (by decide) (fun K hK => ?_)
                          have hs130 : w128.cell? ⟨gb516, 0, none⟩ = some (.slice none 0 0) := cx BK516 0
                          have hfs130 := blk_frozen BK516.out 0
                          have hns130_0 := NB464_516.out
                          have hms130_0 := NB516_464.out
                          have hs131 : w128.cell? ⟨gb516, 1, none⟩ = some (.bool false) := cx BK516 1
                          have hfs131 := blk_frozen BK516.out 1
                          have hns131_0 := NB464_516.out
                          have hms131_0 := NB516_464.out
                          have hs132 : w128.cell? ⟨gb516, 2, none⟩ = some (.int .i64 0) := cx BK516 2
                          have hfs132 := blk_frozen BK516.out 2
                          have hns132_0 := NB464_516.out
                          have hms132_0 := NB516_464.out
                          have hs134 : w128.cell? ⟨gb516, 3, none⟩ = some (.slice none 0 0) := cx BK516 3
                          have hfs134 := blk_frozen BK516.out 3
                          have hns134_0 := NB464_516.out
                          have hms134_0 := NB516_464.out
                          refine skip_ (w1 := ?_) (by rfl) rfl ?_ ?_
                          rotate_left
                          · go_simp
                            rfl
                          refine hK.out _ _ ⟨((cell_far (p := ⟨gb516, _, none⟩) NB464_516.out _).trans (((cell_far (p := ⟨gb516, _, none⟩) NB464_516.out _).trans (((cell_far (p := ⟨gb516, _, none⟩) NB464_516.out _).trans (((cell_far (p := ⟨gb516, _, none⟩) NB464_516.out _).trans (hHeld.1)))))))), ((cell_far (p := ⟨gb516, _, none⟩) NB464_516.out _).trans (((cell_far (p := ⟨gb516, _, none⟩) NB464_516.out _).trans (((cell_far (p := ⟨gb516, _, none⟩) NB464_516.out _).trans (((cell_far (p := ⟨gb516, _, none⟩) NB464_516.out _).trans (hHeld.2.1)))))))), ((cell_far (p := ⟨gb516, _, none⟩) NB464_516.out _).trans (((cell_far (p := ⟨gb516, _, none⟩) NB464_516.out _).trans (((cell_far (p := ⟨gb516, _, none⟩) NB464_516.out _).trans (((cell_far (p := ⟨gb516, _, none⟩) NB464_516.out _).trans (hHeld.2.2.1)))))))), ((cell_far (p := ⟨gb516, _, none⟩) NB464_516.out _).trans (((cell_far (p := ⟨gb516, _, none⟩) NB464_516.out _).trans (((cell_far (p := ⟨gb516, _, none⟩) NB464_516.out _).trans (((cell_far (p := ⟨gb516, _, none⟩) NB464_516.out _).trans (hHeld.2.2.2.1)))))))), ((cell_far (p := ⟨gb516, _, none⟩) (by first | exact Nat.ne_of_lt (Nat.lt_of_lt_of_le (by have := World.block_lt_of_cell? _ _ hw506_0; first | rwa [add_block] at this | exact this) GW516.out) | (rw [add_block]; exact Nat.ne_of_lt (Nat.lt_of_lt_of_le (by have := World.block_lt_of_cell? _ _ hw506_0; first | rwa [add_block] at this | exact this) GW516.out)) | (show (Addr.add _ _).block ≠ _; rw [add_block]; exact Nat.ne_of_lt (Nat.lt_of_lt_of_le (by have := World.block_lt_of_cell? _ _ hw506_0; first | rwa [add_block] at this | exact this) GW516.out)) | (dsimp only; exact Nat.ne_of_lt (Nat.lt_of_lt_of_le (by have := World.block_lt_of_cell? _ _ hw506_0; first | rwa [add_block] at this | exact this) GW516.out))) _).trans (((cell_far (p := ⟨gb516, _, none⟩) (by first | exact Nat.ne_of_lt (Nat.lt_of_lt_of_le (by have := World.block_lt_of_cell? _ _ hw506_0; first | rwa [add_block] at this | exact this) GW516.out) | (rw [add_block]; exact Nat.ne_of_lt (Nat.lt_of_lt_of_le (by have := World.block_lt_of_cell? _ _ hw506_0; first | rwa [add_block] at this | exact this) GW516.out)) | (show (Addr.add _ _).block ≠ _; rw [add_block]; exact Nat.ne_of_lt (Nat.lt_of_lt_of_le (by have := World.block_lt_of_cell? _ _ hw506_0; first | rwa [add_block] at this | exact this) GW516.out)) | (dsimp only; exact Nat.ne_of_lt (Nat.lt_of_lt_of_le (by have := World.block_lt_of_cell? _ _ hw506_0; first | rwa [add_block] at this | exact this) GW516.out))) _).trans (((cell_far (p := ⟨gb516, _, none⟩) (by first | exact Nat.ne_of_lt (Nat.lt_of_lt_of_le (by have := World.block_lt_of_cell? _ _ hw506_0; first | rwa [add_block] at this | exact this) GW516.out) | (rw [add_block]; exact Nat.ne_of_lt (Nat.lt_of_lt_of_le (by have := World.block_lt_of_cell? _ _ hw506_0; first | rwa [add_block] at this | exact this) GW516.out)) | (show (Addr.add _ _).block ≠ _; rw [add_block]; exact Nat.ne_of_lt (Nat.lt_of_lt_of_le (by have := World.block_lt_of_cell? _ _ hw506_0; first | rwa [add_block] at this | exact this) GW516.out)) | (dsimp only; exact Nat.ne_of_lt (Nat.lt_of_lt_of_le (by have := World.block_lt_of_cell? _ _ hw506_0; first | rwa [add_block] at this | exact this) GW516.out))) _).trans (((cell_far (p := ⟨gb516, _, none⟩) (by first | exact Nat.ne_of_lt (Nat.lt_of_lt_of_le (by have := World.block_lt_of_cell? _ _ hw506_0; first | rwa [add_block] at this | exact this) GW516.out) | (rw [add_block]; exact Nat.ne_of_lt (Nat.lt_of_lt_of_le (by have := World.block_lt_of_cell? _ _ hw506_0; first | rwa [add_block] at this | exact this) GW516.out)) | (show (Addr.add _ _).block ≠ _; rw [add_block]; exact Nat.ne_of_lt (Nat.lt_of_lt_of_le (by have := World.block_lt_of_cell? _ _ hw506_0; first | rwa [add_block] at this | exact this) GW516.out)) | (dsimp only; exact Nat.ne_of_lt (Nat.lt_of_lt_of_le (by have := World.block_lt_of_cell? _ _ hw506_0; first | rwa [add_block] at this | exact this) GW516.out))) _).trans (hHeld.2.2.2.2.1)))))))), ((cell_far (p := ⟨gb516, _, none⟩) (by first | exact Nat.ne_of_lt (Nat.lt_of_lt_of_le (by have := World.block_lt_of_cell? _ _ hw506_1; first | rwa [add_block] at this | exact this) GW516.out) | (rw [add_block]; exact Nat.ne_of_lt (Nat.lt_of_lt_of_le (by have := World.block_lt_of_cell? _ _ hw506_1; first | rwa [add_block] at this | exact this) GW516.out)) | (show (Addr.add _ _).block ≠ _; rw [add_block]; exact Nat.ne_of_lt (Nat.lt_of_lt_of_le (by have := World.block_lt_of_cell? _ _ hw506_1; first | rwa [add_block] at this | exact this) GW516.out)) | (dsimp only; exact Nat.ne_of_lt (Nat.lt_of_lt_of_le (by have := World.block_lt_of_cell? _ _ hw506_1; first | rwa [add_block] at this | exact this) GW516.out))) _).trans (((cell_far (p := ⟨gb516, _, none⟩) (by first | exact Nat.ne_of_lt (Nat.lt_of_lt_of_le (by have := World.block_lt_of_cell? _ _ hw506_1; first | rwa [add_block] at this | exact this) GW516.out) | (rw [add_block]; exact Nat.ne_of_lt (Nat.lt_of_lt_of_le (by have := World.block_lt_of_cell? _ _ hw506_1; first | rwa [add_block] at this | exact this) GW516.out)) | (show (Addr.add _ _).block ≠ _; rw [add_block]; exact Nat.ne_of_lt (Nat.lt_of_lt_of_le (by have := World.block_lt_of_cell? _ _ hw506_1; first | rwa [add_block] at this | exact this) GW516.out)) | (dsimp only; exact Nat.ne_of_lt (Nat.lt_of_lt_of_le (by have := World.block_lt_of_cell? _ _ hw506_1; first | rwa [add_block] at this | exact this) GW516.out))) _).trans (((cell_far (p := ⟨gb516, _, none⟩) (by first | exact Nat.ne_of_lt (Nat.lt_of_lt_of_le (by have := World.block_lt_of_cell? _ _ hw506_1; first | rwa [add_block] at this | exact this) GW516.out) | (rw [add_block]; exact Nat.ne_of_lt (Nat.lt_of_lt_of_le (by have := World.block_lt_of_cell? _ _ hw506_1; first | rwa [add_block] at this | exact this) GW516.out)) | (show (Addr.add _ _).block ≠ _; rw [add_block]; exact Nat.ne_of_lt (Nat.lt_of_lt_of_le (by have := World.block_lt_of_cell? _ _ hw506_1; first | rwa [add_block] at this | exact this) GW516.out)) | (dsimp only; exact Nat.ne_of_lt (Nat.lt_of_lt_of_le (by have := World.block_lt_of_cell? _ _ hw506_1; first | rwa [add_block] at this | exact this) GW516.out))) _).trans (((cell_far (p := ⟨gb516, _, none⟩) (by first | exact Nat.ne_of_lt (Nat.lt_of_lt_of_le (by have := World.block_lt_of_cell? _ _ hw506_1; first | rwa [add_block] at this | exact this) GW516.out) | (rw [add_block]; exact Nat.ne_of_lt (Nat.lt_of_lt_of_le (by have := World.block_lt_of_cell? _ _ hw506_1; first | rwa [add_block] at this | exact this) GW516.out)) | (show (Addr.add _ _).block ≠ _; rw [add_block]; exact Nat.ne_of_lt (Nat.lt_of_lt_of_le (by have := World.block_lt_of_cell? _ _ hw506_1; first | rwa [add_block] at this | exact this) GW516.out)) | (dsimp only; exact Nat.ne_of_lt (Nat.lt_of_lt_of_le (by have := World.block_lt_of_cell? _ _ hw506_1; first | rwa [add_block] at this | exact this) GW516.out))) _).trans (hHeld.2.2.2.2.2.1)))))))), ((cell_far (p := ⟨gb516, _, none⟩) (by first | exact Nat.ne_of_lt (Nat.lt_of_lt_of_le (by have := World.block_lt_of_cell? _ _ hw506_2; first | rwa [add_block] at this | exact this) GW516.out) | (rw [add_block]; exact Nat.ne_of_lt (Nat.lt_of_lt_of_le (by have := World.block_lt_of_cell? _ _ hw506_2; first | rwa [add_block] at this | exact this) GW516.out)) | (show (Addr.add _ _).block ≠ _; rw [add_block]; exact Nat.ne_of_lt (Nat.lt_of_lt_of_le (by have := World.block_lt_of_cell? _ _ hw506_2; first | rwa [add_block] at this | exact this) GW516.out)) | (dsimp only; exact Nat.ne_of_lt (Nat.lt_of_lt_of_le (by have := World.block_lt_of_cell? _ _ hw506_2; first | rwa [add_block] at this | exact this) GW516.out))) _).trans (((cell_far (p := ⟨gb516, _, none⟩) (by first | exact Nat.ne_of_lt (Nat.lt_of_lt_of_le (by have := World.block_lt_of_cell? _ _ hw506_2; first | rwa [add_block] at this | exact this) GW516.out) | (rw [add_block]; exact Nat.ne_of_lt (Nat.lt_of_lt_of_le (by have := World.block_lt_of_cell? _ _ hw506_2; first | rwa [add_block] at this | exact this) GW516.out)) | (show (Addr.add _ _).block ≠ _; rw [add_block]; exact Nat.ne_of_lt (Nat.lt_of_lt_of_le (by have := World.block_lt_of_cell? _ _ hw506_2; first | rwa [add_block] at this | exact this) GW516.out)) | (dsimp only; exact Nat.ne_of_lt (Nat.lt_of_lt_of_le (by have := World.block_lt_of_cell? _ _ hw506_2; first | rwa [add_block] at this | exact this) GW516.out))) _).trans (((cell_far (p := ⟨gb516, _, none⟩) (by first | exact Nat.ne_of_lt (Nat.lt_of_lt_of_le (by have := World.block_lt_of_cell? _ _ hw506_2; first | rwa [add_block] at this | exact this) GW516.out) | (rw [add_block]; exact Nat.ne_of_lt (Nat.lt_of_lt_of_le (by have := World.block_lt_of_cell? _ _ hw506_2; first | rwa [add_block] at this | exact this) GW516.out)) | (show (Addr.add _ _).block ≠ _; rw [add_block]; exact Nat.ne_of_lt (Nat.lt_of_lt_of_le (by have := World.block_lt_of_cell? _ _ hw506_2; first | rwa [add_block] at this | exact this) GW516.out)) | (dsimp only; exact Nat.ne_of_lt (Nat.lt_of_lt_of_le (by have := World.block_lt_of_cell? _ _ hw506_2; first | rwa [add_block] at this | exact this) GW516.out))) _).trans (((cell_far (p := ⟨gb516, _, none⟩) (by first | exact Nat.ne_of_lt (Nat.lt_of_lt_of_le (by have := World.block_lt_of_cell? _ _ hw506_2; first | rwa [add_block] at this | exact this) GW516.out) | (rw [add_block]; exact Nat.ne_of_lt (Nat.lt_of_lt_of_le (by have := World.block_lt_of_cell? _ _ hw506_2; first | rwa [add_block] at this | exact this) GW516.out)) | (show (Addr.add _ _).block ≠ _; rw [add_block]; exact Nat.ne_of_lt (Nat.lt_of_lt_of_le (by have := World.block_lt_of_cell? _ _ hw506_2; first | rwa [add_block] at this | exact this) GW516.out)) | (dsimp only; exact Nat.ne_of_lt (Nat.lt_of_lt_of_le (by have := World.block_lt_of_cell? _ _ hw506_2; first | rwa [add_block] at this | exact this) GW516.out))) _).trans (hHeld.2.2.2.2.2.2))))))))⟩ (fun hHeld => ?_)
                          clear hK K
                          refine pure_ (i := 12) (N := some 15) (v := ?_) (a' := ?_) #[true, true, true, true, true, true, true, true, true, true, true, true, true] rfl rfl (any_of HT_.out (by kernel_rfl)) (fun _ _ _ h => h) (Or.inl ⟨by rfl, ?_⟩) ?_ ?_
                          rotate_left
                          · intro w'
                            go_simp
                            with_reducible rfl
                          rotate_left
                          · simp only [Act.put, List.setIfInBounds_toArray, List.set_cons_zero, List.set_cons_succ, i64_w, i32_w]
                            rfl
                          refine done_ (done_of HT_.out (by kernel_rfl)) ?_
                          obtain ⟨w135, hw⟩ : ∃ w_, w_ = ((((w128.setCell ⟨gb516, 0, none⟩ (.slice Ao129 t507.length co129)).setCell ⟨gb516, 1, none⟩ (.bool t510)).setCell ⟨gb516, 2, none⟩ (.int .i64 t511)).setCell ⟨gb516, 3, none⟩ (.slice Ao133 t512.length co133)) := ⟨_, rfl⟩
                          rw [← hw]
                          replace HO_465000 := vS (fun k_ => k_ ≠ gb464 ∧ k_ ≠ gb516) HO_465000 hw
                          replace HO_465003 := vS (fun k_ => k_ ≠ gb464 ∧ k_ ≠ gb516) HO_465003 hw
                          replace HO509 := vS (fun k_ => k_ ≠ gb464 ∧ k_ ≠ gb516) HO509 hw
                          replace HO514 := vS (fun k_ => k_ ≠ gb464 ∧ k_ ≠ gb516) HO514 hw
                          replace BK464 := kS BK464 hw
                          replace BK516 := kP4 BK516 hw
                          replace HB := hS HB hw
                          clear hw
                          have hnb136 := NB516_464.out
                          have hnc136 := NB464_516.out
                          obtain ⟨hcz137_0, hcz137_1, hcz137_2, hcz137_3, hfz137_0, hfz137_1, hfz137_2, hfz137_3⟩ := bc4 BK516
                          obtain ⟨hcz138_0, hcz138_1, hcz138_2, hcz138_3, hfz138_0, hfz138_1, hfz138_2, hfz138_3⟩ := bc4 BK464
                          try go_wp2_with (first | ((with_reducible refine gate_store (t := 27) (p := 4) rfl ?_); refine store_event (t := 27) (p := 4) (v := ?vo_w139) (w1 := ((((w135.setCell ⟨gb464, 0, none⟩ (.slice Ao129 t507.length co129)).setCell ⟨gb464, 1, none⟩ (.bool t510)).setCell ⟨gb464, 2, none⟩ (.int .i64 t511)).setCell ⟨gb464, 3, none⟩ (.slice Ao133 t512.length co133))) ?hg ?ho ?hn ?hr ?_; (case ho => rfl); (case hg => rfl); (case hn => rfl); (case hr => first | (go_simp; done) | (go_simp; rfl)); intro w139 hw; replace HO_465000 := vS (fun k_ => k_ ≠ gb464 ∧ k_ ≠ gb516) HO_465000 hw; replace HO_465003 := vS (fun k_ => k_ ≠ gb464 ∧ k_ ≠ gb516) HO_465003 hw; replace HO509 := vS (fun k_ => k_ ≠ gb464 ∧ k_ ≠ gb516) HO509 hw; replace HO514 := vS (fun k_ => k_ ≠ gb464 ∧ k_ ≠ gb516) HO514 hw; replace BK464 := kP4 BK464 hw; replace BK516 := kS BK516 hw; replace HB : Aside0 (Below w.heap.size w w139) := ⟨(by rw [hw]; exact (bb HB))⟩; clear hw; obtain ⟨hcz140_0, hcz140_1, hcz140_2, hcz140_3, hfz140_0, hfz140_1, hfz140_2, hfz140_3⟩ := bc4 BK464; have hcv141 := v_string (P := Try.prog) Try.underlying25 Try.underlying5 Try.underlying9 HO509.out) | (go_at_call 15; (with_reducible refine (wire_Sane.calls _ _ t507 t510 t511 _ _ t512 true _ ?side1 ?side2 ?side3 ?side4 A121.out).mono ?_); (case side1 => exact (Kd.V_reads' (vv HO509)).2.2); (case side2 => exact (Kd.V_reads' HO509.out).2.1); (case side3 => exact (Kd.V_reads' (vv HO514)).2.2); (case side4 => exact (Kd.V_reads' HO514.out).2.1); rintro e w142 ⟨rfl, hb⟩; replace HO_465000 := vB HO_465000 hb; replace HO_465003 := vB HO_465003 hb; replace HO509 := vB HO509 hb; replace HO514 := vB HO514 hb; replace BK464 := kB BK464 hb; replace BK516 := kB BK516 hb; replace HB := hB HB hb; (try clear hb); (try clear hb2); (try clear hk); (try clear hi)))
                          go_roundg k1
                          case measure => have := HK1.out; omega
                          case rel => exact ⟨(x5_1), (x6_1), (wrap64 (x7_1 + 1)), (t507), (t510), (t511), (t512), (.slice Ao129 t507.length co129), (.slice Ao133 t512.length co133), (by first | rfl | (simp; done) | (simp [*]; done)), (by first | rfl | (simp; done) | (simp [*]; done)), (by first | rfl | (simp; done) | (simp [*]; done)), H', ⟨by have := HK1.out; omega⟩, ⟨vM HO509⟩, ⟨vM HO514⟩, ⟨kk BK464⟩, ⟨bb HB⟩⟩
                        · replace c122 := Bool.eq_false_iff.mpr c122
                          subst c122
                          rw [if_neg nf] at H
                          cases H; exact absurd HRT.out (by decide)
                      · rw [if_neg c120] at H
                        cases H; exact absurd HRT.out (by decide)
                    · rw [if_neg c119] at H
                      exact absurd H (by simp)
                  · rw [if_neg c117] at H
                    have c117b0 : (((rd_T29 l0 x7_1).f0) == 3) = false := beq_eq_false_iff_ne.mpr c117
                    have c117b1 : (((rd_T29 l0 x7_1).f0) != 3) = true := bne_iff_ne.mpr c117
                    by_cases c143 : ((rd_T29 l0 x7_1).f0) = 4
                    · rw [if_pos c143] at H
                      have c143b0 : (((rd_T29 l0 x7_1).f0) == 4) = true := beq_iff_eq.mpr c143
                      have c143b1 : (((rd_T29 l0 x7_1).f0) != 4) = false := bne_eq_false_iff_eq.mpr c143
                      clear c143
                      obtain ⟨⟨t518, t521, t522, t523⟩, A144, H⟩ := ob H
                      dsimp only at H
                      by_cases c145 : x6_1.size + (strOfNums t518).size ≤ 9223372036854775807
                      · rw [if_pos c145] at H
                        have c145b0 := eq_true c145
                        have c145b1 : decide (x6_1.size + (strOfNums t518).size ≤ 9223372036854775807) = true := decide_eq_true c145
                        try have c145b2 : (9223372036854775807 < x6_1.size + (strOfNums t518).size) = False := eq_false (Nat.not_lt.2 c145)
                        by_cases c146 : (x6_1 ++ (strOfNums t518)).toList = x5_1.toList
                        · rw [if_pos c146] at H
                          have c146b0 : ((x6_1 ++ (strOfNums t518)).toList == x5_1.toList) = true := beq_iff_eq.mpr c146
                          have c146b1 : ((x6_1 ++ (strOfNums t518)).toList != x5_1.toList) = false := bne_eq_false_iff_eq.mpr c146
                          clear c146
                          obtain ⟨t526, A147, H⟩ := ob H
                          by_cases c148 : t526 = true
                          · subst c148
                            rw [if_pos rfl] at H
                            have H' := Aside0.mk H
                            clear H
                            have p465 : 0 ≤ (x7_1 : Int) := of_decide_eq_true (by first | (with_reducible assumption) | assumption)
                            have q465 : x7_1 < (l0.length : Int) := of_decide_eq_true (by first | (with_reducible assumption) | assumption)
                            obtain ⟨ad465, A465_2, c465_2, e465, hx465_0, hx465_1, hx465_2, hl465_2, hi465_2⟩ := at_T29 HR0.out x7_1 p465 q465
                            cases e465
                            replace hx465_0 := (HB.out.cell (World.block_lt_of_cell? w _ hx465_0)).trans hx465_0
                            replace hx465_1 := (HB.out.cell (World.block_lt_of_cell? w _ hx465_1)).trans hx465_1
                            replace hx465_2 := (HB.out.cell (World.block_lt_of_cell? w _ hx465_2)).trans hx465_2
                            have HR465_2 := Aside0.mk hi465_2
                            have HC465_2 := Aside0.mk hl465_2
                            clear hi465_2 hl465_2
                            replace p465 := eq_true p465
                            replace q465 := eq_true q465
                            obtain ⟨hcz149_0, hcz149_1, hcz149_2, hcz149_3, hfz149_0, hfz149_1, hfz149_2, hfz149_3⟩ := bc4 BK464
                            obtain ⟨Ao150, co150, eo150⟩ := Kd.V_slice HO_465000.out
                            subst eo150
                            obtain ⟨Ao151, co151, eo151⟩ := Kd.V_slice HO_465003.out
                            subst eo151
                            go_wp2_with (first | ((with_reducible refine gate_callee (f := 26) rfl ?_); refine gL (some 102) rfl rfl Try.func26 (by kernel_rfl) rfl #[.agg #[.slice Ao150 x465000_1.length co150, .bool x465001_1, .int .i64 x465002_1, .slice Ao151 x465003_1.length co151]] rfl ?_; (with_reducible refine (wire_Finish.calls (fun k_ => k_ ≠ gb464) _ _ x465000_1 x465001_1 x465002_1 (fun k_ => k_ ≠ gb464) _ _ x465003_1 t518 t521 t522 t523 _ ?side1 ?side2 A144.out).mono ?_); (case side1 => exact HO_465000.out); (case side2 => exact HO_465003.out); rintro e w152 ⟨v519, v524, rfl, ho0, ho1, hb⟩; refine ⟨_, rfl, ?_⟩; replace HO_465000 := vB HO_465000 hb; replace HO_465003 := vB HO_465003 hb; have HO520 := Aside0.mk (Kd.V_lower (Kd.V_mono (ok' := fun k_ => k_ ≠ gb464) ho0 (fun k_ hk_ => oe hk_ (fun h => h) (fun h => h) (Kd.freshB (kk BK464) k_))) (below_size (bb HB))); have HO525 := Aside0.mk (Kd.V_lower (Kd.V_mono (ok' := fun k_ => k_ ≠ gb464) ho1 (fun k_ hk_ => oe hk_ (fun h => h) (fun h => h) (Kd.freshB (kk BK464) k_))) (below_size (bb HB))); replace BK464 := kB BK464 hb; replace HB := hB HB hb; (try clear hb); (try clear hb2); (try clear hk); (try clear hi); (try clear ho0); (try clear ho1); obtain ⟨Ao153, co153, eo153⟩ := Kd.V_slice HO520.out; subst eo153; obtain ⟨hcz154_0, hcz154_1, hcz154_2, hcz154_3, hfz154_0, hfz154_1, hfz154_2, hfz154_3⟩ := bc4 BK464; obtain ⟨Ao155, co155, eo155⟩ := Kd.V_slice HO525.out; subst eo155) | ((with_reducible refine gate_store (t := 27) (p := 4) rfl ?_); refine store_event (t := 27) (p := 4) (v := ?vo_w156) (w1 := ((((w152.setCell ⟨gb464, 0, none⟩ (.slice Ao153 t518.length co153)).setCell ⟨gb464, 1, none⟩ (.bool t521)).setCell ⟨gb464, 2, none⟩ (.int .i64 t522)).setCell ⟨gb464, 3, none⟩ (.slice Ao155 t523.length co155))) ?hg ?ho ?hn ?hr ?_; (case ho => rfl); (case hg => rfl); (case hn => rfl); (case hr => first | (go_simp; done) | (go_simp; rfl)); intro w156 hw; replace HO_465000 := vS (fun k_ => k_ ≠ gb464) HO_465000 hw; replace HO_465003 := vS (fun k_ => k_ ≠ gb464) HO_465003 hw; replace HO520 := vS (fun k_ => k_ ≠ gb464) HO520 hw; replace HO525 := vS (fun k_ => k_ ≠ gb464) HO525 hw; replace BK464 := kP4 BK464 hw; replace HB : Aside0 (Below w.heap.size w w156) := ⟨(by rw [hw]; exact (bb HB))⟩; clear hw; obtain ⟨hcz157_0, hcz157_1, hcz157_2, hcz157_3, hfz157_0, hfz157_1, hfz157_2, hfz157_3⟩ := bc4 BK464; have hcv158 := v_string (P := Try.prog) Try.underlying25 Try.underlying5 Try.underlying9 HO520.out) | (go_at_call 15; (with_reducible refine (wire_Sane.calls _ _ t518 t521 t522 _ _ t523 true _ ?side1 ?side2 ?side3 ?side4 A147.out).mono ?_); (case side1 => exact (Kd.V_reads' (vv HO520)).2.2); (case side2 => exact (Kd.V_reads' HO520.out).2.1); (case side3 => exact (Kd.V_reads' (vv HO525)).2.2); (case side4 => exact (Kd.V_reads' HO525.out).2.1); rintro e w159 ⟨rfl, hb⟩; replace HO_465000 := vB HO_465000 hb; replace HO_465003 := vB HO_465003 hb; replace HO520 := vB HO520 hb; replace HO525 := vB HO525 hb; replace BK464 := kB BK464 hb; replace HB := hB HB hb; (try clear hb); (try clear hb2); (try clear hk); (try clear hi)))
                            go_roundg k1
                            case measure => have := HK1.out; omega
                            case rel => exact ⟨(x5_1), (x6_1), (wrap64 (x7_1 + 1)), (t518), (t521), (t522), (t523), (.slice Ao153 t518.length co153), (.slice Ao155 t523.length co155), (by first | rfl | (simp; done) | (simp [*]; done)), (by first | rfl | (simp; done) | (simp [*]; done)), (by first | rfl | (simp; done) | (simp [*]; done)), H', ⟨by have := HK1.out; omega⟩, ⟨vM HO520⟩, ⟨vM HO525⟩, ⟨kk BK464⟩, ⟨bb HB⟩⟩
                          · replace c148 := Bool.eq_false_iff.mpr c148
                            subst c148
                            rw [if_neg nf] at H
                            cases H; exact absurd HRT.out (by decide)
                        · rw [if_neg c146] at H
                          cases H; exact absurd HRT.out (by decide)
                      · rw [if_neg c145] at H
                        exact absurd H (by simp)
                    · rw [if_neg c143] at H
                      have c143b0 : (((rd_T29 l0 x7_1).f0) == 4) = false := beq_eq_false_iff_ne.mpr c143
                      have c143b1 : (((rd_T29 l0 x7_1).f0) != 4) = true := bne_iff_ne.mpr c143
                      by_cases c160 : x6_1.size + (strOfNums x465000_1).size ≤ 9223372036854775807
                      · rw [if_pos c160] at H
                        have c160b0 := eq_true c160
                        have c160b1 : decide (x6_1.size + (strOfNums x465000_1).size ≤ 9223372036854775807) = true := decide_eq_true c160
                        try have c160b2 : (9223372036854775807 < x6_1.size + (strOfNums x465000_1).size) = False := eq_false (Nat.not_lt.2 c160)
                        by_cases c161 : (x6_1 ++ (strOfNums x465000_1)).toList = x5_1.toList
                        · rw [if_pos c161] at H
                          have c161b0 : ((x6_1 ++ (strOfNums x465000_1)).toList == x5_1.toList) = true := beq_iff_eq.mpr c161
                          have c161b1 : ((x6_1 ++ (strOfNums x465000_1)).toList != x5_1.toList) = false := bne_eq_false_iff_eq.mpr c161
                          clear c161
                          obtain ⟨t527, A162, H⟩ := ob H
                          by_cases c163 : t527 = true
                          · subst c163
                            rw [if_pos rfl] at H
                            have H' := Aside0.mk H
                            clear H
                            have p465 : 0 ≤ (x7_1 : Int) := of_decide_eq_true (by first | (with_reducible assumption) | assumption)
                            have q465 : x7_1 < (l0.length : Int) := of_decide_eq_true (by first | (with_reducible assumption) | assumption)
                            obtain ⟨ad465, A465_2, c465_2, e465, hx465_0, hx465_1, hx465_2, hl465_2, hi465_2⟩ := at_T29 HR0.out x7_1 p465 q465
                            cases e465
                            replace hx465_0 := (HB.out.cell (World.block_lt_of_cell? w _ hx465_0)).trans hx465_0
                            replace hx465_1 := (HB.out.cell (World.block_lt_of_cell? w _ hx465_1)).trans hx465_1
                            replace hx465_2 := (HB.out.cell (World.block_lt_of_cell? w _ hx465_2)).trans hx465_2
                            have HR465_2 := Aside0.mk hi465_2
                            have HC465_2 := Aside0.mk hl465_2
                            clear hi465_2 hl465_2
                            replace p465 := eq_true p465
                            replace q465 := eq_true q465
                            obtain ⟨hcz164_0, hcz164_1, hcz164_2, hcz164_3, hfz164_0, hfz164_1, hfz164_2, hfz164_3⟩ := bc4 BK464
                            have hcv165 := v_string (P := Try.prog) Try.underlying25 Try.underlying5 Try.underlying9 HO_465000.out
                            obtain ⟨Ao166, co166, eo166⟩ := Kd.V_slice HO_465000.out
                            subst eo166
                            obtain ⟨Ao167, co167, eo167⟩ := Kd.V_slice HO_465003.out
                            subst eo167
                            go_wp2_with (first | (go_at_call 15; (with_reducible refine (wire_Sane.calls _ _ x465000_1 x465001_1 x465002_1 _ _ x465003_1 true _ ?side1 ?side2 ?side3 ?side4 A162.out).mono ?_); (case side1 => exact (Kd.V_reads' (vv HO_465000)).2.2); (case side2 => exact (Kd.V_reads' HO_465000.out).2.1); (case side3 => exact (Kd.V_reads' (vv HO_465003)).2.2); (case side4 => exact (Kd.V_reads' HO_465003.out).2.1); rintro e w168 ⟨rfl, hb⟩; replace HO_465000 := vB HO_465000 hb; replace HO_465003 := vB HO_465003 hb; replace BK464 := kB BK464 hb; replace HB := hB HB hb; (try clear hb); (try clear hb2); (try clear hk); (try clear hi)))
                            go_roundg k1
                            case measure => have := HK1.out; omega
                            case rel => exact ⟨(x5_1), (x6_1), (wrap64 (x7_1 + 1)), (x465000_1), (x465001_1), (x465002_1), (x465003_1), (.slice Ao166 x465000_1.length co166), (.slice Ao167 x465003_1.length co167), (by first | rfl | (simp; done) | (simp [*]; done)), (by first | rfl | (simp; done) | (simp [*]; done)), (by first | rfl | (simp; done) | (simp [*]; done)), H', ⟨by have := HK1.out; omega⟩, ⟨vM HO_465000⟩, ⟨vM HO_465003⟩, ⟨kk BK464⟩, ⟨bb HB⟩⟩
                          · replace c163 := Bool.eq_false_iff.mpr c163
                            subst c163
                            rw [if_neg nf] at H
                            cases H; exact absurd HRT.out (by decide)
                        · rw [if_neg c161] at H
                          cases H; exact absurd HRT.out (by decide)
                      · rw [if_neg c160] at H
                        exact absurd H (by simp)
          · rw [if_neg c9] at H
            exact absurd H (by simp)
        · rw [if_neg c8] at H
          have c8b0 : decide (x7_1 < (l0.length : Int)) = false := decide_eq_false c8
          clear c8
          obtain rfl := Option.some.inj H
          go_wp2
          go_ret
          exact ⟨by first | rfl | (simp [errW_none, errW_some] <;> rfl) | (simp [*, errW_none, errW_some] <;> rfl), by repeat (first | (with_reducible first | exact HB.out | apply below_alloc | apply pw_below_drewN | apply below_drew1 | refine below_set ?_ GE464.out) | exact HB.out)⟩
  · replace c4 := Bool.eq_false_iff.mpr c4
    subst c4
    rw [if_neg nf] at H
    obtain rfl := Option.some.inj H
    go_enter Try.func7, Try.ntmps7
    go_wp2_with (first | ((with_reducible refine gate_callee (f := 9) rfl ?_); refine gL (some 16) rfl rfl Try.func9 (by kernel_rfl) rfl #[] rfl ?_; (with_reducible refine (pentroughlaw19_awake.calls  t462 _ A2.out).mono ?_); rintro e w169 ⟨rfl, hb⟩; refine ⟨_, rfl, ?_⟩; replace HB := hB HB hb; (try clear hb); (try clear hb2); (try clear hk); (try clear hi)) | ((with_reducible refine gate_callee (f := 10) rfl ?_); refine gL (some 18) rfl rfl Try.func10 (by kernel_rfl) rfl #[.slice A0 l0.length c0] rfl ?_; (with_reducible refine (pentroughlaw19_few.calls k _ _ l0 false _ ?side1 ?side2 A3.out).mono ?_); (case side1 => exact Kd.C_below HR0.out (bb HB)); (case side2 => exact HC0.out); rintro e w' ⟨rfl, ⟨nd, rfl⟩⟩; refine ⟨_, rfl, ?_⟩))
    go_ret
    exact ⟨by first | rfl | (simp [errW_none, errW_some] <;> rfl) | (simp [*, errW_none, errW_some] <;> rfl), by repeat (first | (with_reducible first | exact HB.out | apply below_alloc | apply pw_below_drewN | apply below_drew1) | exact HB.out)⟩

end Go.Proofs.Ytocmnggcbpdnjaa.Q
