-- Laid by mix.py, a program of this session, with the kit's print.py; walks by hand come out of wip/over.
import Derived.Test.YtocmnggcbpdnjaaShort
import Derived.Test.YtocmnggcbpdnjaaQ0
import Derived.Test.YtocmnggcbpdnjaaQ1
import Derived.Test.YtocmnggcbpdnjaaQ2
import Derived.Test.YtocmnggcbpdnjaaQ3
import Derived.Test.YtocmnggcbpdnjaaQ4
namespace Go.Proofs.Ytocmnggcbpdnjaa.Q
open Go.RowKit Go.Proofs.YtocmnggcbpdnjaaW.PrintWords Go.Proofs.YtocmnggcbpdnjaaW.PrintLast Go.Proofs.YtocmnggcbpdnjaaW.PrintMore Go.Proofs.YtocmnggcbpdnjaaW.Sh
attribute [local go_sem] max2_int min2_int max_two min_two max_three min_three max_four min_four   -- for this text's walks alone
set_option linter.unusedVariables false
set_option linter.unusedSimpArgs false

/-! ### pentroughlaw19_WireGrants: function 3 -/
mutual
def pentroughlaw19_WireGrants.l0 : Nat → List (S29) → Bool → Int → ByteArray → Int → List Int → Bool → Int → List Int → Option (Bool)
  | 0, _, _, _, _, _, _, _, _, _ => none
  | k + 1, x0, x3, x5, x6, x7, x211000, x211001, x211002, x211003 => if x7 < (x0.length : Int) then (if 0 ≤ x7 then (if ((rd_T29 x0 x7).f0) = 2 then ((wire_Grant.f x211000 x211001 x211002 x211003 ((rd_T29 x0 x7).f1)).bind fun bt213 => (if bt213.2.2.2.2 = 0 then (pentroughlaw19_WireGrants.j1 k x0 x3 (wrap64 (x5 + ((rd_T29 x0 x7).f1))) x6 x7 bt213.1 bt213.2.1 bt213.2.2.1 bt213.2.2.2.1) else (pentroughlaw19_WireGrants.j1 k x0 x3 x5 x6 x7 bt213.1 bt213.2.1 bt213.2.2.1 bt213.2.2.2.1))) else (pentroughlaw19_WireGrants.j1 k x0 x3 x5 x6 x7 x211000 x211001 x211002 x211003)) else (none)) else (some x3)
def pentroughlaw19_WireGrants.j1 : Nat → List (S29) → Bool → Int → ByteArray → Int → List Int → Bool → Int → List Int → Option (Bool)
  | 0, _, _, _, _, _, _, _, _, _ => none
  | k + 1, x0, x3, x5, x6, x7, x211000, x211001, x211002, x211003 => if 0 ≤ x7 then (if x7 < (x0.length : Int) then (if ((rd_T29 x0 x7).f0) = 3 then ((wire_Write.f x211000 x211001 x211002 x211003 ((rd_T29 x0 x7).f2)).bind fun bt226 => (if bt226.2.2.2.2 < 0 then (some false) else (if bt226.2.2.2.2 > (((rd_T29 x0 x7).f2).length : Int) then (some false) else (if 0 ≤ bt226.2.2.2.2 then (if bt226.2.2.2.2 ≤ (((rd_T29 x0 x7).f2).length : Int) then (if x6.size + (strOfNums (((rd_T29 x0 x7).f2).take (bt226.2.2.2.2 : Int).toNat)).size ≤ 9223372036854775807 then (pentroughlaw19_WireGrants.j2 k x0 x3 x5 (x6 ++ (strOfNums (((rd_T29 x0 x7).f2).take (bt226.2.2.2.2 : Int).toNat))) x7 bt226.1 bt226.2.1 bt226.2.2.1 bt226.2.2.2.1) else (none)) else (none)) else (none))))) else (pentroughlaw19_WireGrants.j2 k x0 x3 x5 x6 x7 x211000 x211001 x211002 x211003)) else (none)) else (none)
def pentroughlaw19_WireGrants.j2 : Nat → List (S29) → Bool → Int → ByteArray → Int → List Int → Bool → Int → List Int → Option (Bool)
  | 0, _, _, _, _, _, _, _, _, _ => none
  | k + 1, x0, x3, x5, x6, x7, x211000, x211001, x211002, x211003 => if 0 ≤ x7 then (if x7 < (x0.length : Int) then (if ((rd_T29 x0 x7).f0) = 0 then ((wire_Arrive.f x211000 x211001 x211002 x211003 ((rd_T29 x0 x7).f2)).bind fun bt241 => (if (strOfNums bt241.2.2.2.1).toList = x6.toList then (if (wrap64 ((x6.size : Int) + bt241.2.2.1)) = x5 then (if bt241.2.2.1 < 0 then (some false) else (if bt241.2.2.1 > 4096 then (some false) else (pentroughlaw19_WireGrants.l0 k x0 x3 x5 x6 (wrap64 (x7 + 1)) bt241.1 bt241.2.1 bt241.2.2.1 bt241.2.2.2.1))) else (some false)) else (some false))) else (if (strOfNums x211003).toList = x6.toList then (if (wrap64 ((x6.size : Int) + x211002)) = x5 then (if x211002 < 0 then (some false) else (if x211002 > 4096 then (some false) else (pentroughlaw19_WireGrants.l0 k x0 x3 x5 x6 (wrap64 (x7 + 1)) x211000 x211001 x211002 x211003))) else (some false)) else (some false))) else (none)) else (none)
end
def pentroughlaw19_WireGrants.f (k : Nat) (l0 : List (S29)) : Option (Bool) := (pentroughlaw19_awake.f).bind fun t208 => ((pentroughlaw19_few.f k l0).bind fun t209 => (if t209 = true then (pentroughlaw19_WireGrants.l0 k l0 t208 0 (⟨#[]⟩ : ByteArray) 0 ([] : List Int) false 0 ([] : List Int)) else (some t208)))
theorem pentroughlaw19_WireGrants.mono_l : ∀ k, (∀ y0 y1 y2 y3 y4 y5 y6 y7 y8, LeO (pentroughlaw19_WireGrants.l0 k y0 y1 y2 y3 y4 y5 y6 y7 y8) (pentroughlaw19_WireGrants.l0 (k + 1) y0 y1 y2 y3 y4 y5 y6 y7 y8)) ∧ (∀ y0 y1 y2 y3 y4 y5 y6 y7 y8, LeO (pentroughlaw19_WireGrants.j1 k y0 y1 y2 y3 y4 y5 y6 y7 y8) (pentroughlaw19_WireGrants.j1 (k + 1) y0 y1 y2 y3 y4 y5 y6 y7 y8)) ∧ (∀ y0 y1 y2 y3 y4 y5 y6 y7 y8, LeO (pentroughlaw19_WireGrants.j2 k y0 y1 y2 y3 y4 y5 y6 y7 y8) (pentroughlaw19_WireGrants.j2 (k + 1) y0 y1 y2 y3 y4 y5 y6 y7 y8))
  | 0 => ⟨fun _ _ _ _ _ _ _ _ _ r h => by simp [pentroughlaw19_WireGrants.l0] at h, fun _ _ _ _ _ _ _ _ _ r h => by simp [pentroughlaw19_WireGrants.j1] at h, fun _ _ _ _ _ _ _ _ _ r h => by simp [pentroughlaw19_WireGrants.j2] at h⟩
  | k + 1 => by
    obtain ⟨ih0, ih1, ih2⟩ := pentroughlaw19_WireGrants.mono_l k
    refine ⟨?_, ?_, ?_⟩
    · intro y0 y1 y2 y3 y4 y5 y6 y7 y8
      unfold pentroughlaw19_WireGrants.l0
      repeat' first
      | (with_reducible exact ih0 _ _ _ _ _ _ _ _ _)
      | (with_reducible exact ih1 _ _ _ _ _ _ _ _ _)
      | (with_reducible exact ih2 _ _ _ _ _ _ _ _ _)
      | (with_reducible exact pentroughlaw19_few.mono _ _)
      | (with_reducible exact LeO.refl _)
      | (with_reducible exact LeO.none _)
      | (with_reducible refine LeO.ite ?_ ?_)
      | (with_reducible refine LeO.bind ?_ (fun _ => ?_))
      | exact ih0 _ _ _ _ _ _ _ _ _
      | exact ih1 _ _ _ _ _ _ _ _ _
      | exact ih2 _ _ _ _ _ _ _ _ _
      | exact pentroughlaw19_few.mono _ _
      | exact LeO.none _
      | refine LeO.ite ?_ ?_
      | refine LeO.bind ?_ (fun _ => ?_)
    · intro y0 y1 y2 y3 y4 y5 y6 y7 y8
      unfold pentroughlaw19_WireGrants.j1
      repeat' first
      | (with_reducible exact ih0 _ _ _ _ _ _ _ _ _)
      | (with_reducible exact ih1 _ _ _ _ _ _ _ _ _)
      | (with_reducible exact ih2 _ _ _ _ _ _ _ _ _)
      | (with_reducible exact pentroughlaw19_few.mono _ _)
      | (with_reducible exact LeO.refl _)
      | (with_reducible exact LeO.none _)
      | (with_reducible refine LeO.ite ?_ ?_)
      | (with_reducible refine LeO.bind ?_ (fun _ => ?_))
      | exact ih0 _ _ _ _ _ _ _ _ _
      | exact ih1 _ _ _ _ _ _ _ _ _
      | exact ih2 _ _ _ _ _ _ _ _ _
      | exact pentroughlaw19_few.mono _ _
      | exact LeO.none _
      | refine LeO.ite ?_ ?_
      | refine LeO.bind ?_ (fun _ => ?_)
    · intro y0 y1 y2 y3 y4 y5 y6 y7 y8
      unfold pentroughlaw19_WireGrants.j2
      repeat' first
      | (with_reducible exact ih0 _ _ _ _ _ _ _ _ _)
      | (with_reducible exact ih1 _ _ _ _ _ _ _ _ _)
      | (with_reducible exact ih2 _ _ _ _ _ _ _ _ _)
      | (with_reducible exact pentroughlaw19_few.mono _ _)
      | (with_reducible exact LeO.refl _)
      | (with_reducible exact LeO.none _)
      | (with_reducible refine LeO.ite ?_ ?_)
      | (with_reducible refine LeO.bind ?_ (fun _ => ?_))
      | exact ih0 _ _ _ _ _ _ _ _ _
      | exact ih1 _ _ _ _ _ _ _ _ _
      | exact ih2 _ _ _ _ _ _ _ _ _
      | exact pentroughlaw19_few.mono _ _
      | exact LeO.none _
      | refine LeO.ite ?_ ?_
      | refine LeO.bind ?_ (fun _ => ?_)
theorem pentroughlaw19_WireGrants.mono : ∀ a0 k, LeO (pentroughlaw19_WireGrants.f k a0) (pentroughlaw19_WireGrants.f (k + 1) a0) := by
  intro a0 k
  obtain ⟨ih0, ih1, ih2⟩ := pentroughlaw19_WireGrants.mono_l k
  unfold pentroughlaw19_WireGrants.f
  repeat' first
      | (with_reducible exact ih0 _ _ _ _ _ _ _ _ _)
      | (with_reducible exact ih1 _ _ _ _ _ _ _ _ _)
      | (with_reducible exact ih2 _ _ _ _ _ _ _ _ _)
      | (with_reducible exact pentroughlaw19_few.mono _ _)
      | (with_reducible exact LeO.refl _)
      | (with_reducible exact LeO.none _)
      | (with_reducible refine LeO.ite ?_ ?_)
      | (with_reducible refine LeO.bind ?_ (fun _ => ?_))
      | exact ih0 _ _ _ _ _ _ _ _ _
      | exact ih1 _ _ _ _ _ _ _ _ _
      | exact ih2 _ _ _ _ _ _ _ _ _
      | exact pentroughlaw19_few.mono _ _
      | exact LeO.none _
      | refine LeO.ite ?_ ?_
      | refine LeO.bind ?_ (fun _ => ?_)
def pentroughlaw19_WireGrants.T11 : Bool × List (List Nat × List Nat) := (true, [([], []), ([], []), ([], []), ([1, 2], [1, 2]), ([3], [3]), ([4], [4]), ([0, 5], [0, 5]), ([6], [6]), ([7], [7]), ([7], [7]), ([], []), ([10, 8, 6, 0, 1, 2, 3, 4, 5, 6, 7, 8, 10], [8, 10]), ([9, 11, 0, 1, 2, 3, 4, 5, 6, 7, 8, 9, 10, 11], [9])])
def pentroughlaw19_WireGrants.B11 : List Nat := [0, 0, 0, 6, 14, 30, 63, 127, 255, 255, 0, 1535, 4095]
theorem pentroughlaw19_WireGrants.tab11 : rtab .any (opsOf Try.f3 11) = pentroughlaw19_WireGrants.T11 := by kernel_rfl
theorem pentroughlaw19_WireGrants.bits11 : waitsOk pentroughlaw19_WireGrants.T11.2 pentroughlaw19_WireGrants.B11 = true := by kernel_rfl
def pentroughlaw19_WireGrants.T16 : Bool × List (List Nat × List Nat) := (true, [([], []), ([], []), ([], []), ([1, 2], [1, 2]), ([3], [3]), ([4], [4]), ([0, 5], [0, 5]), ([6], [6]), ([7], [7]), ([7], [7]), ([], []), ([10, 8, 6, 0, 1, 2, 3, 4, 5, 6, 7, 8, 10], [8, 10]), ([9, 11, 0, 1, 2, 3, 4, 5, 6, 7, 8, 9, 10, 11], [9])])
def pentroughlaw19_WireGrants.B16 : List Nat := [0, 0, 0, 6, 14, 30, 63, 127, 255, 255, 0, 1535, 4095]
theorem pentroughlaw19_WireGrants.tab16 : rtab .any (opsOf Try.f3 16) = pentroughlaw19_WireGrants.T16 := by kernel_rfl
theorem pentroughlaw19_WireGrants.bits16 : waitsOk pentroughlaw19_WireGrants.T16.2 pentroughlaw19_WireGrants.B16 = true := by kernel_rfl
def pentroughlaw19_WireGrants.T22 : Bool × List (List Nat × List Nat) := (true, [([], []), ([], []), ([], []), ([1, 2], [1, 2]), ([3], [3]), ([4], [4]), ([0, 5], [0, 5]), ([6], [6]), ([7], [7]), ([7], [7]), ([], []), ([10, 8, 6, 0, 1, 2, 3, 4, 5, 6, 7, 8, 10], [8, 10]), ([9, 11, 0, 1, 2, 3, 4, 5, 6, 7, 8, 9, 10, 11], [9])])
def pentroughlaw19_WireGrants.B22 : List Nat := [0, 0, 0, 6, 14, 30, 63, 127, 255, 255, 0, 1535, 4095]
theorem pentroughlaw19_WireGrants.tab22 : rtab .any (opsOf Try.f3 22) = pentroughlaw19_WireGrants.T22 := by kernel_rfl
theorem pentroughlaw19_WireGrants.bits22 : waitsOk pentroughlaw19_WireGrants.T22.2 pentroughlaw19_WireGrants.B22 = true := by kernel_rfl
set_option maxHeartbeats 8000000 in
set_option maxRecDepth 100000 in
theorem pentroughlaw19_WireGrants.calls (k : Nat) (A0 : Option Addr) (c0 : Nat) (l0 : List (S29)) (r : Bool) (w : World) (hr0 : Kd.C k29 w A0 l0.length l0) (hc0 : l0.length ≤ c0) (h : pentroughlaw19_WireGrants.f k l0 = some r) (HRT : Aside0 (r = true)) :
    Calls Try.prog 3 #[.slice A0 l0.length c0] w fun e w' => e = .returned (.bool r) ∧ Below w.heap.size w w' := by
  have hu27 := Try.underlying27
  have HR0 := Aside0.mk hr0
  have HC0 := Aside0.mk hc0
  clear hr0 hc0
  have HB := Aside0.mk (Below.refl w.heap.size w)
  have H : ((pentroughlaw19_awake.f).bind fun t208 => ((pentroughlaw19_few.f k l0).bind fun t209 => (if t209 = true then (pentroughlaw19_WireGrants.l0 k l0 t208 0 (⟨#[]⟩ : ByteArray) 0 ([] : List Int) false 0 ([] : List Int)) else (some t208)))) = some r := h
  clear h
  obtain ⟨t208, A2, H⟩ := ob H
  obtain ⟨t209, A3, H⟩ := ob H
  by_cases c4 : t209 = true
  · subst c4
    rw [if_pos rfl] at H
    have H' := Aside0.mk H
    clear H
    go_enter Try.func3, Try.ntmps3
    go_wp2_with (first | ((with_reducible refine gate_callee (f := 9) rfl ?_); refine gL (some 14) rfl rfl Try.func9 (by kernel_rfl) rfl #[] rfl ?_; (with_reducible refine (pentroughlaw19_awake.calls  t208 _ A2.out).mono ?_); rintro e w5 ⟨rfl, hb⟩; refine ⟨_, rfl, ?_⟩; replace HB := hB HB hb; (try clear hb); (try clear hb2); (try clear hk); (try clear hi)) | ((with_reducible refine gate_callee (f := 10) rfl ?_); refine gL (some 16) rfl rfl Try.func10 (by kernel_rfl) rfl #[.slice A0 l0.length c0] rfl ?_; (with_reducible refine (pentroughlaw19_few.calls k _ _ l0 true _ ?side1 ?side2 A3.out).mono ?_); (case side1 => exact Kd.C_below HR0.out (bb HB)); (case side2 => exact HC0.out); rintro e w' ⟨rfl, ⟨nd, rfl⟩⟩; refine ⟨_, rfl, ?_⟩; (try (rw [drewN_self w5]; generalize hq_ : World.drewN w5 _ = w5; have n0_ : Aside0 (Below w.heap.size w w5) := ⟨by rw [← hq_]; exact (bb HB)⟩; clear HB hq_; have HB := n0_; clear n0_))) | ((with_reducible refine gate_dst (N := 4) rfl ?_); (try (refine gate_guard (by rfl) ?_; dsimp only)); refine box_event ?hg (N := 4) ?hd (cs := #[.slice none 0 0, .bool false, .int .i64 0, .slice none 0 0]) (t := 27) ?hr ?_; (case hd => rfl); (case hg => rfl); (case hr => first | (go_simp; done) | (go_simp; rfl)); intro gb210 hg w6 hbox hb; have BK210 := Aside0.mk hbox; have GW210 := gE HB hg; have GE210 := gE HB hg; replace HB := hB HB hb; clear hb hbox hg; obtain ⟨hcz7_0, hcz7_1, hcz7_2, hcz7_3, hfz7_0, hfz7_1, hfz7_2, hfz7_3⟩ := bc4 BK210))
    go_loopg [5, 6, 7] k (fun kq v5 v6 v7 w' => ∃ (x5_1 : Int) (x6_1 : ByteArray) (x7_1 : Int) (x211000_1 : List Int) (x211001_1 : Bool) (x211002_1 : Int) (x211003_1 : List Int) (u211000 : Value) (u211003 : Value), v5 = .int .i64 x5_1 ∧ v6 = .string x6_1 ∧ v7 = .int .i64 x7_1 ∧ Aside0 (pentroughlaw19_WireGrants.l0 kq l0 t208 x5_1 x6_1 x7_1 x211000_1 x211001_1 x211002_1 x211003_1 = some r) ∧ Aside0 (kq ≤ k) ∧ Aside0 (Kd.V (Kd.int .u8) 5 w' w.heap.size (fun k_ => k_ ≠ gb210) u211000 x211000_1) ∧ Aside0 (Kd.V (Kd.int .u8) 5 w' w.heap.size (fun k_ => k_ ≠ gb210) u211003 x211003_1) ∧ Aside0 (w'.heap[gb210]? = some (.cells #[u211000, .bool x211001_1, .int .i64 x211002_1, u211003] 27 (0, 0))) ∧ Aside0 (Below w.heap.size w w'))
    case atStart => exact ⟨(0), ((⟨#[]⟩ : ByteArray)), (0), (([] : List Int)), (false), (0), (([] : List Int)), (.slice none 0 0), (.slice none 0 0), (by first | rfl | (simp; done) | (simp [*]; done)), (by first | rfl | (simp; done) | (simp [*]; done)), (by first | rfl | (simp; done) | (simp [*]; done)), H', ⟨Nat.le_refl _⟩, ⟨Kd.V_nil _ _ _ _ _⟩, ⟨Kd.V_nil _ _ _ _ _⟩, ⟨by (with_reducible repeat (first | refine blk_drewN ?_ _ | refine blk_drew ?_ | refine blk_alloc ?_ _)); refine blk_put (cs := #[.slice none 0 0, .bool false, .int .i64 0, .slice none 0 0]) ?_ 3 _ rfl; (with_reducible repeat (first | refine blk_drewN ?_ _ | refine blk_drew ?_ | refine blk_alloc ?_ _)); refine blk_put (cs := #[.slice none 0 0, .bool false, .int .i64 0, .slice none 0 0]) ?_ 2 _ rfl; (with_reducible repeat (first | refine blk_drewN ?_ _ | refine blk_drew ?_ | refine blk_alloc ?_ _)); refine blk_put (cs := #[.slice none 0 0, .bool false, .int .i64 0, .slice none 0 0]) ?_ 1 _ rfl; (with_reducible repeat (first | refine blk_drewN ?_ _ | refine blk_drew ?_ | refine blk_alloc ?_ _)); refine blk_put (cs := #[.slice none 0 0, .bool false, .int .i64 0, .slice none 0 0]) ?_ 0 _ rfl; (with_reducible repeat (first | refine blk_drewN ?_ _ | refine blk_drew ?_ | refine blk_alloc ?_ _)); exact BK210.out⟩, ⟨bb HB⟩⟩
    case round =>
      clear H'
      try clear c1
      try clear p2
      try clear c3
      try clear c4
      try clear hcz7_0
      try clear hcz7_1
      try clear hcz7_2
      try clear hcz7_3
      try clear hfz7_0
      try clear hfz7_1
      try clear hfz7_2
      try clear hfz7_3
      obtain ⟨x5_1, x6_1, x7_1, x211000_1, x211001_1, x211002_1, x211003_1, u211000, u211003, rfl, rfl, rfl, HA, HK1, HO_211000, HO_211003, BK210, HB⟩ := hrel
      cases gk with
      | zero => exact absurd HA.out (by simp [pentroughlaw19_WireGrants.l0])
      | succ k1 =>
        have H := HA.out
        clear HA
        simp only [pentroughlaw19_WireGrants.l0] at H
        by_cases c8 : x7_1 < (l0.length : Int)
        · rw [if_pos c8] at H
          have c8b0 : decide (x7_1 < (l0.length : Int)) = true := decide_eq_true c8
          clear c8
          by_cases c9 : 0 ≤ x7_1
          · rw [if_pos c9] at H
            have c9b0 : decide (0 ≤ x7_1) = true := decide_eq_true c9
            clear c9
            have HC10 := Aside0.mk H
            clear H
            have p211 : 0 ≤ (x7_1 : Int) := of_decide_eq_true (by first | (with_reducible assumption) | assumption)
            have q211 : x7_1 < (l0.length : Int) := of_decide_eq_true (by first | (with_reducible assumption) | assumption)
            obtain ⟨ad211, A211_2, c211_2, e211, hx211_0, hx211_1, hx211_2, hl211_2, hi211_2⟩ := at_T29 HR0.out x7_1 p211 q211
            cases e211
            replace hx211_0 := (HB.out.cell (World.block_lt_of_cell? w _ hx211_0)).trans hx211_0
            replace hx211_1 := (HB.out.cell (World.block_lt_of_cell? w _ hx211_1)).trans hx211_1
            replace hx211_2 := (HB.out.cell (World.block_lt_of_cell? w _ hx211_2)).trans hx211_2
            have HR211_2 := Aside0.mk hi211_2
            have HC211_2 := Aside0.mk hl211_2
            clear hi211_2 hl211_2
            replace p211 := eq_true p211
            replace q211 := eq_true q211
            go_upto_if 31 with (fail)
            go_cut [5] (fun v5 wc => ∃ (kq : Nat) (x5_9 : Int) (x211000_9 : List Int) (x211001_9 : Bool) (x211002_9 : Int) (x211003_9 : List Int) (u211000 : Value) (u211003 : Value), v5 = .int .i64 x5_9 ∧ Aside0 (pentroughlaw19_WireGrants.j1 kq l0 t208 x5_9 x6_1 x7_1 x211000_9 x211001_9 x211002_9 x211003_9 = some r) ∧ Aside0 (kq ≤ k1) ∧ Aside0 (Kd.V (Kd.int .u8) 5 wc w.heap.size (fun k_ => k_ ≠ gb210) u211000 x211000_9) ∧ Aside0 (Kd.V (Kd.int .u8) 5 wc w.heap.size (fun k_ => k_ ≠ gb210) u211003 x211003_9) ∧ Aside0 (wc.heap[gb210]? = some (.cells #[u211000, .bool x211001_9, .int .i64 x211002_9, u211003] 27 (0, 0))) ∧ Aside0 (Below w.heap.size w wc))
            case first =>
              have H := HC10.out
              clear HC10
              by_cases c11 : ((rd_T29 l0 x7_1).f0) = 2
              · rw [if_pos c11] at H
                have c11b0 : (((rd_T29 l0 x7_1).f0) == 2) = true := beq_iff_eq.mpr c11
                have c11b1 : (((rd_T29 l0 x7_1).f0) != 2) = false := bne_eq_false_iff_eq.mpr c11
                clear c11
                (first | rw [c11b0] | (simp only [i64_w, i32_w]; rw [c11b0]) | skip)
                obtain ⟨⟨t213, t216, t217, t218, t221⟩, A12, H⟩ := ob H
                dsimp only at H
                by_cases c13 : t221 = 0
                · rw [if_pos c13] at H
                  have c13b0 : (t221 == 0) = true := beq_iff_eq.mpr c13
                  have c13b1 : (t221 != 0) = false := bne_eq_false_iff_eq.mpr c13
                  clear c13
                  have H' := Aside0.mk H
                  clear H
                  obtain ⟨Ao14, co14, eo14⟩ := Kd.V_slice HO_211000.out
                  subst eo14
                  obtain ⟨Ao15, co15, eo15⟩ := Kd.V_slice HO_211003.out
                  subst eo15
                  try go_wp2
                  replace HO_211000 := Aside0.mk (Kd.V_drew HO_211000.out)
                  replace HO_211003 := Aside0.mk (Kd.V_drew HO_211003.out)
                  replace BK210 := Aside0.mk (blk_drew BK210.out)
                  replace HB := Aside0.mk (below_drew1 HB.out)
                  have p212 : 0 ≤ (x7_1 : Int) := of_decide_eq_true (by first | (with_reducible assumption) | assumption)
                  have q212 : x7_1 < (l0.length : Int) := of_decide_eq_true (by first | (with_reducible assumption) | assumption)
                  obtain ⟨ad212, A212_2, c212_2, e212, hx212_0, hx212_1, hx212_2, hl212_2, hi212_2⟩ := at_T29 HR0.out x7_1 p212 q212
                  have hw212_2 := hx212_2
                  have hw212_1 := hx212_1
                  have hw212_0 := hx212_0
                  obtain rfl : ad211 = ad212 := (by injection e212)
                  replace hx212_0 := (HB.out.cell (World.block_lt_of_cell? w _ hx212_0)).trans hx212_0
                  replace hx212_1 := (HB.out.cell (World.block_lt_of_cell? w _ hx212_1)).trans hx212_1
                  replace hx212_2 := (HB.out.cell (World.block_lt_of_cell? w _ hx212_2)).trans hx212_2
                  have HR212_2 := Aside0.mk hi212_2
                  have HC212_2 := Aside0.mk hl212_2
                  clear hi212_2 hl212_2
                  replace p212 := eq_true p212
                  replace q212 := eq_true q212
                  refine start_ (n := 13) (S := fun w' => w'.cell? ⟨gb210, 0, none⟩ = some (.slice Ao14 x211000_1.length co14) ∧ w'.cell? ⟨gb210, 1, none⟩ = some (.bool x211001_1) ∧ w'.cell? ⟨gb210, 2, none⟩ = some (.int .i64 x211002_1) ∧ w'.cell? ⟨gb210, 3, none⟩ = some (.slice Ao15 x211003_1.length co15) ∧ w'.cell? (ad211.add ((x7_1).toNat * 3)) = some (.int .i64 ((rd_T29 l0 x7_1).f0)) ∧ w'.cell? ⟨(ad211.add ((x7_1).toNat * 3)).block, (ad211.add ((x7_1).toNat * 3)).off + 1, none⟩ = some (.int .i64 ((rd_T29 l0 x7_1).f1)) ∧ w'.cell? ⟨(ad211.add ((x7_1).toNat * 3)).block, (ad211.add ((x7_1).toNat * 3)).off + 2, none⟩ = some (.slice A212_2 ((rd_T29 l0 x7_1).f2).length c212_2)) (ds := []) #[false, false, false, false, false, false, false, false, false, false, false, false, false] (by kernel_rfl) rfl rfl ⟨cx BK210 0, cx BK210 1, cx BK210 2, cx BK210 3, ((HB.out.cell (World.block_lt_of_cell? w _ hw212_0)).trans hw212_0), ((HB.out.cell (World.block_lt_of_cell? w _ hw212_1)).trans hw212_1), ((HB.out.cell (World.block_lt_of_cell? w _ hw212_2)).trans hw212_2)⟩ (fun hHeld => ?_); refine with_tabW pentroughlaw19_WireGrants.tab11 pentroughlaw19_WireGrants.bits11 (fun HT_ HW_ => ?_)
                  generalize wr.drew = w16 at HO_211000 HO_211003 BK210 HB HR212_2 hx212_0 hx212_1 hx212_2 hHeld ⊢
                  refine pure_ (i := 1) (N := some 34) (v := ?_) (a' := ?_) #[false, true, false, false, false, false, false, false, false, false, false, false, false] rfl rfl (any_of HT_.out (by kernel_rfl)) (fun _ _ _ h => h) (Or.inl ⟨by rfl, ?_⟩) ?_ ?_
                  rotate_left
                  · intro w'
                    go_simp
                    with_reducible rfl
                  rotate_left
                  · simp only [Act.put, List.setIfInBounds_toArray, List.set_cons_zero, List.set_cons_succ, i64_w, i32_w]
                    rfl
                  refine pure_ (i := 2) (N := some 35) (v := ?_) (a' := ?_) #[false, true, true, false, false, false, false, false, false, false, false, false, false] rfl rfl (any_of HT_.out (by kernel_rfl)) (fun _ _ _ h => h) (Or.inl ⟨by rfl, ?_⟩) ?_ ?_
                  rotate_left
                  · intro w'
                    go_simp
                    with_reducible rfl
                  rotate_left
                  · simp only [Act.put, List.setIfInBounds_toArray, List.set_cons_zero, List.set_cons_succ, i64_w, i32_w]
                    rfl
                  refine pure_ (i := 3) (N := some 36) (v := ?_) (a' := ?_) #[false, true, true, true, false, false, false, false, false, false, false, false, false] rfl rfl (any_of HT_.out (by kernel_rfl)) (fun _ _ _ h => h) (Or.inl ⟨by rfl, ?_⟩) ?_ ?_
                  rotate_left
                  · intro w'
                    go_simp
                    with_reducible rfl
                  rotate_left
                  · simp only [Act.put, List.setIfInBounds_toArray, List.set_cons_zero, List.set_cons_succ, i64_w, i32_w]
                    rfl
                  refine pure_ (i := 4) (N := some 37) (v := ?_) (a' := ?_) #[false, true, true, true, true, false, false, false, false, false, false, false, false] rfl rfl (any_of HT_.out (by kernel_rfl)) (fun _ _ _ h => h) (Or.inl ⟨by rfl, ?_⟩) ?_ ?_
                  rotate_left
                  · intro w'
                    go_simp
                    with_reducible rfl
                  rotate_left
                  · simp only [Act.put, List.setIfInBounds_toArray, List.set_cons_zero, List.set_cons_succ, i64_w, i32_w]
                    rfl
                  refine take_ (i := 0) (N := some 33) (v := ?_) (a' := ?_) #[true, true, true, true, true, false, false, false, false, false, false, false, false] rfl rfl (take_ofW HT_.out HW_.out (by kernel_rfl)) (fun _ _ _ h => h) (Or.inl ⟨by rfl, ?_⟩) hHeld ?_ ?_
                  rotate_left
                  · rintro w' ⟨s0, s1, s2, s3, s4, s5, s6⟩
                    go_simp
                    with_reducible rfl
                  rotate_left
                  · simp only [Act.put, List.setIfInBounds_toArray, List.set_cons_zero, List.set_cons_succ, i64_w, i32_w]
                    rfl
                  refine take_ (i := 5) (N := some 38) (v := ?_) (a' := ?_) #[true, true, true, true, true, true, false, false, false, false, false, false, false] rfl rfl (take_ofW HT_.out HW_.out (by kernel_rfl)) (fun _ _ _ h => h) (Or.inl ⟨by rfl, ?_⟩) hHeld ?_ ?_
                  rotate_left
                  · rintro w' ⟨s0, s1, s2, s3, s4, s5, s6⟩
                    go_simp
                    with_reducible rfl
                  rotate_left
                  · simp only [Act.put, List.setIfInBounds_toArray, List.set_cons_zero, List.set_cons_succ, i64_w, i32_w]
                    rfl
                  refine join_ (σ := Value × Value × Nat) 2 #[true, true, true, true, true, true, true, true, true, true, true, false, false] (fun s_ => [(39, .tuple #[.agg #[s_.1, .bool t216, .int .i64 t217, s_.2.1], .int .i64 t221]), (8, .pointer (some ⟨s_.2.2, 0, none⟩)), (32, .tuple #[.agg #[s_.1, .bool t216, .int .i64 t217, s_.2.1], .int .i64 t221]), (40, .agg #[s_.1, .bool t216, .int .i64 t217, s_.2.1]), (41, .int .i64 t221)]) (fun s_ w' => (w'.cell? ⟨gb210, 0, none⟩ = some (.slice Ao14 x211000_1.length co14) ∧ w'.cell? ⟨gb210, 1, none⟩ = some (.bool x211001_1) ∧ w'.cell? ⟨gb210, 2, none⟩ = some (.int .i64 x211002_1) ∧ w'.cell? ⟨gb210, 3, none⟩ = some (.slice Ao15 x211003_1.length co15) ∧ w'.cell? (ad211.add ((x7_1).toNat * 3)) = some (.int .i64 ((rd_T29 l0 x7_1).f0)) ∧ w'.cell? ⟨(ad211.add ((x7_1).toNat * 3)).block, (ad211.add ((x7_1).toNat * 3)).off + 1, none⟩ = some (.int .i64 ((rd_T29 l0 x7_1).f1)) ∧ w'.cell? ⟨(ad211.add ((x7_1).toNat * 3)).block, (ad211.add ((x7_1).toNat * 3)).off + 2, none⟩ = some (.slice A212_2 ((rd_T29 l0 x7_1).f2).length c212_2)) ∧ (Kd.V (Kd.int .u8) 5 w' w.heap.size (fun k_ => k_ ≠ gb210 ∧ k_ ≠ s_.2.2) s_.1 t213) ∧ (Kd.V (Kd.int .u8) 5 w' w.heap.size (fun k_ => k_ ≠ gb210 ∧ k_ ≠ s_.2.2) s_.2.1 t218) ∧ (Kd.V (Kd.int .u8) 5 w' w.heap.size (fun k_ => k_ ≠ gb210 ∧ k_ ≠ s_.2.2) (.slice Ao14 x211000_1.length co14) x211000_1) ∧ (Kd.V (Kd.int .u8) 5 w' w.heap.size (fun k_ => k_ ≠ gb210 ∧ k_ ≠ s_.2.2) (.slice Ao15 x211003_1.length co15) x211003_1) ∧ (w'.heap[gb210]? = some (.cells #[.slice Ao14 x211000_1.length co14, .bool x211001_1, .int .i64 x211002_1, .slice Ao15 x211003_1.length co15] 27 (0, 0))) ∧ (w'.heap[s_.2.2]? = some (.cells #[.slice none 0 0, .bool false, .int .i64 0, .slice none 0 0] 27 (0, 0))) ∧ (w.heap.size ≤ s_.2.2) ∧ (w.heap.size ≤ s_.2.2) ∧ (gb210 ≠ s_.2.2) ∧ (s_.2.2 ≠ gb210) ∧ (Below w.heap.size w w')) ?_ ?_
                  rotate_left
                  · intro hCont
                    refine two_ (i := 6) (j := 10) (Ni := some 39) (Nj := some 8) #[true, true, true, true, true, true, true, false, false, false, false, false, false] #[true, true, true, true, true, true, false, false, false, false, true, false, false] rfl rfl rfl rfl (two_of HT_.out (by kernel_rfl)) (by decide) (by decide) (fun K hK => ?_) (fun K hK => ?_)
                    · skip
                      refine gs Try.func11 (by kernel_rfl) rfl #[.agg #[.slice Ao14 x211000_1.length co14, .bool x211001_1, .int .i64 x211002_1, .slice Ao15 x211003_1.length co15], .int .i64 ((rd_T29 l0 x7_1).f1)] (by rfl) rfl rfl ?_
                      with_reducible refine (wire_Grant.calls (fun k_ => k_ ≠ gb210) _ _ x211000_1 x211001_1 x211002_1 (fun k_ => k_ ≠ gb210) _ _ x211003_1 ((rd_T29 l0 x7_1).f1) t213 t216 t217 t218 t221 _ ?side1 ?side2 A12.out).mono ?_
                      (case side1 => exact HO_211000.out)
                      (case side2 => exact HO_211003.out)
                      rintro e w17 ⟨v214, v219, rfl, ho0, ho1, hb⟩
                      refine ⟨_, rfl, ?_⟩
                      replace HO_211000 := vB HO_211000 hb
                      replace HO_211003 := vB HO_211003 hb
                      have HO215 := Aside0.mk (Kd.V_lower (Kd.V_mono (ok' := fun k_ => k_ ≠ gb210) ho0 (fun k_ hk_ => oe hk_ (fun h => h) (fun h => h) (Kd.freshB (kk BK210) k_))) (below_size (bb HB)))
                      have HO220 := Aside0.mk (Kd.V_lower (Kd.V_mono (ok' := fun k_ => k_ ≠ gb210) ho1 (fun k_ hk_ => oe hk_ (fun h => h) (fun h => h) (Kd.freshB (kk BK210) k_))) (below_size (bb HB)))
                      replace BK210 := kB BK210 hb
                      replace HB := hB HB hb
                      (try clear hb)
                      (try clear hb2)
                      (try clear hk)
                      (try clear hi)
                      (try clear ho0)
                      (try clear ho1)
                      refine hK.out _ _ ⟨cx BK210 0, cx BK210 1, cx BK210 2, cx BK210 3, ((HB.out.cell (World.block_lt_of_cell? w _ hw212_0)).trans hw212_0), ((HB.out.cell (World.block_lt_of_cell? w _ hw212_1)).trans hw212_1), ((HB.out.cell (World.block_lt_of_cell? w _ hw212_2)).trans hw212_2)⟩ (fun hHeld => ?_)
                      clear hK K
                      refine norm_ (a' := ?_) ?_ ?_
                      rotate_left
                      · show Act.put _ (some 39) _ = _
                        simp only [Act.put, List.setIfInBounds_toArray, List.set_cons_zero, List.set_cons_succ, i64_w, i32_w]
                        rfl
                      refine pure_ (i := 7) (N := some 32) (v := ?_) (a' := ?_) #[true, true, true, true, true, true, true, true, false, false, false, false, false] rfl rfl (any_of HT_.out (by kernel_rfl)) (fun _ _ _ h => h) (Or.inl ⟨by rfl, ?_⟩) ?_ ?_
                      rotate_left
                      · intro w'
                        go_simp
                        with_reducible rfl
                      rotate_left
                      · simp only [Act.put, List.setIfInBounds_toArray, List.set_cons_zero, List.set_cons_succ, i64_w, i32_w]
                        rfl
                      refine pure_ (i := 8) (N := some 40) (v := ?_) (a' := ?_) #[true, true, true, true, true, true, true, true, true, false, false, false, false] rfl rfl (any_of HT_.out (by kernel_rfl)) (fun _ _ _ h => h) (Or.inl ⟨by rfl, ?_⟩) ?_ ?_
                      rotate_left
                      · intro w'
                        go_simp
                        with_reducible rfl
                      rotate_left
                      · simp only [Act.put, List.setIfInBounds_toArray, List.set_cons_zero, List.set_cons_succ, i64_w, i32_w]
                        rfl
                      refine pure_ (i := 9) (N := some 41) (v := ?_) (a' := ?_) #[true, true, true, true, true, true, true, true, true, true, false, false, false] rfl rfl (any_of HT_.out (by kernel_rfl)) (fun _ _ _ h => h) (Or.inl ⟨by rfl, ?_⟩) ?_ ?_
                      rotate_left
                      · intro w'
                        go_simp
                        with_reducible rfl
                      rotate_left
                      · simp only [Act.put, List.setIfInBounds_toArray, List.set_cons_zero, List.set_cons_succ, i64_w, i32_w]
                        rfl
                      refine one_ (i := 10) (N := some 8) #[true, true, true, true, true, true, true, true, true, true, true, false, false] rfl rfl (one_of HT_.out (by kernel_rfl)) (by decide) (fun K hK => ?_)
                      refine box_step ?hg (N := 8) ?hd (cs := #[.slice none 0 0, .bool false, .int .i64 0, .slice none 0 0]) (t := 27) ?hr ?_; (case hd => rfl); (case hg => rfl); (case hr => first | (go_simp; done) | (go_simp; rfl))
                      intro gb222 hg w18 hbox hb
                      replace HO_211000 := vE HO_211000 hg hb
                      replace HO_211003 := vE HO_211003 hg hb
                      replace HO215 := vE HO215 hg hb
                      replace HO220 := vE HO220 hg hb
                      have BK222 := Aside0.mk hbox
                      have GW222 := gE HB hg
                      have GE222 := gE HB hg
                      replace HB := hB HB hb
                      have NB210_222 := nL BK210 hg
                      have NB222_210 := nG BK210 hg
                      replace BK210 := kB BK210 hb
                      clear hb hbox hg
                      refine hK.out _ _ ⟨cx BK210 0, cx BK210 1, cx BK210 2, cx BK210 3, ((HB.out.cell (World.block_lt_of_cell? w _ hw212_0)).trans hw212_0), ((HB.out.cell (World.block_lt_of_cell? w _ hw212_1)).trans hw212_1), ((HB.out.cell (World.block_lt_of_cell? w _ hw212_2)).trans hw212_2)⟩ (fun hHeld => ?_)
                      clear hK K
                      refine norm_ (a' := ?_) ?_ ?_
                      rotate_left
                      · show Act.put _ (some 8) _ = _
                        simp only [Act.put, List.setIfInBounds_toArray, List.set_cons_zero, List.set_cons_succ, i64_w, i32_w]
                        rfl
                      exact norm_ (by simp only [putAll, Act.put, List.setIfInBounds_toArray, List.set_cons_zero, List.set_cons_succ]) (hCont (v214, v219, gb222) _ ⟨hHeld, (vM HO215), (vM HO220), (vM HO_211000), (vM HO_211003), (kk BK210), (kk BK222), GW222.out, GE222.out, NB210_222.out, NB222_210.out, (bb HB)⟩)
                    · skip
                      refine box_step ?hg (N := 8) ?hd (cs := #[.slice none 0 0, .bool false, .int .i64 0, .slice none 0 0]) (t := 27) ?hr ?_; (case hd => rfl); (case hg => rfl); (case hr => first | (go_simp; done) | (go_simp; rfl))
                      intro gb222 hg w17 hbox hb
                      replace HO_211000 := vE HO_211000 hg hb
                      replace HO_211003 := vE HO_211003 hg hb
                      have BK222 := Aside0.mk hbox
                      have GW222 := gE HB hg
                      have GE222 := gE HB hg
                      replace HB := hB HB hb
                      have NB210_222 := nL BK210 hg
                      have NB222_210 := nG BK210 hg
                      replace BK210 := kB BK210 hb
                      clear hb hbox hg
                      refine hK.out _ _ ⟨cx BK210 0, cx BK210 1, cx BK210 2, cx BK210 3, ((HB.out.cell (World.block_lt_of_cell? w _ hw212_0)).trans hw212_0), ((HB.out.cell (World.block_lt_of_cell? w _ hw212_1)).trans hw212_1), ((HB.out.cell (World.block_lt_of_cell? w _ hw212_2)).trans hw212_2)⟩ (fun hHeld => ?_)
                      clear hK K
                      refine norm_ (a' := ?_) ?_ ?_
                      rotate_left
                      · show Act.put _ (some 8) _ = _
                        simp only [Act.put, List.setIfInBounds_toArray, List.set_cons_zero, List.set_cons_succ, i64_w, i32_w]
                        rfl
                      refine one_ (i := 6) (N := some 39) #[true, true, true, true, true, true, true, false, false, false, true, false, false] rfl rfl (one_of HT_.out (by kernel_rfl)) (by decide) (fun K hK => ?_)
                      refine gs Try.func11 (by kernel_rfl) rfl #[.agg #[.slice Ao14 x211000_1.length co14, .bool x211001_1, .int .i64 x211002_1, .slice Ao15 x211003_1.length co15], .int .i64 ((rd_T29 l0 x7_1).f1)] (by rfl) rfl rfl ?_
                      with_reducible refine (wire_Grant.calls (fun k_ => (k_ ≠ gb210 ∧ k_ ≠ gb222)) _ _ x211000_1 x211001_1 x211002_1 (fun k_ => (k_ ≠ gb210 ∧ k_ ≠ gb222)) _ _ x211003_1 ((rd_T29 l0 x7_1).f1) t213 t216 t217 t218 t221 _ ?side1 ?side2 A12.out).mono ?_
                      (case side1 => exact HO_211000.out)
                      (case side2 => exact HO_211003.out)
                      rintro e w18 ⟨v214, v219, rfl, ho0, ho1, hb⟩
                      refine ⟨_, rfl, ?_⟩
                      replace HO_211000 := vB HO_211000 hb
                      replace HO_211003 := vB HO_211003 hb
                      have HO215 := Aside0.mk (Kd.V_lower (Kd.V_mono (ok' := fun k_ => k_ ≠ gb210 ∧ k_ ≠ gb222) ho0 (fun k_ hk_ => ⟨oe hk_ (fun h => h.1) (fun h => h.1) (Kd.freshB (kk BK210) k_), oe hk_ (fun h => h.2) (fun h => h.2) (Kd.freshB (kk BK222) k_)⟩)) (below_size (bb HB)))
                      have HO220 := Aside0.mk (Kd.V_lower (Kd.V_mono (ok' := fun k_ => k_ ≠ gb210 ∧ k_ ≠ gb222) ho1 (fun k_ hk_ => ⟨oe hk_ (fun h => h.1) (fun h => h.1) (Kd.freshB (kk BK210) k_), oe hk_ (fun h => h.2) (fun h => h.2) (Kd.freshB (kk BK222) k_)⟩)) (below_size (bb HB)))
                      replace BK210 := kB BK210 hb
                      replace BK222 := kB BK222 hb
                      replace HB := hB HB hb
                      (try clear hb)
                      (try clear hb2)
                      (try clear hk)
                      (try clear hi)
                      (try clear ho0)
                      (try clear ho1)
                      refine hK.out _ _ ⟨cx BK210 0, cx BK210 1, cx BK210 2, cx BK210 3, ((HB.out.cell (World.block_lt_of_cell? w _ hw212_0)).trans hw212_0), ((HB.out.cell (World.block_lt_of_cell? w _ hw212_1)).trans hw212_1), ((HB.out.cell (World.block_lt_of_cell? w _ hw212_2)).trans hw212_2)⟩ (fun hHeld => ?_)
                      clear hK K
                      refine norm_ (a' := ?_) ?_ ?_
                      rotate_left
                      · show Act.put _ (some 39) _ = _
                        simp only [Act.put, List.setIfInBounds_toArray, List.set_cons_zero, List.set_cons_succ, i64_w, i32_w]
                        rfl
                      refine pure_ (i := 7) (N := some 32) (v := ?_) (a' := ?_) #[true, true, true, true, true, true, true, true, false, false, true, false, false] rfl rfl (any_of HT_.out (by kernel_rfl)) (fun _ _ _ h => h) (Or.inl ⟨by rfl, ?_⟩) ?_ ?_
                      rotate_left
                      · intro w'
                        go_simp
                        with_reducible rfl
                      rotate_left
                      · simp only [Act.put, List.setIfInBounds_toArray, List.set_cons_zero, List.set_cons_succ, i64_w, i32_w]
                        rfl
                      refine pure_ (i := 8) (N := some 40) (v := ?_) (a' := ?_) #[true, true, true, true, true, true, true, true, true, false, true, false, false] rfl rfl (any_of HT_.out (by kernel_rfl)) (fun _ _ _ h => h) (Or.inl ⟨by rfl, ?_⟩) ?_ ?_
                      rotate_left
                      · intro w'
                        go_simp
                        with_reducible rfl
                      rotate_left
                      · simp only [Act.put, List.setIfInBounds_toArray, List.set_cons_zero, List.set_cons_succ, i64_w, i32_w]
                        rfl
                      refine pure_ (i := 9) (N := some 41) (v := ?_) (a' := ?_) #[true, true, true, true, true, true, true, true, true, true, true, false, false] rfl rfl (any_of HT_.out (by kernel_rfl)) (fun _ _ _ h => h) (Or.inl ⟨by rfl, ?_⟩) ?_ ?_
                      rotate_left
                      · intro w'
                        go_simp
                        with_reducible rfl
                      rotate_left
                      · simp only [Act.put, List.setIfInBounds_toArray, List.set_cons_zero, List.set_cons_succ, i64_w, i32_w]
                        rfl
                      exact norm_ (by simp only [putAll, Act.put, List.setIfInBounds_toArray, List.set_cons_zero, List.set_cons_succ]) (hCont (v214, v219, gb222) _ ⟨hHeld, (vM HO215), (vM HO220), (vM HO_211000), (vM HO_211003), (kk BK210), (kk BK222), GW222.out, GE222.out, NB210_222.out, NB222_210.out, (bb HB)⟩)
                  clear HO_211000 HO_211003 BK210 HB
                  rintro ⟨v214, v219, gb222⟩ w19 hS_
                  dsimp only at hS_
                  obtain ⟨hHeld, h0_, h1_, h2_, h3_, h4_, h5_, h6_, h7_, h8_, h9_, h10_⟩ := hS_
                  have HO215 := Aside0.mk h0_
                  have HO220 := Aside0.mk h1_
                  have HO_211000 := Aside0.mk h2_
                  have HO_211003 := Aside0.mk h3_
                  have BK210 := Aside0.mk h4_
                  have BK222 := Aside0.mk h5_
                  have GW222 := Aside0.mk h6_
                  have GE222 := Aside0.mk h7_
                  have NB210_222 := Aside0.mk h8_
                  have NB222_210 := Aside0.mk h9_
                  have HB := Aside0.mk h10_
                  clear h0_ h1_ h2_ h3_ h4_ h5_ h6_ h7_ h8_ h9_ h10_
                  obtain ⟨Ao20, co20, eo20⟩ := Kd.V_slice HO215.out
                  (first | subst eo20 | (injection eo20 with f1_ f2_ f3_; have f4_ := f1_.symm; have f5_ := f3_.symm; clear f1_ f2_ f3_; subst f4_; subst f5_))
                  obtain ⟨Ao24, co24, eo24⟩ := Kd.V_slice HO220.out
                  (first | subst eo24 | (injection eo24 with f1_ f2_ f3_; have f4_ := f1_.symm; have f5_ := f3_.symm; clear f1_ f2_ f3_; subst f4_; subst f5_))
                  refine norm_ (a' := ?_) ?_ ?_
                  rotate_left
                  · simp only [putAll, Act.put, List.setIfInBounds_toArray, List.set_cons_zero, List.set_cons_succ]
                    rfl
                  refine one_ (i := 11) (N := none) #[true, true, true, true, true, true, true, true, true, true, true, true, false] rfl rfl (one_of HT_.out (by kernel_rfl)) (by decide) (fun K hK => ?_)
                  have hs21 : w19.cell? ⟨gb222, 0, none⟩ = some (.slice none 0 0) := cx BK222 0
                  have hfs21 := blk_frozen BK222.out 0
                  have hns21_0 := NB210_222.out
                  have hms21_0 := NB222_210.out
                  have hs22 : w19.cell? ⟨gb222, 1, none⟩ = some (.bool false) := cx BK222 1
                  have hfs22 := blk_frozen BK222.out 1
                  have hns22_0 := NB210_222.out
                  have hms22_0 := NB222_210.out
                  have hs23 : w19.cell? ⟨gb222, 2, none⟩ = some (.int .i64 0) := cx BK222 2
                  have hfs23 := blk_frozen BK222.out 2
                  have hns23_0 := NB210_222.out
                  have hms23_0 := NB222_210.out
                  have hs25 : w19.cell? ⟨gb222, 3, none⟩ = some (.slice none 0 0) := cx BK222 3
                  have hfs25 := blk_frozen BK222.out 3
                  have hns25_0 := NB210_222.out
                  have hms25_0 := NB222_210.out
                  refine skip_ (w1 := ?_) (by rfl) rfl ?_ ?_
                  rotate_left
                  · go_simp
                    rfl
                  refine hK.out _ _ ⟨((cell_far (p := ⟨gb222, _, none⟩) NB210_222.out _).trans (((cell_far (p := ⟨gb222, _, none⟩) NB210_222.out _).trans (((cell_far (p := ⟨gb222, _, none⟩) NB210_222.out _).trans (((cell_far (p := ⟨gb222, _, none⟩) NB210_222.out _).trans (hHeld.1)))))))), ((cell_far (p := ⟨gb222, _, none⟩) NB210_222.out _).trans (((cell_far (p := ⟨gb222, _, none⟩) NB210_222.out _).trans (((cell_far (p := ⟨gb222, _, none⟩) NB210_222.out _).trans (((cell_far (p := ⟨gb222, _, none⟩) NB210_222.out _).trans (hHeld.2.1)))))))), ((cell_far (p := ⟨gb222, _, none⟩) NB210_222.out _).trans (((cell_far (p := ⟨gb222, _, none⟩) NB210_222.out _).trans (((cell_far (p := ⟨gb222, _, none⟩) NB210_222.out _).trans (((cell_far (p := ⟨gb222, _, none⟩) NB210_222.out _).trans (hHeld.2.2.1)))))))), ((cell_far (p := ⟨gb222, _, none⟩) NB210_222.out _).trans (((cell_far (p := ⟨gb222, _, none⟩) NB210_222.out _).trans (((cell_far (p := ⟨gb222, _, none⟩) NB210_222.out _).trans (((cell_far (p := ⟨gb222, _, none⟩) NB210_222.out _).trans (hHeld.2.2.2.1)))))))), ((cell_far (p := ⟨gb222, _, none⟩) (by first | exact Nat.ne_of_lt (Nat.lt_of_lt_of_le (by have := World.block_lt_of_cell? _ _ hw212_0; first | rwa [add_block] at this | exact this) GW222.out) | (rw [add_block]; exact Nat.ne_of_lt (Nat.lt_of_lt_of_le (by have := World.block_lt_of_cell? _ _ hw212_0; first | rwa [add_block] at this | exact this) GW222.out)) | (show (Addr.add _ _).block ≠ _; rw [add_block]; exact Nat.ne_of_lt (Nat.lt_of_lt_of_le (by have := World.block_lt_of_cell? _ _ hw212_0; first | rwa [add_block] at this | exact this) GW222.out)) | (dsimp only; exact Nat.ne_of_lt (Nat.lt_of_lt_of_le (by have := World.block_lt_of_cell? _ _ hw212_0; first | rwa [add_block] at this | exact this) GW222.out))) _).trans (((cell_far (p := ⟨gb222, _, none⟩) (by first | exact Nat.ne_of_lt (Nat.lt_of_lt_of_le (by have := World.block_lt_of_cell? _ _ hw212_0; first | rwa [add_block] at this | exact this) GW222.out) | (rw [add_block]; exact Nat.ne_of_lt (Nat.lt_of_lt_of_le (by have := World.block_lt_of_cell? _ _ hw212_0; first | rwa [add_block] at this | exact this) GW222.out)) | (show (Addr.add _ _).block ≠ _; rw [add_block]; exact Nat.ne_of_lt (Nat.lt_of_lt_of_le (by have := World.block_lt_of_cell? _ _ hw212_0; first | rwa [add_block] at this | exact this) GW222.out)) | (dsimp only; exact Nat.ne_of_lt (Nat.lt_of_lt_of_le (by have := World.block_lt_of_cell? _ _ hw212_0; first | rwa [add_block] at this | exact this) GW222.out))) _).trans (((cell_far (p := ⟨gb222, _, none⟩) (by first | exact Nat.ne_of_lt (Nat.lt_of_lt_of_le (by have := World.block_lt_of_cell? _ _ hw212_0; first | rwa [add_block] at this | exact this) GW222.out) | (rw [add_block]; exact Nat.ne_of_lt (Nat.lt_of_lt_of_le (by have := World.block_lt_of_cell? _ _ hw212_0; first | rwa [add_block] at this | exact this) GW222.out)) | (show (Addr.add _ _).block ≠ _; rw [add_block]; exact Nat.ne_of_lt (Nat.lt_of_lt_of_le (by have := World.block_lt_of_cell? _ _ hw212_0; first | rwa [add_block] at this | exact this) GW222.out)) | (dsimp only; exact Nat.ne_of_lt (Nat.lt_of_lt_of_le (by have := World.block_lt_of_cell? _ _ hw212_0; first | rwa [add_block] at this | exact this) GW222.out))) _).trans (((cell_far (p := ⟨gb222, _, none⟩) (by first | exact Nat.ne_of_lt (Nat.lt_of_lt_of_le (by have := World.block_lt_of_cell? _ _ hw212_0; first | rwa [add_block] at this | exact this) GW222.out) | (rw [add_block]; exact Nat.ne_of_lt (Nat.lt_of_lt_of_le (by have := World.block_lt_of_cell? _ _ hw212_0; first | rwa [add_block] at this | exact this) GW222.out)) | (show (Addr.add _ _).block ≠ _; rw [add_block]; exact Nat.ne_of_lt (Nat.lt_of_lt_of_le (by have := World.block_lt_of_cell? _ _ hw212_0; first | rwa [add_block] at this | exact this) GW222.out)) | (dsimp only; exact Nat.ne_of_lt (Nat.lt_of_lt_of_le (by have := World.block_lt_of_cell? _ _ hw212_0; first | rwa [add_block] at this | exact this) GW222.out))) _).trans (hHeld.2.2.2.2.1)))))))), ((cell_far (p := ⟨gb222, _, none⟩) (by first | exact Nat.ne_of_lt (Nat.lt_of_lt_of_le (by have := World.block_lt_of_cell? _ _ hw212_1; first | rwa [add_block] at this | exact this) GW222.out) | (rw [add_block]; exact Nat.ne_of_lt (Nat.lt_of_lt_of_le (by have := World.block_lt_of_cell? _ _ hw212_1; first | rwa [add_block] at this | exact this) GW222.out)) | (show (Addr.add _ _).block ≠ _; rw [add_block]; exact Nat.ne_of_lt (Nat.lt_of_lt_of_le (by have := World.block_lt_of_cell? _ _ hw212_1; first | rwa [add_block] at this | exact this) GW222.out)) | (dsimp only; exact Nat.ne_of_lt (Nat.lt_of_lt_of_le (by have := World.block_lt_of_cell? _ _ hw212_1; first | rwa [add_block] at this | exact this) GW222.out))) _).trans (((cell_far (p := ⟨gb222, _, none⟩) (by first | exact Nat.ne_of_lt (Nat.lt_of_lt_of_le (by have := World.block_lt_of_cell? _ _ hw212_1; first | rwa [add_block] at this | exact this) GW222.out) | (rw [add_block]; exact Nat.ne_of_lt (Nat.lt_of_lt_of_le (by have := World.block_lt_of_cell? _ _ hw212_1; first | rwa [add_block] at this | exact this) GW222.out)) | (show (Addr.add _ _).block ≠ _; rw [add_block]; exact Nat.ne_of_lt (Nat.lt_of_lt_of_le (by have := World.block_lt_of_cell? _ _ hw212_1; first | rwa [add_block] at this | exact this) GW222.out)) | (dsimp only; exact Nat.ne_of_lt (Nat.lt_of_lt_of_le (by have := World.block_lt_of_cell? _ _ hw212_1; first | rwa [add_block] at this | exact this) GW222.out))) _).trans (((cell_far (p := ⟨gb222, _, none⟩) (by first | exact Nat.ne_of_lt (Nat.lt_of_lt_of_le (by have := World.block_lt_of_cell? _ _ hw212_1; first | rwa [add_block] at this | exact this) GW222.out) | (rw [add_block]; exact Nat.ne_of_lt (Nat.lt_of_lt_of_le (by have := World.block_lt_of_cell? _ _ hw212_1; first | rwa [add_block] at this | exact this) GW222.out)) | (show (Addr.add _ _).block ≠ _; rw [add_block]; exact Nat.ne_of_lt (Nat.lt_of_lt_of_le (by have := World.block_lt_of_cell? _ _ hw212_1; first | rwa [add_block] at this | exact this) GW222.out)) | (dsimp only; exact Nat.ne_of_lt (Nat.lt_of_lt_of_le (by have := World.block_lt_of_cell? _ _ hw212_1; first | rwa [add_block] at this | exact this) GW222.out))) _).trans (((cell_far (p := ⟨gb222, _, none⟩) (by first | exact Nat.ne_of_lt (Nat.lt_of_lt_of_le (by have := World.block_lt_of_cell? _ _ hw212_1; first | rwa [add_block] at this | exact this) GW222.out) | (rw [add_block]; exact Nat.ne_of_lt (Nat.lt_of_lt_of_le (by have := World.block_lt_of_cell? _ _ hw212_1; first | rwa [add_block] at this | exact this) GW222.out)) | (show (Addr.add _ _).block ≠ _; rw [add_block]; exact Nat.ne_of_lt (Nat.lt_of_lt_of_le (by have := World.block_lt_of_cell? _ _ hw212_1; first | rwa [add_block] at this | exact this) GW222.out)) | (dsimp only; exact Nat.ne_of_lt (Nat.lt_of_lt_of_le (by have := World.block_lt_of_cell? _ _ hw212_1; first | rwa [add_block] at this | exact this) GW222.out))) _).trans (hHeld.2.2.2.2.2.1)))))))), ((cell_far (p := ⟨gb222, _, none⟩) (by first | exact Nat.ne_of_lt (Nat.lt_of_lt_of_le (by have := World.block_lt_of_cell? _ _ hw212_2; first | rwa [add_block] at this | exact this) GW222.out) | (rw [add_block]; exact Nat.ne_of_lt (Nat.lt_of_lt_of_le (by have := World.block_lt_of_cell? _ _ hw212_2; first | rwa [add_block] at this | exact this) GW222.out)) | (show (Addr.add _ _).block ≠ _; rw [add_block]; exact Nat.ne_of_lt (Nat.lt_of_lt_of_le (by have := World.block_lt_of_cell? _ _ hw212_2; first | rwa [add_block] at this | exact this) GW222.out)) | (dsimp only; exact Nat.ne_of_lt (Nat.lt_of_lt_of_le (by have := World.block_lt_of_cell? _ _ hw212_2; first | rwa [add_block] at this | exact this) GW222.out))) _).trans (((cell_far (p := ⟨gb222, _, none⟩) (by first | exact Nat.ne_of_lt (Nat.lt_of_lt_of_le (by have := World.block_lt_of_cell? _ _ hw212_2; first | rwa [add_block] at this | exact this) GW222.out) | (rw [add_block]; exact Nat.ne_of_lt (Nat.lt_of_lt_of_le (by have := World.block_lt_of_cell? _ _ hw212_2; first | rwa [add_block] at this | exact this) GW222.out)) | (show (Addr.add _ _).block ≠ _; rw [add_block]; exact Nat.ne_of_lt (Nat.lt_of_lt_of_le (by have := World.block_lt_of_cell? _ _ hw212_2; first | rwa [add_block] at this | exact this) GW222.out)) | (dsimp only; exact Nat.ne_of_lt (Nat.lt_of_lt_of_le (by have := World.block_lt_of_cell? _ _ hw212_2; first | rwa [add_block] at this | exact this) GW222.out))) _).trans (((cell_far (p := ⟨gb222, _, none⟩) (by first | exact Nat.ne_of_lt (Nat.lt_of_lt_of_le (by have := World.block_lt_of_cell? _ _ hw212_2; first | rwa [add_block] at this | exact this) GW222.out) | (rw [add_block]; exact Nat.ne_of_lt (Nat.lt_of_lt_of_le (by have := World.block_lt_of_cell? _ _ hw212_2; first | rwa [add_block] at this | exact this) GW222.out)) | (show (Addr.add _ _).block ≠ _; rw [add_block]; exact Nat.ne_of_lt (Nat.lt_of_lt_of_le (by have := World.block_lt_of_cell? _ _ hw212_2; first | rwa [add_block] at this | exact this) GW222.out)) | (dsimp only; exact Nat.ne_of_lt (Nat.lt_of_lt_of_le (by have := World.block_lt_of_cell? _ _ hw212_2; first | rwa [add_block] at this | exact this) GW222.out))) _).trans (((cell_far (p := ⟨gb222, _, none⟩) (by first | exact Nat.ne_of_lt (Nat.lt_of_lt_of_le (by have := World.block_lt_of_cell? _ _ hw212_2; first | rwa [add_block] at this | exact this) GW222.out) | (rw [add_block]; exact Nat.ne_of_lt (Nat.lt_of_lt_of_le (by have := World.block_lt_of_cell? _ _ hw212_2; first | rwa [add_block] at this | exact this) GW222.out)) | (show (Addr.add _ _).block ≠ _; rw [add_block]; exact Nat.ne_of_lt (Nat.lt_of_lt_of_le (by have := World.block_lt_of_cell? _ _ hw212_2; first | rwa [add_block] at this | exact this) GW222.out)) | (dsimp only; exact Nat.ne_of_lt (Nat.lt_of_lt_of_le (by have := World.block_lt_of_cell? _ _ hw212_2; first | rwa [add_block] at this | exact this) GW222.out))) _).trans (hHeld.2.2.2.2.2.2))))))))⟩ (fun hHeld => ?_)
                  clear hK K
                  refine pure_ (i := 12) (N := some 9) (v := ?_) (a' := ?_) #[true, true, true, true, true, true, true, true, true, true, true, true, true] rfl rfl (any_of HT_.out (by kernel_rfl)) (fun _ _ _ h => h) (Or.inl ⟨by rfl, ?_⟩) ?_ ?_
                  rotate_left
                  · intro w'
                    go_simp
                    with_reducible rfl
                  rotate_left
                  · simp only [Act.put, List.setIfInBounds_toArray, List.set_cons_zero, List.set_cons_succ, i64_w, i32_w]
                    rfl
                  refine done_ (done_of HT_.out (by kernel_rfl)) ?_
                  have hnb26 := NB222_210.out
                  have hnc26 := NB210_222.out
                  obtain ⟨hcz27_0, hcz27_1, hcz27_2, hcz27_3, hfz27_0, hfz27_1, hfz27_2, hfz27_3⟩ := bc4 BK222
                  obtain ⟨hcz28_0, hcz28_1, hcz28_2, hcz28_3, hfz28_0, hfz28_1, hfz28_2, hfz28_3⟩ := bc4 BK210
                  have p223 : 0 ≤ (x7_1 : Int) := of_decide_eq_true (by first | (with_reducible assumption) | assumption)
                  have q223 : x7_1 < (l0.length : Int) := of_decide_eq_true (by first | (with_reducible assumption) | assumption)
                  obtain ⟨ad223, A223_2, c223_2, e223, hx223_0, hx223_1, hx223_2, hl223_2, hi223_2⟩ := at_T29 HR0.out x7_1 p223 q223
                  obtain rfl : ad211 = ad223 := (by injection e223)
                  have hn223_0 : ad211.block ≠ gb222 := Nat.ne_of_lt (Nat.lt_of_lt_of_le (by have := World.block_lt_of_cell? _ _ hx223_0; first | rwa [add_block] at this | exact this) GW222.out)
                  have hn223_1 : ad211.block ≠ gb222 := Nat.ne_of_lt (Nat.lt_of_lt_of_le (by have := World.block_lt_of_cell? _ _ hx223_0; first | rwa [add_block] at this | exact this) GW222.out)
                  have hn223_2 : ad211.block ≠ gb222 := Nat.ne_of_lt (Nat.lt_of_lt_of_le (by have := World.block_lt_of_cell? _ _ hx223_0; first | rwa [add_block] at this | exact this) GW222.out)
                  have hn223_3 : ad211.block ≠ gb222 := Nat.ne_of_lt (Nat.lt_of_lt_of_le (by have := World.block_lt_of_cell? _ _ hx223_0; first | rwa [add_block] at this | exact this) GW222.out)
                  have hn223_4 : ad211.block ≠ gb210 := Nat.ne_of_lt (Nat.lt_of_lt_of_le (by have := World.block_lt_of_cell? _ _ hx223_0; first | rwa [add_block] at this | exact this) GW210.out)
                  have hn223_5 : ad211.block ≠ gb210 := Nat.ne_of_lt (Nat.lt_of_lt_of_le (by have := World.block_lt_of_cell? _ _ hx223_0; first | rwa [add_block] at this | exact this) GW210.out)
                  have hn223_6 : ad211.block ≠ gb210 := Nat.ne_of_lt (Nat.lt_of_lt_of_le (by have := World.block_lt_of_cell? _ _ hx223_0; first | rwa [add_block] at this | exact this) GW210.out)
                  have hn223_7 : ad211.block ≠ gb210 := Nat.ne_of_lt (Nat.lt_of_lt_of_le (by have := World.block_lt_of_cell? _ _ hx223_0; first | rwa [add_block] at this | exact this) GW210.out)
                  replace hx223_0 := (HB.out.cell (World.block_lt_of_cell? w _ hx223_0)).trans hx223_0
                  replace hx223_1 := (HB.out.cell (World.block_lt_of_cell? w _ hx223_1)).trans hx223_1
                  replace hx223_2 := (HB.out.cell (World.block_lt_of_cell? w _ hx223_2)).trans hx223_2
                  have HR223_2 := Aside0.mk hi223_2
                  have HC223_2 := Aside0.mk hl223_2
                  clear hi223_2 hl223_2
                  replace hx223_0 := (cell_far (p := ⟨gb222, 0, none⟩) (by first | (rw [add_block]; exact hn223_0) | (show (Addr.add _ _).block ≠ _; rw [add_block]; exact hn223_0) | exact hn223_0) (.slice Ao20 t213.length co20)).trans hx223_0
                  replace hx223_1 := (cell_far (p := ⟨gb222, 0, none⟩) (by first | (rw [add_block]; exact hn223_0) | (show (Addr.add _ _).block ≠ _; rw [add_block]; exact hn223_0) | exact hn223_0) (.slice Ao20 t213.length co20)).trans hx223_1
                  replace hx223_2 := (cell_far (p := ⟨gb222, 0, none⟩) (by first | (rw [add_block]; exact hn223_0) | (show (Addr.add _ _).block ≠ _; rw [add_block]; exact hn223_0) | exact hn223_0) (.slice Ao20 t213.length co20)).trans hx223_2
                  replace hx223_0 := (cell_far (p := ⟨gb222, 1, none⟩) (by first | (rw [add_block]; exact hn223_1) | (show (Addr.add _ _).block ≠ _; rw [add_block]; exact hn223_1) | exact hn223_1) (.bool t216)).trans hx223_0
                  replace hx223_1 := (cell_far (p := ⟨gb222, 1, none⟩) (by first | (rw [add_block]; exact hn223_1) | (show (Addr.add _ _).block ≠ _; rw [add_block]; exact hn223_1) | exact hn223_1) (.bool t216)).trans hx223_1
                  replace hx223_2 := (cell_far (p := ⟨gb222, 1, none⟩) (by first | (rw [add_block]; exact hn223_1) | (show (Addr.add _ _).block ≠ _; rw [add_block]; exact hn223_1) | exact hn223_1) (.bool t216)).trans hx223_2
                  replace hx223_0 := (cell_far (p := ⟨gb222, 2, none⟩) (by first | (rw [add_block]; exact hn223_2) | (show (Addr.add _ _).block ≠ _; rw [add_block]; exact hn223_2) | exact hn223_2) (.int .i64 t217)).trans hx223_0
                  replace hx223_1 := (cell_far (p := ⟨gb222, 2, none⟩) (by first | (rw [add_block]; exact hn223_2) | (show (Addr.add _ _).block ≠ _; rw [add_block]; exact hn223_2) | exact hn223_2) (.int .i64 t217)).trans hx223_1
                  replace hx223_2 := (cell_far (p := ⟨gb222, 2, none⟩) (by first | (rw [add_block]; exact hn223_2) | (show (Addr.add _ _).block ≠ _; rw [add_block]; exact hn223_2) | exact hn223_2) (.int .i64 t217)).trans hx223_2
                  replace hx223_0 := (cell_far (p := ⟨gb222, 3, none⟩) (by first | (rw [add_block]; exact hn223_3) | (show (Addr.add _ _).block ≠ _; rw [add_block]; exact hn223_3) | exact hn223_3) (.slice Ao24 t218.length co24)).trans hx223_0
                  replace hx223_1 := (cell_far (p := ⟨gb222, 3, none⟩) (by first | (rw [add_block]; exact hn223_3) | (show (Addr.add _ _).block ≠ _; rw [add_block]; exact hn223_3) | exact hn223_3) (.slice Ao24 t218.length co24)).trans hx223_1
                  replace hx223_2 := (cell_far (p := ⟨gb222, 3, none⟩) (by first | (rw [add_block]; exact hn223_3) | (show (Addr.add _ _).block ≠ _; rw [add_block]; exact hn223_3) | exact hn223_3) (.slice Ao24 t218.length co24)).trans hx223_2
                  replace hx223_0 := (cell_far (p := ⟨gb210, 0, none⟩) (by first | (rw [add_block]; exact hn223_4) | (show (Addr.add _ _).block ≠ _; rw [add_block]; exact hn223_4) | exact hn223_4) (.slice Ao20 t213.length co20)).trans hx223_0
                  replace hx223_1 := (cell_far (p := ⟨gb210, 0, none⟩) (by first | (rw [add_block]; exact hn223_4) | (show (Addr.add _ _).block ≠ _; rw [add_block]; exact hn223_4) | exact hn223_4) (.slice Ao20 t213.length co20)).trans hx223_1
                  replace hx223_2 := (cell_far (p := ⟨gb210, 0, none⟩) (by first | (rw [add_block]; exact hn223_4) | (show (Addr.add _ _).block ≠ _; rw [add_block]; exact hn223_4) | exact hn223_4) (.slice Ao20 t213.length co20)).trans hx223_2
                  replace hx223_0 := (cell_far (p := ⟨gb210, 1, none⟩) (by first | (rw [add_block]; exact hn223_5) | (show (Addr.add _ _).block ≠ _; rw [add_block]; exact hn223_5) | exact hn223_5) (.bool t216)).trans hx223_0
                  replace hx223_1 := (cell_far (p := ⟨gb210, 1, none⟩) (by first | (rw [add_block]; exact hn223_5) | (show (Addr.add _ _).block ≠ _; rw [add_block]; exact hn223_5) | exact hn223_5) (.bool t216)).trans hx223_1
                  replace hx223_2 := (cell_far (p := ⟨gb210, 1, none⟩) (by first | (rw [add_block]; exact hn223_5) | (show (Addr.add _ _).block ≠ _; rw [add_block]; exact hn223_5) | exact hn223_5) (.bool t216)).trans hx223_2
                  replace hx223_0 := (cell_far (p := ⟨gb210, 2, none⟩) (by first | (rw [add_block]; exact hn223_6) | (show (Addr.add _ _).block ≠ _; rw [add_block]; exact hn223_6) | exact hn223_6) (.int .i64 t217)).trans hx223_0
                  replace hx223_1 := (cell_far (p := ⟨gb210, 2, none⟩) (by first | (rw [add_block]; exact hn223_6) | (show (Addr.add _ _).block ≠ _; rw [add_block]; exact hn223_6) | exact hn223_6) (.int .i64 t217)).trans hx223_1
                  replace hx223_2 := (cell_far (p := ⟨gb210, 2, none⟩) (by first | (rw [add_block]; exact hn223_6) | (show (Addr.add _ _).block ≠ _; rw [add_block]; exact hn223_6) | exact hn223_6) (.int .i64 t217)).trans hx223_2
                  replace hx223_0 := (cell_far (p := ⟨gb210, 3, none⟩) (by first | (rw [add_block]; exact hn223_7) | (show (Addr.add _ _).block ≠ _; rw [add_block]; exact hn223_7) | exact hn223_7) (.slice Ao24 t218.length co24)).trans hx223_0
                  replace hx223_1 := (cell_far (p := ⟨gb210, 3, none⟩) (by first | (rw [add_block]; exact hn223_7) | (show (Addr.add _ _).block ≠ _; rw [add_block]; exact hn223_7) | exact hn223_7) (.slice Ao24 t218.length co24)).trans hx223_1
                  replace hx223_2 := (cell_far (p := ⟨gb210, 3, none⟩) (by first | (rw [add_block]; exact hn223_7) | (show (Addr.add _ _).block ≠ _; rw [add_block]; exact hn223_7) | exact hn223_7) (.slice Ao24 t218.length co24)).trans hx223_2
                  clear hn223_0
                  clear hn223_1
                  clear hn223_2
                  clear hn223_3
                  clear hn223_4
                  clear hn223_5
                  clear hn223_6
                  clear hn223_7
                  replace p223 := eq_true p223
                  replace q223 := eq_true q223
                  try go_wp2
                  go_meet
                  case rel => exact ⟨_, (wrap64 (x5_1 + ((rd_T29 l0 x7_1).f1))), (t213), (t216), (t217), (t218), (.slice Ao20 t213.length co20), (.slice Ao24 t218.length co24), (by first | rfl | (simp; done) | (simp [*]; done)), H', ⟨by have := HK1.out; first | omega | exact Nat.le_refl _⟩, ⟨by (with_reducible repeat (first | apply Kd.V_alloc | apply Kd.V_drewN | apply Kd.V_drew)); exact Kd.V_mono (Kd.V_far (p := ⟨gb210, 3, none⟩) (Kd.V_far (p := ⟨gb210, 2, none⟩) (Kd.V_far (p := ⟨gb210, 1, none⟩) (Kd.V_far (p := ⟨gb210, 0, none⟩) (Kd.V_far (p := ⟨gb222, 3, none⟩) (Kd.V_far (p := ⟨gb222, 2, none⟩) (Kd.V_far (p := ⟨gb222, 1, none⟩) (Kd.V_far (p := ⟨gb222, 0, none⟩) (Kd.V_mono (Kd.V_mono HO215.out (fun k_ hk => (⟨hk, hk.2⟩ : _ ∧ k_ ≠ gb222))) (fun k_ hk => (⟨hk, hk.1.1⟩ : _ ∧ k_ ≠ gb210))) (fun _ hk => hk.1.2) (.slice Ao20 t213.length co20)) (fun _ hk => hk.1.2) (.bool t216)) (fun _ hk => hk.1.2) (.int .i64 t217)) (fun _ hk => hk.1.2) (.slice Ao24 t218.length co24)) (fun _ hk => hk.2) (.slice Ao20 t213.length co20)) (fun _ hk => hk.2) (.bool t216)) (fun _ hk => hk.2) (.int .i64 t217)) (fun _ hk => hk.2) (.slice Ao24 t218.length co24)) (fun _ hk => hk.1.1.1)⟩, ⟨by (with_reducible repeat (first | apply Kd.V_alloc | apply Kd.V_drewN | apply Kd.V_drew)); exact Kd.V_mono (Kd.V_far (p := ⟨gb210, 3, none⟩) (Kd.V_far (p := ⟨gb210, 2, none⟩) (Kd.V_far (p := ⟨gb210, 1, none⟩) (Kd.V_far (p := ⟨gb210, 0, none⟩) (Kd.V_far (p := ⟨gb222, 3, none⟩) (Kd.V_far (p := ⟨gb222, 2, none⟩) (Kd.V_far (p := ⟨gb222, 1, none⟩) (Kd.V_far (p := ⟨gb222, 0, none⟩) (Kd.V_mono (Kd.V_mono HO220.out (fun k_ hk => (⟨hk, hk.2⟩ : _ ∧ k_ ≠ gb222))) (fun k_ hk => (⟨hk, hk.1.1⟩ : _ ∧ k_ ≠ gb210))) (fun _ hk => hk.1.2) (.slice Ao20 t213.length co20)) (fun _ hk => hk.1.2) (.bool t216)) (fun _ hk => hk.1.2) (.int .i64 t217)) (fun _ hk => hk.1.2) (.slice Ao24 t218.length co24)) (fun _ hk => hk.2) (.slice Ao20 t213.length co20)) (fun _ hk => hk.2) (.bool t216)) (fun _ hk => hk.2) (.int .i64 t217)) (fun _ hk => hk.2) (.slice Ao24 t218.length co24)) (fun _ hk => hk.1.1.1)⟩, ⟨by (with_reducible repeat (first | refine blk_drewN ?_ _ | refine blk_drew ?_ | refine blk_alloc ?_ _)); refine blk_put (cs := #[.slice Ao20 t213.length co20, .bool t216, .int .i64 t217, .slice Ao15 x211003_1.length co15]) ?_ 3 _ rfl; (with_reducible repeat (first | refine blk_drewN ?_ _ | refine blk_drew ?_ | refine blk_alloc ?_ _)); refine blk_put (cs := #[.slice Ao20 t213.length co20, .bool t216, .int .i64 x211002_1, .slice Ao15 x211003_1.length co15]) ?_ 2 _ rfl; (with_reducible repeat (first | refine blk_drewN ?_ _ | refine blk_drew ?_ | refine blk_alloc ?_ _)); refine blk_put (cs := #[.slice Ao20 t213.length co20, .bool x211001_1, .int .i64 x211002_1, .slice Ao15 x211003_1.length co15]) ?_ 1 _ rfl; (with_reducible repeat (first | refine blk_drewN ?_ _ | refine blk_drew ?_ | refine blk_alloc ?_ _)); refine blk_put (cs := #[.slice Ao14 x211000_1.length co14, .bool x211001_1, .int .i64 x211002_1, .slice Ao15 x211003_1.length co15]) ?_ 0 _ rfl; (with_reducible repeat (first | refine blk_drewN ?_ _ | refine blk_drew ?_ | refine blk_alloc ?_ _)); refine blk_far ?_ NB210_222.out _; (with_reducible repeat (first | refine blk_drewN ?_ _ | refine blk_drew ?_ | refine blk_alloc ?_ _)); refine blk_far ?_ NB210_222.out _; (with_reducible repeat (first | refine blk_drewN ?_ _ | refine blk_drew ?_ | refine blk_alloc ?_ _)); refine blk_far ?_ NB210_222.out _; (with_reducible repeat (first | refine blk_drewN ?_ _ | refine blk_drew ?_ | refine blk_alloc ?_ _)); refine blk_far ?_ NB210_222.out _; (with_reducible repeat (first | refine blk_drewN ?_ _ | refine blk_drew ?_ | refine blk_alloc ?_ _)); exact BK210.out⟩, ⟨bb HB⟩⟩
                · rw [if_neg c13] at H
                  have c13b0 : (t221 == 0) = false := beq_eq_false_iff_ne.mpr c13
                  have c13b1 : (t221 != 0) = true := bne_iff_ne.mpr c13
                  have H' := Aside0.mk H
                  clear H
                  obtain ⟨Ao29, co29, eo29⟩ := Kd.V_slice HO_211000.out
                  subst eo29
                  obtain ⟨Ao30, co30, eo30⟩ := Kd.V_slice HO_211003.out
                  subst eo30
                  try go_wp2
                  replace HO_211000 := Aside0.mk (Kd.V_drew HO_211000.out)
                  replace HO_211003 := Aside0.mk (Kd.V_drew HO_211003.out)
                  replace BK210 := Aside0.mk (blk_drew BK210.out)
                  replace HB := Aside0.mk (below_drew1 HB.out)
                  have p212 : 0 ≤ (x7_1 : Int) := of_decide_eq_true (by first | (with_reducible assumption) | assumption)
                  have q212 : x7_1 < (l0.length : Int) := of_decide_eq_true (by first | (with_reducible assumption) | assumption)
                  obtain ⟨ad212, A212_2, c212_2, e212, hx212_0, hx212_1, hx212_2, hl212_2, hi212_2⟩ := at_T29 HR0.out x7_1 p212 q212
                  have hw212_2 := hx212_2
                  have hw212_1 := hx212_1
                  have hw212_0 := hx212_0
                  obtain rfl : ad211 = ad212 := (by injection e212)
                  replace hx212_0 := (HB.out.cell (World.block_lt_of_cell? w _ hx212_0)).trans hx212_0
                  replace hx212_1 := (HB.out.cell (World.block_lt_of_cell? w _ hx212_1)).trans hx212_1
                  replace hx212_2 := (HB.out.cell (World.block_lt_of_cell? w _ hx212_2)).trans hx212_2
                  have HR212_2 := Aside0.mk hi212_2
                  have HC212_2 := Aside0.mk hl212_2
                  clear hi212_2 hl212_2
                  replace p212 := eq_true p212
                  replace q212 := eq_true q212
                  refine start_ (n := 13) (S := fun w' => w'.cell? ⟨gb210, 0, none⟩ = some (.slice Ao29 x211000_1.length co29) ∧ w'.cell? ⟨gb210, 1, none⟩ = some (.bool x211001_1) ∧ w'.cell? ⟨gb210, 2, none⟩ = some (.int .i64 x211002_1) ∧ w'.cell? ⟨gb210, 3, none⟩ = some (.slice Ao30 x211003_1.length co30) ∧ w'.cell? (ad211.add ((x7_1).toNat * 3)) = some (.int .i64 ((rd_T29 l0 x7_1).f0)) ∧ w'.cell? ⟨(ad211.add ((x7_1).toNat * 3)).block, (ad211.add ((x7_1).toNat * 3)).off + 1, none⟩ = some (.int .i64 ((rd_T29 l0 x7_1).f1)) ∧ w'.cell? ⟨(ad211.add ((x7_1).toNat * 3)).block, (ad211.add ((x7_1).toNat * 3)).off + 2, none⟩ = some (.slice A212_2 ((rd_T29 l0 x7_1).f2).length c212_2)) (ds := []) #[false, false, false, false, false, false, false, false, false, false, false, false, false] (by kernel_rfl) rfl rfl ⟨cx BK210 0, cx BK210 1, cx BK210 2, cx BK210 3, ((HB.out.cell (World.block_lt_of_cell? w _ hw212_0)).trans hw212_0), ((HB.out.cell (World.block_lt_of_cell? w _ hw212_1)).trans hw212_1), ((HB.out.cell (World.block_lt_of_cell? w _ hw212_2)).trans hw212_2)⟩ (fun hHeld => ?_); refine with_tabW pentroughlaw19_WireGrants.tab11 pentroughlaw19_WireGrants.bits11 (fun HT_ HW_ => ?_)
                  generalize wr.drew = w31 at HO_211000 HO_211003 BK210 HB HR212_2 hx212_0 hx212_1 hx212_2 hHeld ⊢
                  refine pure_ (i := 1) (N := some 34) (v := ?_) (a' := ?_) #[false, true, false, false, false, false, false, false, false, false, false, false, false] rfl rfl (any_of HT_.out (by kernel_rfl)) (fun _ _ _ h => h) (Or.inl ⟨by rfl, ?_⟩) ?_ ?_
                  rotate_left
                  · intro w'
                    go_simp
                    with_reducible rfl
                  rotate_left
                  · simp only [Act.put, List.setIfInBounds_toArray, List.set_cons_zero, List.set_cons_succ, i64_w, i32_w]
                    rfl
                  refine pure_ (i := 2) (N := some 35) (v := ?_) (a' := ?_) #[false, true, true, false, false, false, false, false, false, false, false, false, false] rfl rfl (any_of HT_.out (by kernel_rfl)) (fun _ _ _ h => h) (Or.inl ⟨by rfl, ?_⟩) ?_ ?_
                  rotate_left
                  · intro w'
                    go_simp
                    with_reducible rfl
                  rotate_left
                  · simp only [Act.put, List.setIfInBounds_toArray, List.set_cons_zero, List.set_cons_succ, i64_w, i32_w]
                    rfl
                  refine pure_ (i := 3) (N := some 36) (v := ?_) (a' := ?_) #[false, true, true, true, false, false, false, false, false, false, false, false, false] rfl rfl (any_of HT_.out (by kernel_rfl)) (fun _ _ _ h => h) (Or.inl ⟨by rfl, ?_⟩) ?_ ?_
                  rotate_left
                  · intro w'
                    go_simp
                    with_reducible rfl
                  rotate_left
                  · simp only [Act.put, List.setIfInBounds_toArray, List.set_cons_zero, List.set_cons_succ, i64_w, i32_w]
                    rfl
                  refine pure_ (i := 4) (N := some 37) (v := ?_) (a' := ?_) #[false, true, true, true, true, false, false, false, false, false, false, false, false] rfl rfl (any_of HT_.out (by kernel_rfl)) (fun _ _ _ h => h) (Or.inl ⟨by rfl, ?_⟩) ?_ ?_
                  rotate_left
                  · intro w'
                    go_simp
                    with_reducible rfl
                  rotate_left
                  · simp only [Act.put, List.setIfInBounds_toArray, List.set_cons_zero, List.set_cons_succ, i64_w, i32_w]
                    rfl
                  refine take_ (i := 0) (N := some 33) (v := ?_) (a' := ?_) #[true, true, true, true, true, false, false, false, false, false, false, false, false] rfl rfl (take_ofW HT_.out HW_.out (by kernel_rfl)) (fun _ _ _ h => h) (Or.inl ⟨by rfl, ?_⟩) hHeld ?_ ?_
                  rotate_left
                  · rintro w' ⟨s0, s1, s2, s3, s4, s5, s6⟩
                    go_simp
                    with_reducible rfl
                  rotate_left
                  · simp only [Act.put, List.setIfInBounds_toArray, List.set_cons_zero, List.set_cons_succ, i64_w, i32_w]
                    rfl
                  refine take_ (i := 5) (N := some 38) (v := ?_) (a' := ?_) #[true, true, true, true, true, true, false, false, false, false, false, false, false] rfl rfl (take_ofW HT_.out HW_.out (by kernel_rfl)) (fun _ _ _ h => h) (Or.inl ⟨by rfl, ?_⟩) hHeld ?_ ?_
                  rotate_left
                  · rintro w' ⟨s0, s1, s2, s3, s4, s5, s6⟩
                    go_simp
                    with_reducible rfl
                  rotate_left
                  · simp only [Act.put, List.setIfInBounds_toArray, List.set_cons_zero, List.set_cons_succ, i64_w, i32_w]
                    rfl
                  refine join_ (σ := Value × Value × Nat) 2 #[true, true, true, true, true, true, true, true, true, true, true, false, false] (fun s_ => [(39, .tuple #[.agg #[s_.1, .bool t216, .int .i64 t217, s_.2.1], .int .i64 t221]), (8, .pointer (some ⟨s_.2.2, 0, none⟩)), (32, .tuple #[.agg #[s_.1, .bool t216, .int .i64 t217, s_.2.1], .int .i64 t221]), (40, .agg #[s_.1, .bool t216, .int .i64 t217, s_.2.1]), (41, .int .i64 t221)]) (fun s_ w' => (w'.cell? ⟨gb210, 0, none⟩ = some (.slice Ao29 x211000_1.length co29) ∧ w'.cell? ⟨gb210, 1, none⟩ = some (.bool x211001_1) ∧ w'.cell? ⟨gb210, 2, none⟩ = some (.int .i64 x211002_1) ∧ w'.cell? ⟨gb210, 3, none⟩ = some (.slice Ao30 x211003_1.length co30) ∧ w'.cell? (ad211.add ((x7_1).toNat * 3)) = some (.int .i64 ((rd_T29 l0 x7_1).f0)) ∧ w'.cell? ⟨(ad211.add ((x7_1).toNat * 3)).block, (ad211.add ((x7_1).toNat * 3)).off + 1, none⟩ = some (.int .i64 ((rd_T29 l0 x7_1).f1)) ∧ w'.cell? ⟨(ad211.add ((x7_1).toNat * 3)).block, (ad211.add ((x7_1).toNat * 3)).off + 2, none⟩ = some (.slice A212_2 ((rd_T29 l0 x7_1).f2).length c212_2)) ∧ (Kd.V (Kd.int .u8) 5 w' w.heap.size (fun k_ => k_ ≠ gb210 ∧ k_ ≠ s_.2.2) s_.1 t213) ∧ (Kd.V (Kd.int .u8) 5 w' w.heap.size (fun k_ => k_ ≠ gb210 ∧ k_ ≠ s_.2.2) s_.2.1 t218) ∧ (Kd.V (Kd.int .u8) 5 w' w.heap.size (fun k_ => k_ ≠ gb210 ∧ k_ ≠ s_.2.2) (.slice Ao29 x211000_1.length co29) x211000_1) ∧ (Kd.V (Kd.int .u8) 5 w' w.heap.size (fun k_ => k_ ≠ gb210 ∧ k_ ≠ s_.2.2) (.slice Ao30 x211003_1.length co30) x211003_1) ∧ (w'.heap[gb210]? = some (.cells #[.slice Ao29 x211000_1.length co29, .bool x211001_1, .int .i64 x211002_1, .slice Ao30 x211003_1.length co30] 27 (0, 0))) ∧ (w'.heap[s_.2.2]? = some (.cells #[.slice none 0 0, .bool false, .int .i64 0, .slice none 0 0] 27 (0, 0))) ∧ (w.heap.size ≤ s_.2.2) ∧ (w.heap.size ≤ s_.2.2) ∧ (gb210 ≠ s_.2.2) ∧ (s_.2.2 ≠ gb210) ∧ (Below w.heap.size w w')) ?_ ?_
                  rotate_left
                  · intro hCont
                    refine two_ (i := 6) (j := 10) (Ni := some 39) (Nj := some 8) #[true, true, true, true, true, true, true, false, false, false, false, false, false] #[true, true, true, true, true, true, false, false, false, false, true, false, false] rfl rfl rfl rfl (two_of HT_.out (by kernel_rfl)) (by decide) (by decide) (fun K hK => ?_) (fun K hK => ?_)
                    · skip
                      refine gs Try.func11 (by kernel_rfl) rfl #[.agg #[.slice Ao29 x211000_1.length co29, .bool x211001_1, .int .i64 x211002_1, .slice Ao30 x211003_1.length co30], .int .i64 ((rd_T29 l0 x7_1).f1)] (by rfl) rfl rfl ?_
                      with_reducible refine (wire_Grant.calls (fun k_ => k_ ≠ gb210) _ _ x211000_1 x211001_1 x211002_1 (fun k_ => k_ ≠ gb210) _ _ x211003_1 ((rd_T29 l0 x7_1).f1) t213 t216 t217 t218 t221 _ ?side1 ?side2 A12.out).mono ?_
                      (case side1 => exact HO_211000.out)
                      (case side2 => exact HO_211003.out)
                      rintro e w32 ⟨v214, v219, rfl, ho0, ho1, hb⟩
                      refine ⟨_, rfl, ?_⟩
                      replace HO_211000 := vB HO_211000 hb
                      replace HO_211003 := vB HO_211003 hb
                      have HO215 := Aside0.mk (Kd.V_lower (Kd.V_mono (ok' := fun k_ => k_ ≠ gb210) ho0 (fun k_ hk_ => oe hk_ (fun h => h) (fun h => h) (Kd.freshB (kk BK210) k_))) (below_size (bb HB)))
                      have HO220 := Aside0.mk (Kd.V_lower (Kd.V_mono (ok' := fun k_ => k_ ≠ gb210) ho1 (fun k_ hk_ => oe hk_ (fun h => h) (fun h => h) (Kd.freshB (kk BK210) k_))) (below_size (bb HB)))
                      replace BK210 := kB BK210 hb
                      replace HB := hB HB hb
                      (try clear hb)
                      (try clear hb2)
                      (try clear hk)
                      (try clear hi)
                      (try clear ho0)
                      (try clear ho1)
                      refine hK.out _ _ ⟨cx BK210 0, cx BK210 1, cx BK210 2, cx BK210 3, ((HB.out.cell (World.block_lt_of_cell? w _ hw212_0)).trans hw212_0), ((HB.out.cell (World.block_lt_of_cell? w _ hw212_1)).trans hw212_1), ((HB.out.cell (World.block_lt_of_cell? w _ hw212_2)).trans hw212_2)⟩ (fun hHeld => ?_)
                      clear hK K
                      refine norm_ (a' := ?_) ?_ ?_
                      rotate_left
                      · show Act.put _ (some 39) _ = _
                        simp only [Act.put, List.setIfInBounds_toArray, List.set_cons_zero, List.set_cons_succ, i64_w, i32_w]
                        rfl
                      refine pure_ (i := 7) (N := some 32) (v := ?_) (a' := ?_) #[true, true, true, true, true, true, true, true, false, false, false, false, false] rfl rfl (any_of HT_.out (by kernel_rfl)) (fun _ _ _ h => h) (Or.inl ⟨by rfl, ?_⟩) ?_ ?_
                      rotate_left
                      · intro w'
                        go_simp
                        with_reducible rfl
                      rotate_left
                      · simp only [Act.put, List.setIfInBounds_toArray, List.set_cons_zero, List.set_cons_succ, i64_w, i32_w]
                        rfl
                      refine pure_ (i := 8) (N := some 40) (v := ?_) (a' := ?_) #[true, true, true, true, true, true, true, true, true, false, false, false, false] rfl rfl (any_of HT_.out (by kernel_rfl)) (fun _ _ _ h => h) (Or.inl ⟨by rfl, ?_⟩) ?_ ?_
                      rotate_left
                      · intro w'
                        go_simp
                        with_reducible rfl
                      rotate_left
                      · simp only [Act.put, List.setIfInBounds_toArray, List.set_cons_zero, List.set_cons_succ, i64_w, i32_w]
                        rfl
                      refine pure_ (i := 9) (N := some 41) (v := ?_) (a' := ?_) #[true, true, true, true, true, true, true, true, true, true, false, false, false] rfl rfl (any_of HT_.out (by kernel_rfl)) (fun _ _ _ h => h) (Or.inl ⟨by rfl, ?_⟩) ?_ ?_
                      rotate_left
                      · intro w'
                        go_simp
                        with_reducible rfl
                      rotate_left
                      · simp only [Act.put, List.setIfInBounds_toArray, List.set_cons_zero, List.set_cons_succ, i64_w, i32_w]
                        rfl
                      refine one_ (i := 10) (N := some 8) #[true, true, true, true, true, true, true, true, true, true, true, false, false] rfl rfl (one_of HT_.out (by kernel_rfl)) (by decide) (fun K hK => ?_)
                      refine box_step ?hg (N := 8) ?hd (cs := #[.slice none 0 0, .bool false, .int .i64 0, .slice none 0 0]) (t := 27) ?hr ?_; (case hd => rfl); (case hg => rfl); (case hr => first | (go_simp; done) | (go_simp; rfl))
                      intro gb222 hg w33 hbox hb
                      replace HO_211000 := vE HO_211000 hg hb
                      replace HO_211003 := vE HO_211003 hg hb
                      replace HO215 := vE HO215 hg hb
                      replace HO220 := vE HO220 hg hb
                      have BK222 := Aside0.mk hbox
                      have GW222 := gE HB hg
                      have GE222 := gE HB hg
                      replace HB := hB HB hb
                      have NB210_222 := nL BK210 hg
                      have NB222_210 := nG BK210 hg
                      replace BK210 := kB BK210 hb
                      clear hb hbox hg
                      refine hK.out _ _ ⟨cx BK210 0, cx BK210 1, cx BK210 2, cx BK210 3, ((HB.out.cell (World.block_lt_of_cell? w _ hw212_0)).trans hw212_0), ((HB.out.cell (World.block_lt_of_cell? w _ hw212_1)).trans hw212_1), ((HB.out.cell (World.block_lt_of_cell? w _ hw212_2)).trans hw212_2)⟩ (fun hHeld => ?_)
                      clear hK K
                      refine norm_ (a' := ?_) ?_ ?_
                      rotate_left
                      · show Act.put _ (some 8) _ = _
                        simp only [Act.put, List.setIfInBounds_toArray, List.set_cons_zero, List.set_cons_succ, i64_w, i32_w]
                        rfl
                      exact norm_ (by simp only [putAll, Act.put, List.setIfInBounds_toArray, List.set_cons_zero, List.set_cons_succ]) (hCont (v214, v219, gb222) _ ⟨hHeld, (vM HO215), (vM HO220), (vM HO_211000), (vM HO_211003), (kk BK210), (kk BK222), GW222.out, GE222.out, NB210_222.out, NB222_210.out, (bb HB)⟩)
                    · skip
                      refine box_step ?hg (N := 8) ?hd (cs := #[.slice none 0 0, .bool false, .int .i64 0, .slice none 0 0]) (t := 27) ?hr ?_; (case hd => rfl); (case hg => rfl); (case hr => first | (go_simp; done) | (go_simp; rfl))
                      intro gb222 hg w32 hbox hb
                      replace HO_211000 := vE HO_211000 hg hb
                      replace HO_211003 := vE HO_211003 hg hb
                      have BK222 := Aside0.mk hbox
                      have GW222 := gE HB hg
                      have GE222 := gE HB hg
                      replace HB := hB HB hb
                      have NB210_222 := nL BK210 hg
                      have NB222_210 := nG BK210 hg
                      replace BK210 := kB BK210 hb
                      clear hb hbox hg
                      refine hK.out _ _ ⟨cx BK210 0, cx BK210 1, cx BK210 2, cx BK210 3, ((HB.out.cell (World.block_lt_of_cell? w _ hw212_0)).trans hw212_0), ((HB.out.cell (World.block_lt_of_cell? w _ hw212_1)).trans hw212_1), ((HB.out.cell (World.block_lt_of_cell? w _ hw212_2)).trans hw212_2)⟩ (fun hHeld => ?_)
                      clear hK K
                      refine norm_ (a' := ?_) ?_ ?_
                      rotate_left
                      · show Act.put _ (some 8) _ = _
                        simp only [Act.put, List.setIfInBounds_toArray, List.set_cons_zero, List.set_cons_succ, i64_w, i32_w]
                        rfl
                      refine one_ (i := 6) (N := some 39) #[true, true, true, true, true, true, true, false, false, false, true, false, false] rfl rfl (one_of HT_.out (by kernel_rfl)) (by decide) (fun K hK => ?_)
                      refine gs Try.func11 (by kernel_rfl) rfl #[.agg #[.slice Ao29 x211000_1.length co29, .bool x211001_1, .int .i64 x211002_1, .slice Ao30 x211003_1.length co30], .int .i64 ((rd_T29 l0 x7_1).f1)] (by rfl) rfl rfl ?_
                      with_reducible refine (wire_Grant.calls (fun k_ => (k_ ≠ gb210 ∧ k_ ≠ gb222)) _ _ x211000_1 x211001_1 x211002_1 (fun k_ => (k_ ≠ gb210 ∧ k_ ≠ gb222)) _ _ x211003_1 ((rd_T29 l0 x7_1).f1) t213 t216 t217 t218 t221 _ ?side1 ?side2 A12.out).mono ?_
                      (case side1 => exact HO_211000.out)
                      (case side2 => exact HO_211003.out)
                      rintro e w33 ⟨v214, v219, rfl, ho0, ho1, hb⟩
                      refine ⟨_, rfl, ?_⟩
                      replace HO_211000 := vB HO_211000 hb
                      replace HO_211003 := vB HO_211003 hb
                      have HO215 := Aside0.mk (Kd.V_lower (Kd.V_mono (ok' := fun k_ => k_ ≠ gb210 ∧ k_ ≠ gb222) ho0 (fun k_ hk_ => ⟨oe hk_ (fun h => h.1) (fun h => h.1) (Kd.freshB (kk BK210) k_), oe hk_ (fun h => h.2) (fun h => h.2) (Kd.freshB (kk BK222) k_)⟩)) (below_size (bb HB)))
                      have HO220 := Aside0.mk (Kd.V_lower (Kd.V_mono (ok' := fun k_ => k_ ≠ gb210 ∧ k_ ≠ gb222) ho1 (fun k_ hk_ => ⟨oe hk_ (fun h => h.1) (fun h => h.1) (Kd.freshB (kk BK210) k_), oe hk_ (fun h => h.2) (fun h => h.2) (Kd.freshB (kk BK222) k_)⟩)) (below_size (bb HB)))
                      replace BK210 := kB BK210 hb
                      replace BK222 := kB BK222 hb
                      replace HB := hB HB hb
                      (try clear hb)
                      (try clear hb2)
                      (try clear hk)
                      (try clear hi)
                      (try clear ho0)
                      (try clear ho1)
                      refine hK.out _ _ ⟨cx BK210 0, cx BK210 1, cx BK210 2, cx BK210 3, ((HB.out.cell (World.block_lt_of_cell? w _ hw212_0)).trans hw212_0), ((HB.out.cell (World.block_lt_of_cell? w _ hw212_1)).trans hw212_1), ((HB.out.cell (World.block_lt_of_cell? w _ hw212_2)).trans hw212_2)⟩ (fun hHeld => ?_)
                      clear hK K
                      refine norm_ (a' := ?_) ?_ ?_
                      rotate_left
                      · show Act.put _ (some 39) _ = _
                        simp only [Act.put, List.setIfInBounds_toArray, List.set_cons_zero, List.set_cons_succ, i64_w, i32_w]
                        rfl
                      refine pure_ (i := 7) (N := some 32) (v := ?_) (a' := ?_) #[true, true, true, true, true, true, true, true, false, false, true, false, false] rfl rfl (any_of HT_.out (by kernel_rfl)) (fun _ _ _ h => h) (Or.inl ⟨by rfl, ?_⟩) ?_ ?_
                      rotate_left
                      · intro w'
                        go_simp
                        with_reducible rfl
                      rotate_left
                      · simp only [Act.put, List.setIfInBounds_toArray, List.set_cons_zero, List.set_cons_succ, i64_w, i32_w]
                        rfl
                      refine pure_ (i := 8) (N := some 40) (v := ?_) (a' := ?_) #[true, true, true, true, true, true, true, true, true, false, true, false, false] rfl rfl (any_of HT_.out (by kernel_rfl)) (fun _ _ _ h => h) (Or.inl ⟨by rfl, ?_⟩) ?_ ?_
                      rotate_left
                      · intro w'
                        go_simp
                        with_reducible rfl
                      rotate_left
                      · simp only [Act.put, List.setIfInBounds_toArray, List.set_cons_zero, List.set_cons_succ, i64_w, i32_w]
                        rfl
                      refine pure_ (i := 9) (N := some 41) (v := ?_) (a' := ?_) #[true, true, true, true, true, true, true, true, true, true, true, false, false] rfl rfl (any_of HT_.out (by kernel_rfl)) (fun _ _ _ h => h) (Or.inl ⟨by rfl, ?_⟩) ?_ ?_
                      rotate_left
                      · intro w'
                        go_simp
                        with_reducible rfl
                      rotate_left
                      · simp only [Act.put, List.setIfInBounds_toArray, List.set_cons_zero, List.set_cons_succ, i64_w, i32_w]
                        rfl
                      exact norm_ (by simp only [putAll, Act.put, List.setIfInBounds_toArray, List.set_cons_zero, List.set_cons_succ]) (hCont (v214, v219, gb222) _ ⟨hHeld, (vM HO215), (vM HO220), (vM HO_211000), (vM HO_211003), (kk BK210), (kk BK222), GW222.out, GE222.out, NB210_222.out, NB222_210.out, (bb HB)⟩)
                  clear HO_211000 HO_211003 BK210 HB
                  rintro ⟨v214, v219, gb222⟩ w34 hS_
                  dsimp only at hS_
                  obtain ⟨hHeld, h0_, h1_, h2_, h3_, h4_, h5_, h6_, h7_, h8_, h9_, h10_⟩ := hS_
                  have HO215 := Aside0.mk h0_
                  have HO220 := Aside0.mk h1_
                  have HO_211000 := Aside0.mk h2_
                  have HO_211003 := Aside0.mk h3_
                  have BK210 := Aside0.mk h4_
                  have BK222 := Aside0.mk h5_
                  have GW222 := Aside0.mk h6_
                  have GE222 := Aside0.mk h7_
                  have NB210_222 := Aside0.mk h8_
                  have NB222_210 := Aside0.mk h9_
                  have HB := Aside0.mk h10_
                  clear h0_ h1_ h2_ h3_ h4_ h5_ h6_ h7_ h8_ h9_ h10_
                  obtain ⟨Ao35, co35, eo35⟩ := Kd.V_slice HO215.out
                  (first | subst eo35 | (injection eo35 with f1_ f2_ f3_; have f4_ := f1_.symm; have f5_ := f3_.symm; clear f1_ f2_ f3_; subst f4_; subst f5_))
                  obtain ⟨Ao39, co39, eo39⟩ := Kd.V_slice HO220.out
                  (first | subst eo39 | (injection eo39 with f1_ f2_ f3_; have f4_ := f1_.symm; have f5_ := f3_.symm; clear f1_ f2_ f3_; subst f4_; subst f5_))
                  refine norm_ (a' := ?_) ?_ ?_
                  rotate_left
                  · simp only [putAll, Act.put, List.setIfInBounds_toArray, List.set_cons_zero, List.set_cons_succ]
                    rfl
                  refine one_ (i := 11) (N := none) #[true, true, true, true, true, true, true, true, true, true, true, true, false] rfl rfl (one_of HT_.out (by kernel_rfl)) (by decide) (fun K hK => ?_)
                  have hs36 : w34.cell? ⟨gb222, 0, none⟩ = some (.slice none 0 0) := cx BK222 0
                  have hfs36 := blk_frozen BK222.out 0
                  have hns36_0 := NB210_222.out
                  have hms36_0 := NB222_210.out
                  have hs37 : w34.cell? ⟨gb222, 1, none⟩ = some (.bool false) := cx BK222 1
                  have hfs37 := blk_frozen BK222.out 1
                  have hns37_0 := NB210_222.out
                  have hms37_0 := NB222_210.out
                  have hs38 : w34.cell? ⟨gb222, 2, none⟩ = some (.int .i64 0) := cx BK222 2
                  have hfs38 := blk_frozen BK222.out 2
                  have hns38_0 := NB210_222.out
                  have hms38_0 := NB222_210.out
                  have hs40 : w34.cell? ⟨gb222, 3, none⟩ = some (.slice none 0 0) := cx BK222 3
                  have hfs40 := blk_frozen BK222.out 3
                  have hns40_0 := NB210_222.out
                  have hms40_0 := NB222_210.out
                  refine skip_ (w1 := ?_) (by rfl) rfl ?_ ?_
                  rotate_left
                  · go_simp
                    rfl
                  refine hK.out _ _ ⟨((cell_far (p := ⟨gb222, _, none⟩) NB210_222.out _).trans (((cell_far (p := ⟨gb222, _, none⟩) NB210_222.out _).trans (((cell_far (p := ⟨gb222, _, none⟩) NB210_222.out _).trans (((cell_far (p := ⟨gb222, _, none⟩) NB210_222.out _).trans (hHeld.1)))))))), ((cell_far (p := ⟨gb222, _, none⟩) NB210_222.out _).trans (((cell_far (p := ⟨gb222, _, none⟩) NB210_222.out _).trans (((cell_far (p := ⟨gb222, _, none⟩) NB210_222.out _).trans (((cell_far (p := ⟨gb222, _, none⟩) NB210_222.out _).trans (hHeld.2.1)))))))), ((cell_far (p := ⟨gb222, _, none⟩) NB210_222.out _).trans (((cell_far (p := ⟨gb222, _, none⟩) NB210_222.out _).trans (((cell_far (p := ⟨gb222, _, none⟩) NB210_222.out _).trans (((cell_far (p := ⟨gb222, _, none⟩) NB210_222.out _).trans (hHeld.2.2.1)))))))), ((cell_far (p := ⟨gb222, _, none⟩) NB210_222.out _).trans (((cell_far (p := ⟨gb222, _, none⟩) NB210_222.out _).trans (((cell_far (p := ⟨gb222, _, none⟩) NB210_222.out _).trans (((cell_far (p := ⟨gb222, _, none⟩) NB210_222.out _).trans (hHeld.2.2.2.1)))))))), ((cell_far (p := ⟨gb222, _, none⟩) (by first | exact Nat.ne_of_lt (Nat.lt_of_lt_of_le (by have := World.block_lt_of_cell? _ _ hw212_0; first | rwa [add_block] at this | exact this) GW222.out) | (rw [add_block]; exact Nat.ne_of_lt (Nat.lt_of_lt_of_le (by have := World.block_lt_of_cell? _ _ hw212_0; first | rwa [add_block] at this | exact this) GW222.out)) | (show (Addr.add _ _).block ≠ _; rw [add_block]; exact Nat.ne_of_lt (Nat.lt_of_lt_of_le (by have := World.block_lt_of_cell? _ _ hw212_0; first | rwa [add_block] at this | exact this) GW222.out)) | (dsimp only; exact Nat.ne_of_lt (Nat.lt_of_lt_of_le (by have := World.block_lt_of_cell? _ _ hw212_0; first | rwa [add_block] at this | exact this) GW222.out))) _).trans (((cell_far (p := ⟨gb222, _, none⟩) (by first | exact Nat.ne_of_lt (Nat.lt_of_lt_of_le (by have := World.block_lt_of_cell? _ _ hw212_0; first | rwa [add_block] at this | exact this) GW222.out) | (rw [add_block]; exact Nat.ne_of_lt (Nat.lt_of_lt_of_le (by have := World.block_lt_of_cell? _ _ hw212_0; first | rwa [add_block] at this | exact this) GW222.out)) | (show (Addr.add _ _).block ≠ _; rw [add_block]; exact Nat.ne_of_lt (Nat.lt_of_lt_of_le (by have := World.block_lt_of_cell? _ _ hw212_0; first | rwa [add_block] at this | exact this) GW222.out)) | (dsimp only; exact Nat.ne_of_lt (Nat.lt_of_lt_of_le (by have := World.block_lt_of_cell? _ _ hw212_0; first | rwa [add_block] at this | exact this) GW222.out))) _).trans (((cell_far (p := ⟨gb222, _, none⟩) (by first | exact Nat.ne_of_lt (Nat.lt_of_lt_of_le (by have := World.block_lt_of_cell? _ _ hw212_0; first | rwa [add_block] at this | exact this) GW222.out) | (rw [add_block]; exact Nat.ne_of_lt (Nat.lt_of_lt_of_le (by have := World.block_lt_of_cell? _ _ hw212_0; first | rwa [add_block] at this | exact this) GW222.out)) | (show (Addr.add _ _).block ≠ _; rw [add_block]; exact Nat.ne_of_lt (Nat.lt_of_lt_of_le (by have := World.block_lt_of_cell? _ _ hw212_0; first | rwa [add_block] at this | exact this) GW222.out)) | (dsimp only; exact Nat.ne_of_lt (Nat.lt_of_lt_of_le (by have := World.block_lt_of_cell? _ _ hw212_0; first | rwa [add_block] at this | exact this) GW222.out))) _).trans (((cell_far (p := ⟨gb222, _, none⟩) (by first | exact Nat.ne_of_lt (Nat.lt_of_lt_of_le (by have := World.block_lt_of_cell? _ _ hw212_0; first | rwa [add_block] at this | exact this) GW222.out) | (rw [add_block]; exact Nat.ne_of_lt (Nat.lt_of_lt_of_le (by have := World.block_lt_of_cell? _ _ hw212_0; first | rwa [add_block] at this | exact this) GW222.out)) | (show (Addr.add _ _).block ≠ _; rw [add_block]; exact Nat.ne_of_lt (Nat.lt_of_lt_of_le (by have := World.block_lt_of_cell? _ _ hw212_0; first | rwa [add_block] at this | exact this) GW222.out)) | (dsimp only; exact Nat.ne_of_lt (Nat.lt_of_lt_of_le (by have := World.block_lt_of_cell? _ _ hw212_0; first | rwa [add_block] at this | exact this) GW222.out))) _).trans (hHeld.2.2.2.2.1)))))))), ((cell_far (p := ⟨gb222, _, none⟩) (by first | exact Nat.ne_of_lt (Nat.lt_of_lt_of_le (by have := World.block_lt_of_cell? _ _ hw212_1; first | rwa [add_block] at this | exact this) GW222.out) | (rw [add_block]; exact Nat.ne_of_lt (Nat.lt_of_lt_of_le (by have := World.block_lt_of_cell? _ _ hw212_1; first | rwa [add_block] at this | exact this) GW222.out)) | (show (Addr.add _ _).block ≠ _; rw [add_block]; exact Nat.ne_of_lt (Nat.lt_of_lt_of_le (by have := World.block_lt_of_cell? _ _ hw212_1; first | rwa [add_block] at this | exact this) GW222.out)) | (dsimp only; exact Nat.ne_of_lt (Nat.lt_of_lt_of_le (by have := World.block_lt_of_cell? _ _ hw212_1; first | rwa [add_block] at this | exact this) GW222.out))) _).trans (((cell_far (p := ⟨gb222, _, none⟩) (by first | exact Nat.ne_of_lt (Nat.lt_of_lt_of_le (by have := World.block_lt_of_cell? _ _ hw212_1; first | rwa [add_block] at this | exact this) GW222.out) | (rw [add_block]; exact Nat.ne_of_lt (Nat.lt_of_lt_of_le (by have := World.block_lt_of_cell? _ _ hw212_1; first | rwa [add_block] at this | exact this) GW222.out)) | (show (Addr.add _ _).block ≠ _; rw [add_block]; exact Nat.ne_of_lt (Nat.lt_of_lt_of_le (by have := World.block_lt_of_cell? _ _ hw212_1; first | rwa [add_block] at this | exact this) GW222.out)) | (dsimp only; exact Nat.ne_of_lt (Nat.lt_of_lt_of_le (by have := World.block_lt_of_cell? _ _ hw212_1; first | rwa [add_block] at this | exact this) GW222.out))) _).trans (((cell_far (p := ⟨gb222, _, none⟩) (by first | exact Nat.ne_of_lt (Nat.lt_of_lt_of_le (by have := World.block_lt_of_cell? _ _ hw212_1; first | rwa [add_block] at this | exact this) GW222.out) | (rw [add_block]; exact Nat.ne_of_lt (Nat.lt_of_lt_of_le (by have := World.block_lt_of_cell? _ _ hw212_1; first | rwa [add_block] at this | exact this) GW222.out)) | (show (Addr.add _ _).block ≠ _; rw [add_block]; exact Nat.ne_of_lt (Nat.lt_of_lt_of_le (by have := World.block_lt_of_cell? _ _ hw212_1; first | rwa [add_block] at this | exact this) GW222.out)) | (dsimp only; exact Nat.ne_of_lt (Nat.lt_of_lt_of_le (by have := World.block_lt_of_cell? _ _ hw212_1; first | rwa [add_block] at this | exact this) GW222.out))) _).trans (((cell_far (p := ⟨gb222, _, none⟩) (by first | exact Nat.ne_of_lt (Nat.lt_of_lt_of_le (by have := World.block_lt_of_cell? _ _ hw212_1; first | rwa [add_block] at this | exact this) GW222.out) | (rw [add_block]; exact Nat.ne_of_lt (Nat.lt_of_lt_of_le (by have := World.block_lt_of_cell? _ _ hw212_1; first | rwa [add_block] at this | exact this) GW222.out)) | (show (Addr.add _ _).block ≠ _; rw [add_block]; exact Nat.ne_of_lt (Nat.lt_of_lt_of_le (by have := World.block_lt_of_cell? _ _ hw212_1; first | rwa [add_block] at this | exact this) GW222.out)) | (dsimp only; exact Nat.ne_of_lt (Nat.lt_of_lt_of_le (by have := World.block_lt_of_cell? _ _ hw212_1; first | rwa [add_block] at this | exact this) GW222.out))) _).trans (hHeld.2.2.2.2.2.1)))))))), ((cell_far (p := ⟨gb222, _, none⟩) (by first | exact Nat.ne_of_lt (Nat.lt_of_lt_of_le (by have := World.block_lt_of_cell? _ _ hw212_2; first | rwa [add_block] at this | exact this) GW222.out) | (rw [add_block]; exact Nat.ne_of_lt (Nat.lt_of_lt_of_le (by have := World.block_lt_of_cell? _ _ hw212_2; first | rwa [add_block] at this | exact this) GW222.out)) | (show (Addr.add _ _).block ≠ _; rw [add_block]; exact Nat.ne_of_lt (Nat.lt_of_lt_of_le (by have := World.block_lt_of_cell? _ _ hw212_2; first | rwa [add_block] at this | exact this) GW222.out)) | (dsimp only; exact Nat.ne_of_lt (Nat.lt_of_lt_of_le (by have := World.block_lt_of_cell? _ _ hw212_2; first | rwa [add_block] at this | exact this) GW222.out))) _).trans (((cell_far (p := ⟨gb222, _, none⟩) (by first | exact Nat.ne_of_lt (Nat.lt_of_lt_of_le (by have := World.block_lt_of_cell? _ _ hw212_2; first | rwa [add_block] at this | exact this) GW222.out) | (rw [add_block]; exact Nat.ne_of_lt (Nat.lt_of_lt_of_le (by have := World.block_lt_of_cell? _ _ hw212_2; first | rwa [add_block] at this | exact this) GW222.out)) | (show (Addr.add _ _).block ≠ _; rw [add_block]; exact Nat.ne_of_lt (Nat.lt_of_lt_of_le (by have := World.block_lt_of_cell? _ _ hw212_2; first | rwa [add_block] at this | exact this) GW222.out)) | (dsimp only; exact Nat.ne_of_lt (Nat.lt_of_lt_of_le (by have := World.block_lt_of_cell? _ _ hw212_2; first | rwa [add_block] at this | exact this) GW222.out))) _).trans (((cell_far (p := ⟨gb222, _, none⟩) (by first | exact Nat.ne_of_lt (Nat.lt_of_lt_of_le (by have := World.block_lt_of_cell? _ _ hw212_2; first | rwa [add_block] at this | exact this) GW222.out) | (rw [add_block]; exact Nat.ne_of_lt (Nat.lt_of_lt_of_le (by have := World.block_lt_of_cell? _ _ hw212_2; first | rwa [add_block] at this | exact this) GW222.out)) | (show (Addr.add _ _).block ≠ _; rw [add_block]; exact Nat.ne_of_lt (Nat.lt_of_lt_of_le (by have := World.block_lt_of_cell? _ _ hw212_2; first | rwa [add_block] at this | exact this) GW222.out)) | (dsimp only; exact Nat.ne_of_lt (Nat.lt_of_lt_of_le (by have := World.block_lt_of_cell? _ _ hw212_2; first | rwa [add_block] at this | exact this) GW222.out))) _).trans (((cell_far (p := ⟨gb222, _, none⟩) (by first | exact Nat.ne_of_lt (Nat.lt_of_lt_of_le (by have := World.block_lt_of_cell? _ _ hw212_2; first | rwa [add_block] at this | exact this) GW222.out) | (rw [add_block]; exact Nat.ne_of_lt (Nat.lt_of_lt_of_le (by have := World.block_lt_of_cell? _ _ hw212_2; first | rwa [add_block] at this | exact this) GW222.out)) | (show (Addr.add _ _).block ≠ _; rw [add_block]; exact Nat.ne_of_lt (Nat.lt_of_lt_of_le (by have := World.block_lt_of_cell? _ _ hw212_2; first | rwa [add_block] at this | exact this) GW222.out)) | (dsimp only; exact Nat.ne_of_lt (Nat.lt_of_lt_of_le (by have := World.block_lt_of_cell? _ _ hw212_2; first | rwa [add_block] at this | exact this) GW222.out))) _).trans (hHeld.2.2.2.2.2.2))))))))⟩ (fun hHeld => ?_)
                  clear hK K
                  refine pure_ (i := 12) (N := some 9) (v := ?_) (a' := ?_) #[true, true, true, true, true, true, true, true, true, true, true, true, true] rfl rfl (any_of HT_.out (by kernel_rfl)) (fun _ _ _ h => h) (Or.inl ⟨by rfl, ?_⟩) ?_ ?_
                  rotate_left
                  · intro w'
                    go_simp
                    with_reducible rfl
                  rotate_left
                  · simp only [Act.put, List.setIfInBounds_toArray, List.set_cons_zero, List.set_cons_succ, i64_w, i32_w]
                    rfl
                  refine done_ (done_of HT_.out (by kernel_rfl)) ?_
                  have hnb41 := NB222_210.out
                  have hnc41 := NB210_222.out
                  obtain ⟨hcz42_0, hcz42_1, hcz42_2, hcz42_3, hfz42_0, hfz42_1, hfz42_2, hfz42_3⟩ := bc4 BK222
                  obtain ⟨hcz43_0, hcz43_1, hcz43_2, hcz43_3, hfz43_0, hfz43_1, hfz43_2, hfz43_3⟩ := bc4 BK210
                  try go_wp2
                  go_meet
                  case rel => exact ⟨_, (x5_1), (t213), (t216), (t217), (t218), (.slice Ao35 t213.length co35), (.slice Ao39 t218.length co39), (by first | rfl | (simp; done) | (simp [*]; done)), H', ⟨by have := HK1.out; first | omega | exact Nat.le_refl _⟩, ⟨by (with_reducible repeat (first | apply Kd.V_alloc | apply Kd.V_drewN | apply Kd.V_drew)); exact Kd.V_mono (Kd.V_far (p := ⟨gb210, 3, none⟩) (Kd.V_far (p := ⟨gb210, 2, none⟩) (Kd.V_far (p := ⟨gb210, 1, none⟩) (Kd.V_far (p := ⟨gb210, 0, none⟩) (Kd.V_far (p := ⟨gb222, 3, none⟩) (Kd.V_far (p := ⟨gb222, 2, none⟩) (Kd.V_far (p := ⟨gb222, 1, none⟩) (Kd.V_far (p := ⟨gb222, 0, none⟩) (Kd.V_mono (Kd.V_mono HO215.out (fun k_ hk => (⟨hk, hk.2⟩ : _ ∧ k_ ≠ gb222))) (fun k_ hk => (⟨hk, hk.1.1⟩ : _ ∧ k_ ≠ gb210))) (fun _ hk => hk.1.2) (.slice Ao35 t213.length co35)) (fun _ hk => hk.1.2) (.bool t216)) (fun _ hk => hk.1.2) (.int .i64 t217)) (fun _ hk => hk.1.2) (.slice Ao39 t218.length co39)) (fun _ hk => hk.2) (.slice Ao35 t213.length co35)) (fun _ hk => hk.2) (.bool t216)) (fun _ hk => hk.2) (.int .i64 t217)) (fun _ hk => hk.2) (.slice Ao39 t218.length co39)) (fun _ hk => hk.1.1.1)⟩, ⟨by (with_reducible repeat (first | apply Kd.V_alloc | apply Kd.V_drewN | apply Kd.V_drew)); exact Kd.V_mono (Kd.V_far (p := ⟨gb210, 3, none⟩) (Kd.V_far (p := ⟨gb210, 2, none⟩) (Kd.V_far (p := ⟨gb210, 1, none⟩) (Kd.V_far (p := ⟨gb210, 0, none⟩) (Kd.V_far (p := ⟨gb222, 3, none⟩) (Kd.V_far (p := ⟨gb222, 2, none⟩) (Kd.V_far (p := ⟨gb222, 1, none⟩) (Kd.V_far (p := ⟨gb222, 0, none⟩) (Kd.V_mono (Kd.V_mono HO220.out (fun k_ hk => (⟨hk, hk.2⟩ : _ ∧ k_ ≠ gb222))) (fun k_ hk => (⟨hk, hk.1.1⟩ : _ ∧ k_ ≠ gb210))) (fun _ hk => hk.1.2) (.slice Ao35 t213.length co35)) (fun _ hk => hk.1.2) (.bool t216)) (fun _ hk => hk.1.2) (.int .i64 t217)) (fun _ hk => hk.1.2) (.slice Ao39 t218.length co39)) (fun _ hk => hk.2) (.slice Ao35 t213.length co35)) (fun _ hk => hk.2) (.bool t216)) (fun _ hk => hk.2) (.int .i64 t217)) (fun _ hk => hk.2) (.slice Ao39 t218.length co39)) (fun _ hk => hk.1.1.1)⟩, ⟨by (with_reducible repeat (first | refine blk_drewN ?_ _ | refine blk_drew ?_ | refine blk_alloc ?_ _)); refine blk_put (cs := #[.slice Ao35 t213.length co35, .bool t216, .int .i64 t217, .slice Ao30 x211003_1.length co30]) ?_ 3 _ rfl; (with_reducible repeat (first | refine blk_drewN ?_ _ | refine blk_drew ?_ | refine blk_alloc ?_ _)); refine blk_put (cs := #[.slice Ao35 t213.length co35, .bool t216, .int .i64 x211002_1, .slice Ao30 x211003_1.length co30]) ?_ 2 _ rfl; (with_reducible repeat (first | refine blk_drewN ?_ _ | refine blk_drew ?_ | refine blk_alloc ?_ _)); refine blk_put (cs := #[.slice Ao35 t213.length co35, .bool x211001_1, .int .i64 x211002_1, .slice Ao30 x211003_1.length co30]) ?_ 1 _ rfl; (with_reducible repeat (first | refine blk_drewN ?_ _ | refine blk_drew ?_ | refine blk_alloc ?_ _)); refine blk_put (cs := #[.slice Ao29 x211000_1.length co29, .bool x211001_1, .int .i64 x211002_1, .slice Ao30 x211003_1.length co30]) ?_ 0 _ rfl; (with_reducible repeat (first | refine blk_drewN ?_ _ | refine blk_drew ?_ | refine blk_alloc ?_ _)); refine blk_far ?_ NB210_222.out _; (with_reducible repeat (first | refine blk_drewN ?_ _ | refine blk_drew ?_ | refine blk_alloc ?_ _)); refine blk_far ?_ NB210_222.out _; (with_reducible repeat (first | refine blk_drewN ?_ _ | refine blk_drew ?_ | refine blk_alloc ?_ _)); refine blk_far ?_ NB210_222.out _; (with_reducible repeat (first | refine blk_drewN ?_ _ | refine blk_drew ?_ | refine blk_alloc ?_ _)); refine blk_far ?_ NB210_222.out _; (with_reducible repeat (first | refine blk_drewN ?_ _ | refine blk_drew ?_ | refine blk_alloc ?_ _)); exact BK210.out⟩, ⟨bb HB⟩⟩
              · rw [if_neg c11] at H
                have c11b0 : (((rd_T29 l0 x7_1).f0) == 2) = false := beq_eq_false_iff_ne.mpr c11
                have c11b1 : (((rd_T29 l0 x7_1).f0) != 2) = true := bne_iff_ne.mpr c11
                (first | rw [c11b0] | (simp only [i64_w, i32_w]; rw [c11b0]) | skip)
                have H' := Aside0.mk H
                clear H
                go_wp2
                go_meet
                case rel => exact ⟨_, (x5_1), (x211000_1), (x211001_1), (x211002_1), (x211003_1), (u211000), (u211003), (by first | rfl | (simp; done) | (simp [*]; done)), H', ⟨by have := HK1.out; first | omega | exact Nat.le_refl _⟩, ⟨vM HO_211000⟩, ⟨vM HO_211003⟩, ⟨kk BK210⟩, ⟨bb HB⟩⟩
            case rest =>
              clear HC10
              try clear c1
              try clear c2
              try clear p2
              try clear q2
              try clear hx2
              try clear c4
              try clear p6
              try clear c11
              try clear c11b0
              try clear c11b1
              try clear c13
              try clear c13b0
              try clear c13b1
              try clear c21
              try clear p21
              try clear q21
              try clear hx21
              try clear c22
              try clear p22
              try clear q22
              try clear hx22
              try clear c26
              try clear c41
              try clear hcz27_0
              try clear hcz27_1
              try clear hcz27_2
              try clear hcz27_3
              try clear hcz28_0
              try clear hcz28_1
              try clear hcz28_2
              try clear hcz28_3
              try clear hcz42_0
              try clear hcz42_1
              try clear hcz42_2
              try clear hcz42_3
              try clear hcz43_0
              try clear hcz43_1
              try clear hcz43_2
              try clear hcz43_3
              try clear hfz27_0
              try clear hfz27_1
              try clear hfz27_2
              try clear hfz27_3
              try clear hfz28_0
              try clear hfz28_1
              try clear hfz28_2
              try clear hfz28_3
              try clear hfz42_0
              try clear hfz42_1
              try clear hfz42_2
              try clear hfz42_3
              try clear hfz43_0
              try clear hfz43_1
              try clear hfz43_2
              try clear hfz43_3
              try clear hx212_0
              try clear hx212_1
              try clear hx212_2
              try clear hx223_0
              try clear hx223_1
              try clear hx223_2
              try clear p212
              try clear p223
              try clear q212
              try clear q223
              obtain ⟨kq, x5_9, x211000_9, x211001_9, x211002_9, x211003_9, u211000, u211003, rfl, HA, HJ9, HO_211000, HO_211003, BK210, HB⟩ := hcut
              cases kq with
              | zero => exact absurd HA.out (by simp [pentroughlaw19_WireGrants.j1])
              | succ kj9 =>
                have H := HA.out
                clear HA
                simp only [pentroughlaw19_WireGrants.j1] at H
                by_cases c44 : 0 ≤ x7_1
                · rw [if_pos c44] at H
                  have c44b0 : decide (0 ≤ x7_1) = true := decide_eq_true c44
                  clear c44
                  by_cases c45 : x7_1 < (l0.length : Int)
                  · rw [if_pos c45] at H
                    have c45b0 : decide (x7_1 < (l0.length : Int)) = true := decide_eq_true c45
                    clear c45
                    have HC46 := Aside0.mk H
                    clear H
                    have p224 : 0 ≤ (x7_1 : Int) := of_decide_eq_true (by first | (with_reducible assumption) | assumption)
                    have q224 : x7_1 < (l0.length : Int) := of_decide_eq_true (by first | (with_reducible assumption) | assumption)
                    obtain ⟨ad224, A224_2, c224_2, e224, hx224_0, hx224_1, hx224_2, hl224_2, hi224_2⟩ := at_T29 HR0.out x7_1 p224 q224
                    obtain rfl : ad211 = ad224 := (by injection e224)
                    replace hx224_0 := (HB.out.cell (World.block_lt_of_cell? w _ hx224_0)).trans hx224_0
                    replace hx224_1 := (HB.out.cell (World.block_lt_of_cell? w _ hx224_1)).trans hx224_1
                    replace hx224_2 := (HB.out.cell (World.block_lt_of_cell? w _ hx224_2)).trans hx224_2
                    have HR224_2 := Aside0.mk hi224_2
                    have HC224_2 := Aside0.mk hl224_2
                    clear hi224_2 hl224_2
                    replace p224 := eq_true p224
                    replace q224 := eq_true q224
                    go_upto_if 57 with (fail)
                    go_cut [6] (fun v6 wc => ∃ (kq : Nat) (x6_45 : ByteArray) (x211000_45 : List Int) (x211001_45 : Bool) (x211002_45 : Int) (x211003_45 : List Int) (u211000 : Value) (u211003 : Value), v6 = .string x6_45 ∧ Aside0 (pentroughlaw19_WireGrants.j2 kq l0 t208 x5_9 x6_45 x7_1 x211000_45 x211001_45 x211002_45 x211003_45 = some r) ∧ Aside0 (kq ≤ kj9) ∧ Aside0 (Kd.V (Kd.int .u8) 5 wc w.heap.size (fun k_ => k_ ≠ gb210) u211000 x211000_45) ∧ Aside0 (Kd.V (Kd.int .u8) 5 wc w.heap.size (fun k_ => k_ ≠ gb210) u211003 x211003_45) ∧ Aside0 (wc.heap[gb210]? = some (.cells #[u211000, .bool x211001_45, .int .i64 x211002_45, u211003] 27 (0, 0))) ∧ Aside0 (Below w.heap.size w wc))
                    case first =>
                      have H := HC46.out
                      clear HC46
                      by_cases c47 : ((rd_T29 l0 x7_1).f0) = 3
                      · rw [if_pos c47] at H
                        have c47b0 : (((rd_T29 l0 x7_1).f0) == 3) = true := beq_iff_eq.mpr c47
                        have c47b1 : (((rd_T29 l0 x7_1).f0) != 3) = false := bne_eq_false_iff_eq.mpr c47
                        clear c47
                        (first | rw [c47b0] | (simp only [i64_w, i32_w]; rw [c47b0]) | skip)
                        obtain ⟨⟨t226, t229, t230, t231, t234⟩, A48, H⟩ := ob H
                        dsimp only at H
                        by_cases c49 : t234 < 0
                        · rw [if_pos c49] at H
                          have c49b0 : decide (t234 < 0) = true := decide_eq_true c49
                          clear c49
                          cases H; exact absurd HRT.out (by decide)
                        · rw [if_neg c49] at H
                          have c49b0 : decide (t234 < 0) = false := decide_eq_false c49
                          clear c49
                          by_cases c50 : t234 > (((rd_T29 l0 x7_1).f2).length : Int)
                          · rw [if_pos c50] at H
                            have c50b0 : decide ((((rd_T29 l0 x7_1).f2).length : Int) < t234) = true := decide_eq_true c50
                            clear c50
                            cases H; exact absurd HRT.out (by decide)
                          · rw [if_neg c50] at H
                            have c50b0 : decide ((((rd_T29 l0 x7_1).f2).length : Int) < t234) = false := decide_eq_false c50
                            clear c50
                            by_cases c51 : 0 ≤ t234
                            · rw [if_pos c51] at H
                              have c51b0 := eq_true c51
                              have c51b1 : decide (0 ≤ t234) = true := decide_eq_true c51
                              clear c51
                              by_cases c52 : t234 ≤ (((rd_T29 l0 x7_1).f2).length : Int)
                              · rw [if_pos c52] at H
                                have c52b0 := eq_true c52
                                have c52b1 : decide (t234 ≤ (((rd_T29 l0 x7_1).f2).length : Int)) = true := decide_eq_true c52
                                clear c52
                                by_cases c53 : x6_1.size + (strOfNums (((rd_T29 l0 x7_1).f2).take (t234 : Int).toNat)).size ≤ 9223372036854775807
                                · rw [if_pos c53] at H
                                  have c53b0 := eq_true c53
                                  have c53b1 : decide (x6_1.size + (strOfNums (((rd_T29 l0 x7_1).f2).take (t234 : Int).toNat)).size ≤ 9223372036854775807) = true := decide_eq_true c53
                                  try have c53b2 : (9223372036854775807 < x6_1.size + (strOfNums (((rd_T29 l0 x7_1).f2).take (t234 : Int).toNat)).size) = False := eq_false (Nat.not_lt.2 c53)
                                  have H' := Aside0.mk H
                                  clear H
                                  obtain ⟨Ao54, co54, eo54⟩ := Kd.V_slice HO_211000.out
                                  subst eo54
                                  obtain ⟨Ao55, co55, eo55⟩ := Kd.V_slice HO_211003.out
                                  subst eo55
                                  try go_wp2
                                  replace HO_211000 := Aside0.mk (Kd.V_drew HO_211000.out)
                                  replace HO_211003 := Aside0.mk (Kd.V_drew HO_211003.out)
                                  replace BK210 := Aside0.mk (blk_drew BK210.out)
                                  replace HB := Aside0.mk (below_drew1 HB.out)
                                  have p225 : 0 ≤ (x7_1 : Int) := of_decide_eq_true (by first | (with_reducible assumption) | assumption)
                                  have q225 : x7_1 < (l0.length : Int) := of_decide_eq_true (by first | (with_reducible assumption) | assumption)
                                  obtain ⟨ad225, A225_2, c225_2, e225, hx225_0, hx225_1, hx225_2, hl225_2, hi225_2⟩ := at_T29 HR0.out x7_1 p225 q225
                                  have hw225_2 := hx225_2
                                  have hw225_1 := hx225_1
                                  have hw225_0 := hx225_0
                                  obtain rfl : ad211 = ad225 := (by injection e225)
                                  replace hx225_0 := (HB.out.cell (World.block_lt_of_cell? w _ hx225_0)).trans hx225_0
                                  replace hx225_1 := (HB.out.cell (World.block_lt_of_cell? w _ hx225_1)).trans hx225_1
                                  replace hx225_2 := (HB.out.cell (World.block_lt_of_cell? w _ hx225_2)).trans hx225_2
                                  have HR225_2 := Aside0.mk hi225_2
                                  have HC225_2 := Aside0.mk hl225_2
                                  clear hi225_2 hl225_2
                                  replace p225 := eq_true p225
                                  replace q225 := eq_true q225
                                  refine start_ (n := 13) (S := fun w' => w'.cell? ⟨gb210, 0, none⟩ = some (.slice Ao54 x211000_9.length co54) ∧ w'.cell? ⟨gb210, 1, none⟩ = some (.bool x211001_9) ∧ w'.cell? ⟨gb210, 2, none⟩ = some (.int .i64 x211002_9) ∧ w'.cell? ⟨gb210, 3, none⟩ = some (.slice Ao55 x211003_9.length co55) ∧ w'.cell? (ad211.add ((x7_1).toNat * 3)) = some (.int .i64 ((rd_T29 l0 x7_1).f0)) ∧ w'.cell? ⟨(ad211.add ((x7_1).toNat * 3)).block, (ad211.add ((x7_1).toNat * 3)).off + 1, none⟩ = some (.int .i64 ((rd_T29 l0 x7_1).f1)) ∧ w'.cell? ⟨(ad211.add ((x7_1).toNat * 3)).block, (ad211.add ((x7_1).toNat * 3)).off + 2, none⟩ = some (.slice A225_2 ((rd_T29 l0 x7_1).f2).length c225_2)) (ds := []) #[false, false, false, false, false, false, false, false, false, false, false, false, false] (by kernel_rfl) rfl rfl ⟨cx BK210 0, cx BK210 1, cx BK210 2, cx BK210 3, ((HB.out.cell (World.block_lt_of_cell? w _ hw225_0)).trans hw225_0), ((HB.out.cell (World.block_lt_of_cell? w _ hw225_1)).trans hw225_1), ((HB.out.cell (World.block_lt_of_cell? w _ hw225_2)).trans hw225_2)⟩ (fun hHeld => ?_); refine with_tabW pentroughlaw19_WireGrants.tab16 pentroughlaw19_WireGrants.bits16 (fun HT_ HW_ => ?_)
                                  generalize wc.drew = w56 at HO_211000 HO_211003 BK210 HB HR225_2 hx225_0 hx225_1 hx225_2 hHeld ⊢
                                  refine pure_ (i := 1) (N := some 60) (v := ?_) (a' := ?_) #[false, true, false, false, false, false, false, false, false, false, false, false, false] rfl rfl (any_of HT_.out (by kernel_rfl)) (fun _ _ _ h => h) (Or.inl ⟨by rfl, ?_⟩) ?_ ?_
                                  rotate_left
                                  · intro w'
                                    go_simp
                                    with_reducible rfl
                                  rotate_left
                                  · simp only [Act.put, List.setIfInBounds_toArray, List.set_cons_zero, List.set_cons_succ, i64_w, i32_w]
                                    rfl
                                  refine pure_ (i := 2) (N := some 61) (v := ?_) (a' := ?_) #[false, true, true, false, false, false, false, false, false, false, false, false, false] rfl rfl (any_of HT_.out (by kernel_rfl)) (fun _ _ _ h => h) (Or.inl ⟨by rfl, ?_⟩) ?_ ?_
                                  rotate_left
                                  · intro w'
                                    go_simp
                                    with_reducible rfl
                                  rotate_left
                                  · simp only [Act.put, List.setIfInBounds_toArray, List.set_cons_zero, List.set_cons_succ, i64_w, i32_w]
                                    rfl
                                  refine pure_ (i := 3) (N := some 62) (v := ?_) (a' := ?_) #[false, true, true, true, false, false, false, false, false, false, false, false, false] rfl rfl (any_of HT_.out (by kernel_rfl)) (fun _ _ _ h => h) (Or.inl ⟨by rfl, ?_⟩) ?_ ?_
                                  rotate_left
                                  · intro w'
                                    go_simp
                                    with_reducible rfl
                                  rotate_left
                                  · simp only [Act.put, List.setIfInBounds_toArray, List.set_cons_zero, List.set_cons_succ, i64_w, i32_w]
                                    rfl
                                  refine pure_ (i := 4) (N := some 63) (v := ?_) (a' := ?_) #[false, true, true, true, true, false, false, false, false, false, false, false, false] rfl rfl (any_of HT_.out (by kernel_rfl)) (fun _ _ _ h => h) (Or.inl ⟨by rfl, ?_⟩) ?_ ?_
                                  rotate_left
                                  · intro w'
                                    go_simp
                                    with_reducible rfl
                                  rotate_left
                                  · simp only [Act.put, List.setIfInBounds_toArray, List.set_cons_zero, List.set_cons_succ, i64_w, i32_w]
                                    rfl
                                  refine take_ (i := 0) (N := some 59) (v := ?_) (a' := ?_) #[true, true, true, true, true, false, false, false, false, false, false, false, false] rfl rfl (take_ofW HT_.out HW_.out (by kernel_rfl)) (fun _ _ _ h => h) (Or.inl ⟨by rfl, ?_⟩) hHeld ?_ ?_
                                  rotate_left
                                  · rintro w' ⟨s0, s1, s2, s3, s4, s5, s6⟩
                                    go_simp
                                    with_reducible rfl
                                  rotate_left
                                  · simp only [Act.put, List.setIfInBounds_toArray, List.set_cons_zero, List.set_cons_succ, i64_w, i32_w]
                                    rfl
                                  refine take_ (i := 5) (N := some 64) (v := ?_) (a' := ?_) #[true, true, true, true, true, true, false, false, false, false, false, false, false] rfl rfl (take_ofW HT_.out HW_.out (by kernel_rfl)) (fun _ _ _ h => h) (Or.inl ⟨by rfl, ?_⟩) hHeld ?_ ?_
                                  rotate_left
                                  · rintro w' ⟨s0, s1, s2, s3, s4, s5, s6⟩
                                    go_simp
                                    with_reducible rfl
                                  rotate_left
                                  · simp only [Act.put, List.setIfInBounds_toArray, List.set_cons_zero, List.set_cons_succ, i64_w, i32_w]
                                    rfl
                                  refine join_ (σ := Value × Value × Nat) 2 #[true, true, true, true, true, true, true, true, true, true, true, false, false] (fun s_ => [(65, .tuple #[.agg #[s_.1, .bool t229, .int .i64 t230, s_.2.1], .int .i64 t234]), (10, .pointer (some ⟨s_.2.2, 0, none⟩)), (58, .tuple #[.agg #[s_.1, .bool t229, .int .i64 t230, s_.2.1], .int .i64 t234]), (66, .agg #[s_.1, .bool t229, .int .i64 t230, s_.2.1]), (67, .int .i64 t234)]) (fun s_ w' => (w'.cell? ⟨gb210, 0, none⟩ = some (.slice Ao54 x211000_9.length co54) ∧ w'.cell? ⟨gb210, 1, none⟩ = some (.bool x211001_9) ∧ w'.cell? ⟨gb210, 2, none⟩ = some (.int .i64 x211002_9) ∧ w'.cell? ⟨gb210, 3, none⟩ = some (.slice Ao55 x211003_9.length co55) ∧ w'.cell? (ad211.add ((x7_1).toNat * 3)) = some (.int .i64 ((rd_T29 l0 x7_1).f0)) ∧ w'.cell? ⟨(ad211.add ((x7_1).toNat * 3)).block, (ad211.add ((x7_1).toNat * 3)).off + 1, none⟩ = some (.int .i64 ((rd_T29 l0 x7_1).f1)) ∧ w'.cell? ⟨(ad211.add ((x7_1).toNat * 3)).block, (ad211.add ((x7_1).toNat * 3)).off + 2, none⟩ = some (.slice A225_2 ((rd_T29 l0 x7_1).f2).length c225_2)) ∧ (Kd.V (Kd.int .u8) 5 w' w.heap.size (fun k_ => k_ ≠ gb210 ∧ k_ ≠ s_.2.2) s_.1 t226) ∧ (Kd.V (Kd.int .u8) 5 w' w.heap.size (fun k_ => k_ ≠ gb210 ∧ k_ ≠ s_.2.2) s_.2.1 t231) ∧ (Kd.V (Kd.int .u8) 5 w' w.heap.size (fun k_ => k_ ≠ gb210 ∧ k_ ≠ s_.2.2) (.slice Ao54 x211000_9.length co54) x211000_9) ∧ (Kd.V (Kd.int .u8) 5 w' w.heap.size (fun k_ => k_ ≠ gb210 ∧ k_ ≠ s_.2.2) (.slice Ao55 x211003_9.length co55) x211003_9) ∧ (w'.heap[gb210]? = some (.cells #[.slice Ao54 x211000_9.length co54, .bool x211001_9, .int .i64 x211002_9, .slice Ao55 x211003_9.length co55] 27 (0, 0))) ∧ (w'.heap[s_.2.2]? = some (.cells #[.slice none 0 0, .bool false, .int .i64 0, .slice none 0 0] 27 (0, 0))) ∧ (w.heap.size ≤ s_.2.2) ∧ (w.heap.size ≤ s_.2.2) ∧ (gb210 ≠ s_.2.2) ∧ (s_.2.2 ≠ gb210) ∧ (Below w.heap.size w w')) ?_ ?_
                                  rotate_left
                                  · intro hCont
                                    refine two_ (i := 6) (j := 10) (Ni := some 65) (Nj := some 10) #[true, true, true, true, true, true, true, false, false, false, false, false, false] #[true, true, true, true, true, true, false, false, false, false, true, false, false] rfl rfl rfl rfl (two_of HT_.out (by kernel_rfl)) (by decide) (by decide) (fun K hK => ?_) (fun K hK => ?_)
                                    · skip
                                      refine gs Try.func12 (by kernel_rfl) rfl #[.agg #[.slice Ao54 x211000_9.length co54, .bool x211001_9, .int .i64 x211002_9, .slice Ao55 x211003_9.length co55], .slice A225_2 ((rd_T29 l0 x7_1).f2).length c225_2] (by rfl) rfl rfl ?_
                                      with_reducible refine (wire_Write.calls (fun k_ => k_ ≠ gb210) _ _ x211000_9 x211001_9 x211002_9 (fun k_ => k_ ≠ gb210) _ _ x211003_9 _ _ ((rd_T29 l0 x7_1).f2) t226 t229 t230 t231 t234 _ ?side1 ?side2 ?side3 ?side4 A48.out).mono ?_
                                      (case side1 => exact HO_211000.out)
                                      (case side2 => exact HO_211003.out)
                                      (case side3 => exact Kd.C_below HR225_2.out (bb HB))
                                      (case side4 => exact HC225_2.out)
                                      rintro e w57 ⟨v227, v232, rfl, ho0, ho1, hb⟩
                                      refine ⟨_, rfl, ?_⟩
                                      replace HO_211000 := vB HO_211000 hb
                                      replace HO_211003 := vB HO_211003 hb
                                      have HO228 := Aside0.mk (Kd.V_lower (Kd.V_mono (ok' := fun k_ => k_ ≠ gb210) ho0 (fun k_ hk_ => oe hk_ (fun h => h) (fun h => h) (Kd.freshB (kk BK210) k_))) (below_size (bb HB)))
                                      have HO233 := Aside0.mk (Kd.V_lower (Kd.V_mono (ok' := fun k_ => k_ ≠ gb210) ho1 (fun k_ hk_ => oe hk_ (fun h => h) (fun h => h) (Kd.freshB (kk BK210) k_))) (below_size (bb HB)))
                                      replace BK210 := kB BK210 hb
                                      replace HB := hB HB hb
                                      (try clear hb)
                                      (try clear hb2)
                                      (try clear hk)
                                      (try clear hi)
                                      (try clear ho0)
                                      (try clear ho1)
                                      refine hK.out _ _ ⟨cx BK210 0, cx BK210 1, cx BK210 2, cx BK210 3, ((HB.out.cell (World.block_lt_of_cell? w _ hw225_0)).trans hw225_0), ((HB.out.cell (World.block_lt_of_cell? w _ hw225_1)).trans hw225_1), ((HB.out.cell (World.block_lt_of_cell? w _ hw225_2)).trans hw225_2)⟩ (fun hHeld => ?_)
                                      clear hK K
                                      refine norm_ (a' := ?_) ?_ ?_
                                      rotate_left
                                      · show Act.put _ (some 65) _ = _
                                        simp only [Act.put, List.setIfInBounds_toArray, List.set_cons_zero, List.set_cons_succ, i64_w, i32_w]
                                        rfl
                                      refine pure_ (i := 7) (N := some 58) (v := ?_) (a' := ?_) #[true, true, true, true, true, true, true, true, false, false, false, false, false] rfl rfl (any_of HT_.out (by kernel_rfl)) (fun _ _ _ h => h) (Or.inl ⟨by rfl, ?_⟩) ?_ ?_
                                      rotate_left
                                      · intro w'
                                        go_simp
                                        with_reducible rfl
                                      rotate_left
                                      · simp only [Act.put, List.setIfInBounds_toArray, List.set_cons_zero, List.set_cons_succ, i64_w, i32_w]
                                        rfl
                                      refine pure_ (i := 8) (N := some 66) (v := ?_) (a' := ?_) #[true, true, true, true, true, true, true, true, true, false, false, false, false] rfl rfl (any_of HT_.out (by kernel_rfl)) (fun _ _ _ h => h) (Or.inl ⟨by rfl, ?_⟩) ?_ ?_
                                      rotate_left
                                      · intro w'
                                        go_simp
                                        with_reducible rfl
                                      rotate_left
                                      · simp only [Act.put, List.setIfInBounds_toArray, List.set_cons_zero, List.set_cons_succ, i64_w, i32_w]
                                        rfl
                                      refine pure_ (i := 9) (N := some 67) (v := ?_) (a' := ?_) #[true, true, true, true, true, true, true, true, true, true, false, false, false] rfl rfl (any_of HT_.out (by kernel_rfl)) (fun _ _ _ h => h) (Or.inl ⟨by rfl, ?_⟩) ?_ ?_
                                      rotate_left
                                      · intro w'
                                        go_simp
                                        with_reducible rfl
                                      rotate_left
                                      · simp only [Act.put, List.setIfInBounds_toArray, List.set_cons_zero, List.set_cons_succ, i64_w, i32_w]
                                        rfl
                                      refine one_ (i := 10) (N := some 10) #[true, true, true, true, true, true, true, true, true, true, true, false, false] rfl rfl (one_of HT_.out (by kernel_rfl)) (by decide) (fun K hK => ?_)
                                      refine box_step ?hg (N := 10) ?hd (cs := #[.slice none 0 0, .bool false, .int .i64 0, .slice none 0 0]) (t := 27) ?hr ?_; (case hd => rfl); (case hg => rfl); (case hr => first | (go_simp; done) | (go_simp; rfl))
                                      intro gb235 hg w58 hbox hb
                                      replace HO_211000 := vE HO_211000 hg hb
                                      replace HO_211003 := vE HO_211003 hg hb
                                      replace HO228 := vE HO228 hg hb
                                      replace HO233 := vE HO233 hg hb
                                      have BK235 := Aside0.mk hbox
                                      have GW235 := gE HB hg
                                      have GE235 := gE HB hg
                                      replace HB := hB HB hb
                                      have NB210_235 := nL BK210 hg
                                      have NB235_210 := nG BK210 hg
                                      replace BK210 := kB BK210 hb
                                      clear hb hbox hg
                                      refine hK.out _ _ ⟨cx BK210 0, cx BK210 1, cx BK210 2, cx BK210 3, ((HB.out.cell (World.block_lt_of_cell? w _ hw225_0)).trans hw225_0), ((HB.out.cell (World.block_lt_of_cell? w _ hw225_1)).trans hw225_1), ((HB.out.cell (World.block_lt_of_cell? w _ hw225_2)).trans hw225_2)⟩ (fun hHeld => ?_)
                                      clear hK K
                                      refine norm_ (a' := ?_) ?_ ?_
                                      rotate_left
                                      · show Act.put _ (some 10) _ = _
                                        simp only [Act.put, List.setIfInBounds_toArray, List.set_cons_zero, List.set_cons_succ, i64_w, i32_w]
                                        rfl
                                      exact norm_ (by simp only [putAll, Act.put, List.setIfInBounds_toArray, List.set_cons_zero, List.set_cons_succ]) (hCont (v227, v232, gb235) _ ⟨hHeld, (vM HO228), (vM HO233), (vM HO_211000), (vM HO_211003), (kk BK210), (kk BK235), GW235.out, GE235.out, NB210_235.out, NB235_210.out, (bb HB)⟩)
                                    · skip
                                      refine box_step ?hg (N := 10) ?hd (cs := #[.slice none 0 0, .bool false, .int .i64 0, .slice none 0 0]) (t := 27) ?hr ?_; (case hd => rfl); (case hg => rfl); (case hr => first | (go_simp; done) | (go_simp; rfl))
                                      intro gb235 hg w57 hbox hb
                                      replace HO_211000 := vE HO_211000 hg hb
                                      replace HO_211003 := vE HO_211003 hg hb
                                      have BK235 := Aside0.mk hbox
                                      have GW235 := gE HB hg
                                      have GE235 := gE HB hg
                                      replace HB := hB HB hb
                                      have NB210_235 := nL BK210 hg
                                      have NB235_210 := nG BK210 hg
                                      replace BK210 := kB BK210 hb
                                      clear hb hbox hg
                                      refine hK.out _ _ ⟨cx BK210 0, cx BK210 1, cx BK210 2, cx BK210 3, ((HB.out.cell (World.block_lt_of_cell? w _ hw225_0)).trans hw225_0), ((HB.out.cell (World.block_lt_of_cell? w _ hw225_1)).trans hw225_1), ((HB.out.cell (World.block_lt_of_cell? w _ hw225_2)).trans hw225_2)⟩ (fun hHeld => ?_)
                                      clear hK K
                                      refine norm_ (a' := ?_) ?_ ?_
                                      rotate_left
                                      · show Act.put _ (some 10) _ = _
                                        simp only [Act.put, List.setIfInBounds_toArray, List.set_cons_zero, List.set_cons_succ, i64_w, i32_w]
                                        rfl
                                      refine one_ (i := 6) (N := some 65) #[true, true, true, true, true, true, true, false, false, false, true, false, false] rfl rfl (one_of HT_.out (by kernel_rfl)) (by decide) (fun K hK => ?_)
                                      refine gs Try.func12 (by kernel_rfl) rfl #[.agg #[.slice Ao54 x211000_9.length co54, .bool x211001_9, .int .i64 x211002_9, .slice Ao55 x211003_9.length co55], .slice A225_2 ((rd_T29 l0 x7_1).f2).length c225_2] (by rfl) rfl rfl ?_
                                      with_reducible refine (wire_Write.calls (fun k_ => (k_ ≠ gb210 ∧ k_ ≠ gb235)) _ _ x211000_9 x211001_9 x211002_9 (fun k_ => (k_ ≠ gb210 ∧ k_ ≠ gb235)) _ _ x211003_9 _ _ ((rd_T29 l0 x7_1).f2) t226 t229 t230 t231 t234 _ ?side1 ?side2 ?side3 ?side4 A48.out).mono ?_
                                      (case side1 => exact HO_211000.out)
                                      (case side2 => exact HO_211003.out)
                                      (case side3 => exact Kd.C_below HR225_2.out (bb HB))
                                      (case side4 => exact HC225_2.out)
                                      rintro e w58 ⟨v227, v232, rfl, ho0, ho1, hb⟩
                                      refine ⟨_, rfl, ?_⟩
                                      replace HO_211000 := vB HO_211000 hb
                                      replace HO_211003 := vB HO_211003 hb
                                      have HO228 := Aside0.mk (Kd.V_lower (Kd.V_mono (ok' := fun k_ => k_ ≠ gb210 ∧ k_ ≠ gb235) ho0 (fun k_ hk_ => ⟨oe hk_ (fun h => h.1) (fun h => h.1) (Kd.freshB (kk BK210) k_), oe hk_ (fun h => h.2) (fun h => h.2) (Kd.freshB (kk BK235) k_)⟩)) (below_size (bb HB)))
                                      have HO233 := Aside0.mk (Kd.V_lower (Kd.V_mono (ok' := fun k_ => k_ ≠ gb210 ∧ k_ ≠ gb235) ho1 (fun k_ hk_ => ⟨oe hk_ (fun h => h.1) (fun h => h.1) (Kd.freshB (kk BK210) k_), oe hk_ (fun h => h.2) (fun h => h.2) (Kd.freshB (kk BK235) k_)⟩)) (below_size (bb HB)))
                                      replace BK210 := kB BK210 hb
                                      replace BK235 := kB BK235 hb
                                      replace HB := hB HB hb
                                      (try clear hb)
                                      (try clear hb2)
                                      (try clear hk)
                                      (try clear hi)
                                      (try clear ho0)
                                      (try clear ho1)
                                      refine hK.out _ _ ⟨cx BK210 0, cx BK210 1, cx BK210 2, cx BK210 3, ((HB.out.cell (World.block_lt_of_cell? w _ hw225_0)).trans hw225_0), ((HB.out.cell (World.block_lt_of_cell? w _ hw225_1)).trans hw225_1), ((HB.out.cell (World.block_lt_of_cell? w _ hw225_2)).trans hw225_2)⟩ (fun hHeld => ?_)
                                      clear hK K
                                      refine norm_ (a' := ?_) ?_ ?_
                                      rotate_left
                                      · show Act.put _ (some 65) _ = _
                                        simp only [Act.put, List.setIfInBounds_toArray, List.set_cons_zero, List.set_cons_succ, i64_w, i32_w]
                                        rfl
                                      refine pure_ (i := 7) (N := some 58) (v := ?_) (a' := ?_) #[true, true, true, true, true, true, true, true, false, false, true, false, false] rfl rfl (any_of HT_.out (by kernel_rfl)) (fun _ _ _ h => h) (Or.inl ⟨by rfl, ?_⟩) ?_ ?_
                                      rotate_left
                                      · intro w'
                                        go_simp
                                        with_reducible rfl
                                      rotate_left
                                      · simp only [Act.put, List.setIfInBounds_toArray, List.set_cons_zero, List.set_cons_succ, i64_w, i32_w]
                                        rfl
                                      refine pure_ (i := 8) (N := some 66) (v := ?_) (a' := ?_) #[true, true, true, true, true, true, true, true, true, false, true, false, false] rfl rfl (any_of HT_.out (by kernel_rfl)) (fun _ _ _ h => h) (Or.inl ⟨by rfl, ?_⟩) ?_ ?_
                                      rotate_left
                                      · intro w'
                                        go_simp
                                        with_reducible rfl
                                      rotate_left
                                      · simp only [Act.put, List.setIfInBounds_toArray, List.set_cons_zero, List.set_cons_succ, i64_w, i32_w]
                                        rfl
                                      refine pure_ (i := 9) (N := some 67) (v := ?_) (a' := ?_) #[true, true, true, true, true, true, true, true, true, true, true, false, false] rfl rfl (any_of HT_.out (by kernel_rfl)) (fun _ _ _ h => h) (Or.inl ⟨by rfl, ?_⟩) ?_ ?_
                                      rotate_left
                                      · intro w'
                                        go_simp
                                        with_reducible rfl
                                      rotate_left
                                      · simp only [Act.put, List.setIfInBounds_toArray, List.set_cons_zero, List.set_cons_succ, i64_w, i32_w]
                                        rfl
                                      exact norm_ (by simp only [putAll, Act.put, List.setIfInBounds_toArray, List.set_cons_zero, List.set_cons_succ]) (hCont (v227, v232, gb235) _ ⟨hHeld, (vM HO228), (vM HO233), (vM HO_211000), (vM HO_211003), (kk BK210), (kk BK235), GW235.out, GE235.out, NB210_235.out, NB235_210.out, (bb HB)⟩)
                                  clear HO_211000 HO_211003 BK210 HB
                                  rintro ⟨v227, v232, gb235⟩ w59 hS_
                                  dsimp only at hS_
                                  obtain ⟨hHeld, h0_, h1_, h2_, h3_, h4_, h5_, h6_, h7_, h8_, h9_, h10_⟩ := hS_
                                  have HO228 := Aside0.mk h0_
                                  have HO233 := Aside0.mk h1_
                                  have HO_211000 := Aside0.mk h2_
                                  have HO_211003 := Aside0.mk h3_
                                  have BK210 := Aside0.mk h4_
                                  have BK235 := Aside0.mk h5_
                                  have GW235 := Aside0.mk h6_
                                  have GE235 := Aside0.mk h7_
                                  have NB210_235 := Aside0.mk h8_
                                  have NB235_210 := Aside0.mk h9_
                                  have HB := Aside0.mk h10_
                                  clear h0_ h1_ h2_ h3_ h4_ h5_ h6_ h7_ h8_ h9_ h10_
                                  obtain ⟨Ao60, co60, eo60⟩ := Kd.V_slice HO228.out
                                  (first | subst eo60 | (injection eo60 with f1_ f2_ f3_; have f4_ := f1_.symm; have f5_ := f3_.symm; clear f1_ f2_ f3_; subst f4_; subst f5_))
                                  obtain ⟨Ao64, co64, eo64⟩ := Kd.V_slice HO233.out
                                  (first | subst eo64 | (injection eo64 with f1_ f2_ f3_; have f4_ := f1_.symm; have f5_ := f3_.symm; clear f1_ f2_ f3_; subst f4_; subst f5_))
                                  refine norm_ (a' := ?_) ?_ ?_
                                  rotate_left
                                  · simp only [putAll, Act.put, List.setIfInBounds_toArray, List.set_cons_zero, List.set_cons_succ]
                                    rfl
                                  refine one_ (i := 11) (N := none) #[true, true, true, true, true, true, true, true, true, true, true, true, false] rfl rfl (one_of HT_.out (by kernel_rfl)) (by decide) (fun K hK => ?_)
                                  have hs61 : w59.cell? ⟨gb235, 0, none⟩ = some (.slice none 0 0) := cx BK235 0
                                  have hfs61 := blk_frozen BK235.out 0
                                  have hns61_0 := NB210_235.out
                                  have hms61_0 := NB235_210.out
                                  have hs62 : w59.cell? ⟨gb235, 1, none⟩ = some (.bool false) := cx BK235 1
                                  have hfs62 := blk_frozen BK235.out 1
                                  have hns62_0 := NB210_235.out
                                  have hms62_0 := NB235_210.out
                                  have hs63 : w59.cell? ⟨gb235, 2, none⟩ = some (.int .i64 0) := cx BK235 2
                                  have hfs63 := blk_frozen BK235.out 2
                                  have hns63_0 := NB210_235.out
                                  have hms63_0 := NB235_210.out
                                  have hs65 : w59.cell? ⟨gb235, 3, none⟩ = some (.slice none 0 0) := cx BK235 3
                                  have hfs65 := blk_frozen BK235.out 3
                                  have hns65_0 := NB210_235.out
                                  have hms65_0 := NB235_210.out
                                  refine skip_ (w1 := ?_) (by rfl) rfl ?_ ?_
                                  rotate_left
                                  · go_simp
                                    rfl
                                  refine hK.out _ _ ⟨((cell_far (p := ⟨gb235, _, none⟩) NB210_235.out _).trans (((cell_far (p := ⟨gb235, _, none⟩) NB210_235.out _).trans (((cell_far (p := ⟨gb235, _, none⟩) NB210_235.out _).trans (((cell_far (p := ⟨gb235, _, none⟩) NB210_235.out _).trans (hHeld.1)))))))), ((cell_far (p := ⟨gb235, _, none⟩) NB210_235.out _).trans (((cell_far (p := ⟨gb235, _, none⟩) NB210_235.out _).trans (((cell_far (p := ⟨gb235, _, none⟩) NB210_235.out _).trans (((cell_far (p := ⟨gb235, _, none⟩) NB210_235.out _).trans (hHeld.2.1)))))))), ((cell_far (p := ⟨gb235, _, none⟩) NB210_235.out _).trans (((cell_far (p := ⟨gb235, _, none⟩) NB210_235.out _).trans (((cell_far (p := ⟨gb235, _, none⟩) NB210_235.out _).trans (((cell_far (p := ⟨gb235, _, none⟩) NB210_235.out _).trans (hHeld.2.2.1)))))))), ((cell_far (p := ⟨gb235, _, none⟩) NB210_235.out _).trans (((cell_far (p := ⟨gb235, _, none⟩) NB210_235.out _).trans (((cell_far (p := ⟨gb235, _, none⟩) NB210_235.out _).trans (((cell_far (p := ⟨gb235, _, none⟩) NB210_235.out _).trans (hHeld.2.2.2.1)))))))), ((cell_far (p := ⟨gb235, _, none⟩) (by first | exact Nat.ne_of_lt (Nat.lt_of_lt_of_le (by have := World.block_lt_of_cell? _ _ hw225_0; first | rwa [add_block] at this | exact this) GW235.out) | (rw [add_block]; exact Nat.ne_of_lt (Nat.lt_of_lt_of_le (by have := World.block_lt_of_cell? _ _ hw225_0; first | rwa [add_block] at this | exact this) GW235.out)) | (show (Addr.add _ _).block ≠ _; rw [add_block]; exact Nat.ne_of_lt (Nat.lt_of_lt_of_le (by have := World.block_lt_of_cell? _ _ hw225_0; first | rwa [add_block] at this | exact this) GW235.out)) | (dsimp only; exact Nat.ne_of_lt (Nat.lt_of_lt_of_le (by have := World.block_lt_of_cell? _ _ hw225_0; first | rwa [add_block] at this | exact this) GW235.out))) _).trans (((cell_far (p := ⟨gb235, _, none⟩) (by first | exact Nat.ne_of_lt (Nat.lt_of_lt_of_le (by have := World.block_lt_of_cell? _ _ hw225_0; first | rwa [add_block] at this | exact this) GW235.out) | (rw [add_block]; exact Nat.ne_of_lt (Nat.lt_of_lt_of_le (by have := World.block_lt_of_cell? _ _ hw225_0; first | rwa [add_block] at this | exact this) GW235.out)) | (show (Addr.add _ _).block ≠ _; rw [add_block]; exact Nat.ne_of_lt (Nat.lt_of_lt_of_le (by have := World.block_lt_of_cell? _ _ hw225_0; first | rwa [add_block] at this | exact this) GW235.out)) | (dsimp only; exact Nat.ne_of_lt (Nat.lt_of_lt_of_le (by have := World.block_lt_of_cell? _ _ hw225_0; first | rwa [add_block] at this | exact this) GW235.out))) _).trans (((cell_far (p := ⟨gb235, _, none⟩) (by first | exact Nat.ne_of_lt (Nat.lt_of_lt_of_le (by have := World.block_lt_of_cell? _ _ hw225_0; first | rwa [add_block] at this | exact this) GW235.out) | (rw [add_block]; exact Nat.ne_of_lt (Nat.lt_of_lt_of_le (by have := World.block_lt_of_cell? _ _ hw225_0; first | rwa [add_block] at this | exact this) GW235.out)) | (show (Addr.add _ _).block ≠ _; rw [add_block]; exact Nat.ne_of_lt (Nat.lt_of_lt_of_le (by have := World.block_lt_of_cell? _ _ hw225_0; first | rwa [add_block] at this | exact this) GW235.out)) | (dsimp only; exact Nat.ne_of_lt (Nat.lt_of_lt_of_le (by have := World.block_lt_of_cell? _ _ hw225_0; first | rwa [add_block] at this | exact this) GW235.out))) _).trans (((cell_far (p := ⟨gb235, _, none⟩) (by first | exact Nat.ne_of_lt (Nat.lt_of_lt_of_le (by have := World.block_lt_of_cell? _ _ hw225_0; first | rwa [add_block] at this | exact this) GW235.out) | (rw [add_block]; exact Nat.ne_of_lt (Nat.lt_of_lt_of_le (by have := World.block_lt_of_cell? _ _ hw225_0; first | rwa [add_block] at this | exact this) GW235.out)) | (show (Addr.add _ _).block ≠ _; rw [add_block]; exact Nat.ne_of_lt (Nat.lt_of_lt_of_le (by have := World.block_lt_of_cell? _ _ hw225_0; first | rwa [add_block] at this | exact this) GW235.out)) | (dsimp only; exact Nat.ne_of_lt (Nat.lt_of_lt_of_le (by have := World.block_lt_of_cell? _ _ hw225_0; first | rwa [add_block] at this | exact this) GW235.out))) _).trans (hHeld.2.2.2.2.1)))))))), ((cell_far (p := ⟨gb235, _, none⟩) (by first | exact Nat.ne_of_lt (Nat.lt_of_lt_of_le (by have := World.block_lt_of_cell? _ _ hw225_1; first | rwa [add_block] at this | exact this) GW235.out) | (rw [add_block]; exact Nat.ne_of_lt (Nat.lt_of_lt_of_le (by have := World.block_lt_of_cell? _ _ hw225_1; first | rwa [add_block] at this | exact this) GW235.out)) | (show (Addr.add _ _).block ≠ _; rw [add_block]; exact Nat.ne_of_lt (Nat.lt_of_lt_of_le (by have := World.block_lt_of_cell? _ _ hw225_1; first | rwa [add_block] at this | exact this) GW235.out)) | (dsimp only; exact Nat.ne_of_lt (Nat.lt_of_lt_of_le (by have := World.block_lt_of_cell? _ _ hw225_1; first | rwa [add_block] at this | exact this) GW235.out))) _).trans (((cell_far (p := ⟨gb235, _, none⟩) (by first | exact Nat.ne_of_lt (Nat.lt_of_lt_of_le (by have := World.block_lt_of_cell? _ _ hw225_1; first | rwa [add_block] at this | exact this) GW235.out) | (rw [add_block]; exact Nat.ne_of_lt (Nat.lt_of_lt_of_le (by have := World.block_lt_of_cell? _ _ hw225_1; first | rwa [add_block] at this | exact this) GW235.out)) | (show (Addr.add _ _).block ≠ _; rw [add_block]; exact Nat.ne_of_lt (Nat.lt_of_lt_of_le (by have := World.block_lt_of_cell? _ _ hw225_1; first | rwa [add_block] at this | exact this) GW235.out)) | (dsimp only; exact Nat.ne_of_lt (Nat.lt_of_lt_of_le (by have := World.block_lt_of_cell? _ _ hw225_1; first | rwa [add_block] at this | exact this) GW235.out))) _).trans (((cell_far (p := ⟨gb235, _, none⟩) (by first | exact Nat.ne_of_lt (Nat.lt_of_lt_of_le (by have := World.block_lt_of_cell? _ _ hw225_1; first | rwa [add_block] at this | exact this) GW235.out) | (rw [add_block]; exact Nat.ne_of_lt (Nat.lt_of_lt_of_le (by have := World.block_lt_of_cell? _ _ hw225_1; first | rwa [add_block] at this | exact this) GW235.out)) | (show (Addr.add _ _).block ≠ _; rw [add_block]; exact Nat.ne_of_lt (Nat.lt_of_lt_of_le (by have := World.block_lt_of_cell? _ _ hw225_1; first | rwa [add_block] at this | exact this) GW235.out)) | (dsimp only; exact Nat.ne_of_lt (Nat.lt_of_lt_of_le (by have := World.block_lt_of_cell? _ _ hw225_1; first | rwa [add_block] at this | exact this) GW235.out))) _).trans (((cell_far (p := ⟨gb235, _, none⟩) (by first | exact Nat.ne_of_lt (Nat.lt_of_lt_of_le (by have := World.block_lt_of_cell? _ _ hw225_1; first | rwa [add_block] at this | exact this) GW235.out) | (rw [add_block]; exact Nat.ne_of_lt (Nat.lt_of_lt_of_le (by have := World.block_lt_of_cell? _ _ hw225_1; first | rwa [add_block] at this | exact this) GW235.out)) | (show (Addr.add _ _).block ≠ _; rw [add_block]; exact Nat.ne_of_lt (Nat.lt_of_lt_of_le (by have := World.block_lt_of_cell? _ _ hw225_1; first | rwa [add_block] at this | exact this) GW235.out)) | (dsimp only; exact Nat.ne_of_lt (Nat.lt_of_lt_of_le (by have := World.block_lt_of_cell? _ _ hw225_1; first | rwa [add_block] at this | exact this) GW235.out))) _).trans (hHeld.2.2.2.2.2.1)))))))), ((cell_far (p := ⟨gb235, _, none⟩) (by first | exact Nat.ne_of_lt (Nat.lt_of_lt_of_le (by have := World.block_lt_of_cell? _ _ hw225_2; first | rwa [add_block] at this | exact this) GW235.out) | (rw [add_block]; exact Nat.ne_of_lt (Nat.lt_of_lt_of_le (by have := World.block_lt_of_cell? _ _ hw225_2; first | rwa [add_block] at this | exact this) GW235.out)) | (show (Addr.add _ _).block ≠ _; rw [add_block]; exact Nat.ne_of_lt (Nat.lt_of_lt_of_le (by have := World.block_lt_of_cell? _ _ hw225_2; first | rwa [add_block] at this | exact this) GW235.out)) | (dsimp only; exact Nat.ne_of_lt (Nat.lt_of_lt_of_le (by have := World.block_lt_of_cell? _ _ hw225_2; first | rwa [add_block] at this | exact this) GW235.out))) _).trans (((cell_far (p := ⟨gb235, _, none⟩) (by first | exact Nat.ne_of_lt (Nat.lt_of_lt_of_le (by have := World.block_lt_of_cell? _ _ hw225_2; first | rwa [add_block] at this | exact this) GW235.out) | (rw [add_block]; exact Nat.ne_of_lt (Nat.lt_of_lt_of_le (by have := World.block_lt_of_cell? _ _ hw225_2; first | rwa [add_block] at this | exact this) GW235.out)) | (show (Addr.add _ _).block ≠ _; rw [add_block]; exact Nat.ne_of_lt (Nat.lt_of_lt_of_le (by have := World.block_lt_of_cell? _ _ hw225_2; first | rwa [add_block] at this | exact this) GW235.out)) | (dsimp only; exact Nat.ne_of_lt (Nat.lt_of_lt_of_le (by have := World.block_lt_of_cell? _ _ hw225_2; first | rwa [add_block] at this | exact this) GW235.out))) _).trans (((cell_far (p := ⟨gb235, _, none⟩) (by first | exact Nat.ne_of_lt (Nat.lt_of_lt_of_le (by have := World.block_lt_of_cell? _ _ hw225_2; first | rwa [add_block] at this | exact this) GW235.out) | (rw [add_block]; exact Nat.ne_of_lt (Nat.lt_of_lt_of_le (by have := World.block_lt_of_cell? _ _ hw225_2; first | rwa [add_block] at this | exact this) GW235.out)) | (show (Addr.add _ _).block ≠ _; rw [add_block]; exact Nat.ne_of_lt (Nat.lt_of_lt_of_le (by have := World.block_lt_of_cell? _ _ hw225_2; first | rwa [add_block] at this | exact this) GW235.out)) | (dsimp only; exact Nat.ne_of_lt (Nat.lt_of_lt_of_le (by have := World.block_lt_of_cell? _ _ hw225_2; first | rwa [add_block] at this | exact this) GW235.out))) _).trans (((cell_far (p := ⟨gb235, _, none⟩) (by first | exact Nat.ne_of_lt (Nat.lt_of_lt_of_le (by have := World.block_lt_of_cell? _ _ hw225_2; first | rwa [add_block] at this | exact this) GW235.out) | (rw [add_block]; exact Nat.ne_of_lt (Nat.lt_of_lt_of_le (by have := World.block_lt_of_cell? _ _ hw225_2; first | rwa [add_block] at this | exact this) GW235.out)) | (show (Addr.add _ _).block ≠ _; rw [add_block]; exact Nat.ne_of_lt (Nat.lt_of_lt_of_le (by have := World.block_lt_of_cell? _ _ hw225_2; first | rwa [add_block] at this | exact this) GW235.out)) | (dsimp only; exact Nat.ne_of_lt (Nat.lt_of_lt_of_le (by have := World.block_lt_of_cell? _ _ hw225_2; first | rwa [add_block] at this | exact this) GW235.out))) _).trans (hHeld.2.2.2.2.2.2))))))))⟩ (fun hHeld => ?_)
                                  clear hK K
                                  refine pure_ (i := 12) (N := some 11) (v := ?_) (a' := ?_) #[true, true, true, true, true, true, true, true, true, true, true, true, true] rfl rfl (any_of HT_.out (by kernel_rfl)) (fun _ _ _ h => h) (Or.inl ⟨by rfl, ?_⟩) ?_ ?_
                                  rotate_left
                                  · intro w'
                                    go_simp
                                    with_reducible rfl
                                  rotate_left
                                  · simp only [Act.put, List.setIfInBounds_toArray, List.set_cons_zero, List.set_cons_succ, i64_w, i32_w]
                                    rfl
                                  refine done_ (done_of HT_.out (by kernel_rfl)) ?_
                                  obtain ⟨w66, hw⟩ : ∃ w_, w_ = ((((w59.setCell ⟨gb235, 0, none⟩ (.slice Ao60 t226.length co60)).setCell ⟨gb235, 1, none⟩ (.bool t229)).setCell ⟨gb235, 2, none⟩ (.int .i64 t230)).setCell ⟨gb235, 3, none⟩ (.slice Ao64 t231.length co64)) := ⟨_, rfl⟩
                                  rw [← hw]
                                  replace HO_211000 := vS (fun k_ => k_ ≠ gb210 ∧ k_ ≠ gb235) HO_211000 hw
                                  replace HO_211003 := vS (fun k_ => k_ ≠ gb210 ∧ k_ ≠ gb235) HO_211003 hw
                                  replace HO228 := vS (fun k_ => k_ ≠ gb210 ∧ k_ ≠ gb235) HO228 hw
                                  replace HO233 := vS (fun k_ => k_ ≠ gb210 ∧ k_ ≠ gb235) HO233 hw
                                  replace BK210 := kS BK210 hw
                                  replace BK235 := kP4 BK235 hw
                                  replace HB := hS HB hw
                                  clear hw
                                  have hnb67 := NB235_210.out
                                  have hnc67 := NB210_235.out
                                  obtain ⟨hcz68_0, hcz68_1, hcz68_2, hcz68_3, hfz68_0, hfz68_1, hfz68_2, hfz68_3⟩ := bc4 BK235
                                  obtain ⟨hcz69_0, hcz69_1, hcz69_2, hcz69_3, hfz69_0, hfz69_1, hfz69_2, hfz69_3⟩ := bc4 BK210
                                  try go_wp2_with (first | ((with_reducible refine gate_store (t := 27) (p := 4) rfl ?_); refine store_event (t := 27) (p := 4) (v := ?vo_w70) (w1 := ((((w66.setCell ⟨gb210, 0, none⟩ (.slice Ao60 t226.length co60)).setCell ⟨gb210, 1, none⟩ (.bool t229)).setCell ⟨gb210, 2, none⟩ (.int .i64 t230)).setCell ⟨gb210, 3, none⟩ (.slice Ao64 t231.length co64))) ?hg ?ho ?hn ?hr ?_; (case ho => rfl); (case hg => rfl); (case hn => rfl); (case hr => first | (go_simp; done) | (go_simp; rfl)); intro w70 hw; have n0_ : Aside0 (Kd.V (Kd.int .u8) 5 w70 w.heap.size (fun k_ => k_ ≠ gb210 ∧ k_ ≠ gb235) (.slice Ao54 x211000_9.length co54) x211000_9) := ⟨(by rw [hw]; exact (vX HO_211000))⟩; have n1_ : Aside0 (Kd.V (Kd.int .u8) 5 w70 w.heap.size (fun k_ => k_ ≠ gb210 ∧ k_ ≠ gb235) (.slice Ao55 x211003_9.length co55) x211003_9) := ⟨(by rw [hw]; exact (vX HO_211003))⟩; have n2_ : Aside0 (Kd.V (Kd.int .u8) 5 w70 w.heap.size (fun k_ => k_ ≠ gb210 ∧ k_ ≠ gb235) (.slice Ao60 t226.length co60) t226) := ⟨(by rw [hw]; exact (vX HO228))⟩; have n3_ : Aside0 (Kd.V (Kd.int .u8) 5 w70 w.heap.size (fun k_ => k_ ≠ gb210 ∧ k_ ≠ gb235) (.slice Ao64 t231.length co64) t231) := ⟨(by rw [hw]; exact (vX HO233))⟩; have n4_ : Aside0 (w70.heap[gb210]? = some (.cells #[.slice Ao60 t226.length co60, .bool t229, .int .i64 t230, .slice Ao64 t231.length co64] 27 (0, 0))) := ⟨(by rw [hw]; exact (by (with_reducible repeat (first | refine blk_drewN ?_ _ | refine blk_drew ?_ | refine blk_alloc ?_ _)); refine blk_put (cs := #[.slice Ao60 t226.length co60, .bool t229, .int .i64 t230, .slice Ao55 x211003_9.length co55]) ?_ 3 _ rfl; (with_reducible repeat (first | refine blk_drewN ?_ _ | refine blk_drew ?_ | refine blk_alloc ?_ _)); refine blk_put (cs := #[.slice Ao60 t226.length co60, .bool t229, .int .i64 x211002_9, .slice Ao55 x211003_9.length co55]) ?_ 2 _ rfl; (with_reducible repeat (first | refine blk_drewN ?_ _ | refine blk_drew ?_ | refine blk_alloc ?_ _)); refine blk_put (cs := #[.slice Ao60 t226.length co60, .bool x211001_9, .int .i64 x211002_9, .slice Ao55 x211003_9.length co55]) ?_ 1 _ rfl; (with_reducible repeat (first | refine blk_drewN ?_ _ | refine blk_drew ?_ | refine blk_alloc ?_ _)); refine blk_put (cs := #[.slice Ao54 x211000_9.length co54, .bool x211001_9, .int .i64 x211002_9, .slice Ao55 x211003_9.length co55]) ?_ 0 _ rfl; (with_reducible repeat (first | refine blk_drewN ?_ _ | refine blk_drew ?_ | refine blk_alloc ?_ _)); exact BK210.out))⟩; have n5_ : Aside0 (w70.heap[gb235]? = some (.cells #[.slice Ao60 t226.length co60, .bool t229, .int .i64 t230, .slice Ao64 t231.length co64] 27 (0, 0))) := ⟨(by rw [hw]; exact (kX BK235))⟩; have n6_ : Aside0 (Below w.heap.size w w70) := ⟨(by rw [hw]; exact (bb HB))⟩; clear hw; clear HO_211000; clear HO_211003; clear HO228; clear HO233; clear BK210; clear BK235; clear HB; have HO_211000 := n0_; have HO_211003 := n1_; have HO228 := n2_; have HO233 := n3_; have BK210 := n4_; have BK235 := n5_; have HB := n6_; clear n0_ n1_ n2_ n3_ n4_ n5_ n6_; have p236 : 0 ≤ (x7_1 : Int) := of_decide_eq_true (by first | (with_reducible assumption) | assumption); have q236 : x7_1 < (l0.length : Int) := of_decide_eq_true (by first | (with_reducible assumption) | assumption); obtain ⟨ad236, A236_2, c236_2, e236, hx236_0, hx236_1, hx236_2, hl236_2, hi236_2⟩ := at_T29 HR0.out x7_1 p236 q236; obtain rfl : ad211 = ad236 := (by injection e236); replace hx236_0 := (HB.out.cell (World.block_lt_of_cell? w _ hx236_0)).trans hx236_0; replace hx236_1 := (HB.out.cell (World.block_lt_of_cell? w _ hx236_1)).trans hx236_1; replace hx236_2 := (HB.out.cell (World.block_lt_of_cell? w _ hx236_2)).trans hx236_2; have HR236_2 := Aside0.mk hi236_2; have HC236_2 := Aside0.mk hl236_2; clear hi236_2 hl236_2; replace p236 := eq_true p236; replace q236 := eq_true q236; have p237 : 0 ≤ (x7_1 : Int) := of_decide_eq_true (by first | (with_reducible assumption) | assumption); have q237 : x7_1 < (l0.length : Int) := of_decide_eq_true (by first | (with_reducible assumption) | assumption); obtain ⟨ad237, A237_2, c237_2, e237, hx237_0, hx237_1, hx237_2, hl237_2, hi237_2⟩ := at_T29 HR0.out x7_1 p237 q237; obtain rfl : ad211 = ad237 := (by injection e237); replace hx237_0 := (HB.out.cell (World.block_lt_of_cell? w _ hx237_0)).trans hx237_0; replace hx237_1 := (HB.out.cell (World.block_lt_of_cell? w _ hx237_1)).trans hx237_1; replace hx237_2 := (HB.out.cell (World.block_lt_of_cell? w _ hx237_2)).trans hx237_2; have HR237_2 := Aside0.mk hi237_2; have HC237_2 := Aside0.mk hl237_2; clear hi237_2 hl237_2; replace p237 := eq_true p237; replace q237 := eq_true q237; have ea_ := Option.some.inj (hx236_2.symm.trans hx237_2); injection ea_ with ea_ en_ ec_; subst ea_; subst ec_; clear en_; obtain ⟨i071, hi071, _, hsz71, _⟩ := info_parts info5; obtain ⟨hcut71, hA71, hC71⟩ := print_take_of (P := Try.prog) (Value.int .u8) 0 25 5 .i64 Try.underlying25 hi071 hsz71 A236_2 c236_2 ((rd_T29 l0 x7_1).f2) t234 (of_decide_eq_true (by first | (with_reducible assumption) | assumption)) (of_decide_eq_true (by first | (with_reducible assumption) | assumption)) HC237_2.out; have HR238 := Aside0.mk (Kd.C_of_reads (h1 := fun _ => rfl) (hA71 _ (Kd.reads_of_C HR237_2.out))); have HC238 := Aside0.mk hC71; clear hA71 hC71 hi071 hsz71; have hcv72 := Kd.C_string (P := Try.prog) (A := A236_2) (c := c236_2) Try.underlying25 Try.underlying5 Try.underlying9 (Kd.C_below HR238.out HB.out))); have hcv72_ := hcv72; (try rw [show (List.take (t234 : Int).toNat ((rd_T29 l0 x7_1).f2)).length = (t234 : Int).toNat from by rw [List.length_take]; have q1 : t234 ≤ (((rd_T29 l0 x7_1).f2).length : Int) := of_decide_eq_true (by first | (with_reducible assumption) | assumption); omega] at hcv72_); (try (rw [hcv72_]; go_upon; go_step; go_step; go_simp))
                                  (try go_step)
                                  (try go_wp2)
                                  go_meet
                                  case rel => exact ⟨_, (x6_1 ++ (strOfNums (((rd_T29 l0 x7_1).f2).take (t234 : Int).toNat))), (t226), (t229), (t230), (t231), (.slice Ao60 t226.length co60), (.slice Ao64 t231.length co64), (by first | rfl | (simp; done) | (simp [*]; done)), H', ⟨by have := HK1.out; have := HJ9.out; first | omega | exact Nat.le_refl _⟩, ⟨vM HO228⟩, ⟨vM HO233⟩, ⟨kk BK210⟩, ⟨bb HB⟩⟩
                                · rw [if_neg c53] at H
                                  exact absurd H (by simp)
                              · rw [if_neg c52] at H
                                exact absurd H (by simp)
                            · rw [if_neg c51] at H
                              exact absurd H (by simp)
                      · rw [if_neg c47] at H
                        have c47b0 : (((rd_T29 l0 x7_1).f0) == 3) = false := beq_eq_false_iff_ne.mpr c47
                        have c47b1 : (((rd_T29 l0 x7_1).f0) != 3) = true := bne_iff_ne.mpr c47
                        (first | rw [c47b0] | (simp only [i64_w, i32_w]; rw [c47b0]) | skip)
                        have H' := Aside0.mk H
                        clear H
                        go_wp2
                        go_meet
                        case rel => exact ⟨_, (x6_1), (x211000_9), (x211001_9), (x211002_9), (x211003_9), (u211000), (u211003), (by first | rfl | (simp; done) | (simp [*]; done)), H', ⟨by have := HK1.out; have := HJ9.out; first | omega | exact Nat.le_refl _⟩, ⟨vM HO_211000⟩, ⟨vM HO_211003⟩, ⟨kk BK210⟩, ⟨bb HB⟩⟩
                    case rest =>
                      clear HC46
                      try clear c1
                      try clear c2
                      try clear p2
                      try clear q2
                      try clear hx2
                      try clear c4
                      try clear c5
                      try clear c6
                      try clear p6
                      try clear hcv7
                      try clear c11
                      try clear c11b0
                      try clear c11b1
                      try clear c12
                      try clear c13
                      try clear c13b0
                      try clear c13b1
                      try clear c21
                      try clear p21
                      try clear q21
                      try clear hx21
                      try clear c22
                      try clear p22
                      try clear q22
                      try clear hx22
                      try clear c23
                      try clear p23
                      try clear q23
                      try clear hx23
                      try clear c26
                      try clear c41
                      try clear c44
                      try clear c44b0
                      try clear c45
                      try clear c45b0
                      try clear c47
                      try clear c47b0
                      try clear c47b1
                      try clear c49
                      try clear c49b0
                      try clear c50
                      try clear c50b0
                      try clear c51
                      try clear c51b0
                      try clear c51b1
                      try clear c52
                      try clear c52b0
                      try clear c52b1
                      try clear c53
                      try clear c53b0
                      try clear c53b1
                      try clear c53b2
                      try clear c67
                      try clear hcv72
                      try clear hcz27_0
                      try clear hcz27_1
                      try clear hcz27_2
                      try clear hcz27_3
                      try clear hcz28_0
                      try clear hcz28_1
                      try clear hcz28_2
                      try clear hcz28_3
                      try clear hcz42_0
                      try clear hcz42_1
                      try clear hcz42_2
                      try clear hcz42_3
                      try clear hcz43_0
                      try clear hcz43_1
                      try clear hcz43_2
                      try clear hcz43_3
                      try clear hcz68_0
                      try clear hcz68_1
                      try clear hcz68_2
                      try clear hcz68_3
                      try clear hcz69_0
                      try clear hcz69_1
                      try clear hcz69_2
                      try clear hcz69_3
                      try clear hfz27_0
                      try clear hfz27_1
                      try clear hfz27_2
                      try clear hfz27_3
                      try clear hfz28_0
                      try clear hfz28_1
                      try clear hfz28_2
                      try clear hfz28_3
                      try clear hfz42_0
                      try clear hfz42_1
                      try clear hfz42_2
                      try clear hfz42_3
                      try clear hfz43_0
                      try clear hfz43_1
                      try clear hfz43_2
                      try clear hfz43_3
                      try clear hfz68_0
                      try clear hfz68_1
                      try clear hfz68_2
                      try clear hfz68_3
                      try clear hfz69_0
                      try clear hfz69_1
                      try clear hfz69_2
                      try clear hfz69_3
                      try clear hx212_0
                      try clear hx212_1
                      try clear hx212_2
                      try clear hx223_0
                      try clear hx223_1
                      try clear hx223_2
                      try clear hx224_0
                      try clear hx224_1
                      try clear hx224_2
                      try clear hx225_0
                      try clear hx225_1
                      try clear hx225_2
                      try clear hx236_0
                      try clear hx236_1
                      try clear hx236_2
                      try clear hx237_0
                      try clear hx237_1
                      try clear hx237_2
                      try clear p2
                      try clear p21
                      try clear p212
                      try clear p22
                      try clear p223
                      try clear p224
                      try clear p225
                      try clear p236
                      try clear p237
                      try clear p6
                      try clear q2
                      try clear q21
                      try clear q212
                      try clear q22
                      try clear q223
                      try clear q224
                      try clear q225
                      try clear q236
                      try clear q237
                      obtain ⟨kq, x6_45, x211000_45, x211001_45, x211002_45, x211003_45, u211000, u211003, rfl, HA, HJ45, HO_211000, HO_211003, BK210, HB⟩ := hcut
                      cases kq with
                      | zero => exact absurd HA.out (by simp [pentroughlaw19_WireGrants.j2])
                      | succ kj45 =>
                        have H := HA.out
                        clear HA
                        simp only [pentroughlaw19_WireGrants.j2] at H
                        by_cases c73 : 0 ≤ x7_1
                        · rw [if_pos c73] at H
                          have c73b0 : decide (0 ≤ x7_1) = true := decide_eq_true c73
                          clear c73
                          by_cases c74 : x7_1 < (l0.length : Int)
                          · rw [if_pos c74] at H
                            have c74b0 : decide (x7_1 < (l0.length : Int)) = true := decide_eq_true c74
                            clear c74
                            by_cases c75 : ((rd_T29 l0 x7_1).f0) = 0
                            · rw [if_pos c75] at H
                              have c75b0 : (((rd_T29 l0 x7_1).f0) == 0) = true := beq_iff_eq.mpr c75
                              have c75b1 : (((rd_T29 l0 x7_1).f0) != 0) = false := bne_eq_false_iff_eq.mpr c75
                              clear c75
                              obtain ⟨⟨t241, t244, t245, t246, t249⟩, A76, H⟩ := ob H
                              dsimp only at H
                              by_cases c77 : (strOfNums t246).toList = x6_45.toList
                              · rw [if_pos c77] at H
                                have c77b0 : ((strOfNums t246).toList == x6_45.toList) = true := beq_iff_eq.mpr c77
                                have c77b1 : ((strOfNums t246).toList != x6_45.toList) = false := bne_eq_false_iff_eq.mpr c77
                                clear c77
                                by_cases c78 : (wrap64 ((x6_45.size : Int) + t245)) = x5_9
                                · rw [if_pos c78] at H
                                  have c78b0 : ((wrap64 ((x6_45.size : Int) + t245)) == x5_9) = true := beq_iff_eq.mpr c78
                                  have c78b1 : ((wrap64 ((x6_45.size : Int) + t245)) != x5_9) = false := bne_eq_false_iff_eq.mpr c78
                                  clear c78
                                  by_cases c79 : t245 < 0
                                  · rw [if_pos c79] at H
                                    have c79b0 : decide (t245 < 0) = true := decide_eq_true c79
                                    clear c79
                                    cases H; exact absurd HRT.out (by decide)
                                  · rw [if_neg c79] at H
                                    have c79b0 : decide (t245 < 0) = false := decide_eq_false c79
                                    clear c79
                                    by_cases c80 : t245 > 4096
                                    · rw [if_pos c80] at H
                                      have c80b0 : decide (4096 < t245) = true := decide_eq_true c80
                                      clear c80
                                      cases H; exact absurd HRT.out (by decide)
                                    · rw [if_neg c80] at H
                                      have c80b0 : decide (4096 < t245) = false := decide_eq_false c80
                                      clear c80
                                      have H' := Aside0.mk H
                                      clear H
                                      have p239 : 0 ≤ (x7_1 : Int) := of_decide_eq_true (by first | (with_reducible assumption) | assumption)
                                      have q239 : x7_1 < (l0.length : Int) := of_decide_eq_true (by first | (with_reducible assumption) | assumption)
                                      obtain ⟨ad239, A239_2, c239_2, e239, hx239_0, hx239_1, hx239_2, hl239_2, hi239_2⟩ := at_T29 HR0.out x7_1 p239 q239
                                      obtain rfl : ad211 = ad239 := (by injection e239)
                                      replace hx239_0 := (HB.out.cell (World.block_lt_of_cell? w _ hx239_0)).trans hx239_0
                                      replace hx239_1 := (HB.out.cell (World.block_lt_of_cell? w _ hx239_1)).trans hx239_1
                                      replace hx239_2 := (HB.out.cell (World.block_lt_of_cell? w _ hx239_2)).trans hx239_2
                                      have HR239_2 := Aside0.mk hi239_2
                                      have HC239_2 := Aside0.mk hl239_2
                                      clear hi239_2 hl239_2
                                      replace p239 := eq_true p239
                                      replace q239 := eq_true q239
                                      obtain ⟨Ao81, co81, eo81⟩ := Kd.V_slice HO_211000.out
                                      subst eo81
                                      obtain ⟨Ao82, co82, eo82⟩ := Kd.V_slice HO_211003.out
                                      subst eo82
                                      try go_wp2
                                      replace HO_211000 := Aside0.mk (Kd.V_drew HO_211000.out)
                                      replace HO_211003 := Aside0.mk (Kd.V_drew HO_211003.out)
                                      replace BK210 := Aside0.mk (blk_drew BK210.out)
                                      replace HB := Aside0.mk (below_drew1 HB.out)
                                      have p240 : 0 ≤ (x7_1 : Int) := of_decide_eq_true (by first | (with_reducible assumption) | assumption)
                                      have q240 : x7_1 < (l0.length : Int) := of_decide_eq_true (by first | (with_reducible assumption) | assumption)
                                      obtain ⟨ad240, A240_2, c240_2, e240, hx240_0, hx240_1, hx240_2, hl240_2, hi240_2⟩ := at_T29 HR0.out x7_1 p240 q240
                                      have hw240_2 := hx240_2
                                      have hw240_1 := hx240_1
                                      have hw240_0 := hx240_0
                                      obtain rfl : ad211 = ad240 := (by injection e240)
                                      replace hx240_0 := (HB.out.cell (World.block_lt_of_cell? w _ hx240_0)).trans hx240_0
                                      replace hx240_1 := (HB.out.cell (World.block_lt_of_cell? w _ hx240_1)).trans hx240_1
                                      replace hx240_2 := (HB.out.cell (World.block_lt_of_cell? w _ hx240_2)).trans hx240_2
                                      have HR240_2 := Aside0.mk hi240_2
                                      have HC240_2 := Aside0.mk hl240_2
                                      clear hi240_2 hl240_2
                                      replace p240 := eq_true p240
                                      replace q240 := eq_true q240
                                      refine start_ (n := 13) (S := fun w' => w'.cell? ⟨gb210, 0, none⟩ = some (.slice Ao81 x211000_45.length co81) ∧ w'.cell? ⟨gb210, 1, none⟩ = some (.bool x211001_45) ∧ w'.cell? ⟨gb210, 2, none⟩ = some (.int .i64 x211002_45) ∧ w'.cell? ⟨gb210, 3, none⟩ = some (.slice Ao82 x211003_45.length co82) ∧ w'.cell? (ad211.add ((x7_1).toNat * 3)) = some (.int .i64 ((rd_T29 l0 x7_1).f0)) ∧ w'.cell? ⟨(ad211.add ((x7_1).toNat * 3)).block, (ad211.add ((x7_1).toNat * 3)).off + 1, none⟩ = some (.int .i64 ((rd_T29 l0 x7_1).f1)) ∧ w'.cell? ⟨(ad211.add ((x7_1).toNat * 3)).block, (ad211.add ((x7_1).toNat * 3)).off + 2, none⟩ = some (.slice A240_2 ((rd_T29 l0 x7_1).f2).length c240_2)) (ds := []) #[false, false, false, false, false, false, false, false, false, false, false, false, false] (by kernel_rfl) rfl rfl ⟨cx BK210 0, cx BK210 1, cx BK210 2, cx BK210 3, ((HB.out.cell (World.block_lt_of_cell? w _ hw240_0)).trans hw240_0), ((HB.out.cell (World.block_lt_of_cell? w _ hw240_1)).trans hw240_1), ((HB.out.cell (World.block_lt_of_cell? w _ hw240_2)).trans hw240_2)⟩ (fun hHeld => ?_); refine with_tabW pentroughlaw19_WireGrants.tab22 pentroughlaw19_WireGrants.bits22 (fun HT_ HW_ => ?_)
                                      generalize wc.drew = w83 at HO_211000 HO_211003 BK210 HB HR240_2 hx240_0 hx240_1 hx240_2 hHeld ⊢
                                      refine pure_ (i := 1) (N := some 99) (v := ?_) (a' := ?_) #[false, true, false, false, false, false, false, false, false, false, false, false, false] rfl rfl (any_of HT_.out (by kernel_rfl)) (fun _ _ _ h => h) (Or.inl ⟨by rfl, ?_⟩) ?_ ?_
                                      rotate_left
                                      · intro w'
                                        go_simp
                                        with_reducible rfl
                                      rotate_left
                                      · simp only [Act.put, List.setIfInBounds_toArray, List.set_cons_zero, List.set_cons_succ, i64_w, i32_w]
                                        rfl
                                      refine pure_ (i := 2) (N := some 100) (v := ?_) (a' := ?_) #[false, true, true, false, false, false, false, false, false, false, false, false, false] rfl rfl (any_of HT_.out (by kernel_rfl)) (fun _ _ _ h => h) (Or.inl ⟨by rfl, ?_⟩) ?_ ?_
                                      rotate_left
                                      · intro w'
                                        go_simp
                                        with_reducible rfl
                                      rotate_left
                                      · simp only [Act.put, List.setIfInBounds_toArray, List.set_cons_zero, List.set_cons_succ, i64_w, i32_w]
                                        rfl
                                      refine pure_ (i := 3) (N := some 101) (v := ?_) (a' := ?_) #[false, true, true, true, false, false, false, false, false, false, false, false, false] rfl rfl (any_of HT_.out (by kernel_rfl)) (fun _ _ _ h => h) (Or.inl ⟨by rfl, ?_⟩) ?_ ?_
                                      rotate_left
                                      · intro w'
                                        go_simp
                                        with_reducible rfl
                                      rotate_left
                                      · simp only [Act.put, List.setIfInBounds_toArray, List.set_cons_zero, List.set_cons_succ, i64_w, i32_w]
                                        rfl
                                      refine pure_ (i := 4) (N := some 102) (v := ?_) (a' := ?_) #[false, true, true, true, true, false, false, false, false, false, false, false, false] rfl rfl (any_of HT_.out (by kernel_rfl)) (fun _ _ _ h => h) (Or.inl ⟨by rfl, ?_⟩) ?_ ?_
                                      rotate_left
                                      · intro w'
                                        go_simp
                                        with_reducible rfl
                                      rotate_left
                                      · simp only [Act.put, List.setIfInBounds_toArray, List.set_cons_zero, List.set_cons_succ, i64_w, i32_w]
                                        rfl
                                      refine take_ (i := 0) (N := some 98) (v := ?_) (a' := ?_) #[true, true, true, true, true, false, false, false, false, false, false, false, false] rfl rfl (take_ofW HT_.out HW_.out (by kernel_rfl)) (fun _ _ _ h => h) (Or.inl ⟨by rfl, ?_⟩) hHeld ?_ ?_
                                      rotate_left
                                      · rintro w' ⟨s0, s1, s2, s3, s4, s5, s6⟩
                                        go_simp
                                        with_reducible rfl
                                      rotate_left
                                      · simp only [Act.put, List.setIfInBounds_toArray, List.set_cons_zero, List.set_cons_succ, i64_w, i32_w]
                                        rfl
                                      refine take_ (i := 5) (N := some 103) (v := ?_) (a' := ?_) #[true, true, true, true, true, true, false, false, false, false, false, false, false] rfl rfl (take_ofW HT_.out HW_.out (by kernel_rfl)) (fun _ _ _ h => h) (Or.inl ⟨by rfl, ?_⟩) hHeld ?_ ?_
                                      rotate_left
                                      · rintro w' ⟨s0, s1, s2, s3, s4, s5, s6⟩
                                        go_simp
                                        with_reducible rfl
                                      rotate_left
                                      · simp only [Act.put, List.setIfInBounds_toArray, List.set_cons_zero, List.set_cons_succ, i64_w, i32_w]
                                        rfl
                                      refine join_ (σ := Value × Value × Nat) 2 #[true, true, true, true, true, true, true, true, true, true, true, false, false] (fun s_ => [(104, .tuple #[.agg #[s_.1, .bool t244, .int .i64 t245, s_.2.1], .int .i64 t249]), (12, .pointer (some ⟨s_.2.2, 0, none⟩)), (97, .tuple #[.agg #[s_.1, .bool t244, .int .i64 t245, s_.2.1], .int .i64 t249]), (105, .agg #[s_.1, .bool t244, .int .i64 t245, s_.2.1]), (106, .int .i64 t249)]) (fun s_ w' => (w'.cell? ⟨gb210, 0, none⟩ = some (.slice Ao81 x211000_45.length co81) ∧ w'.cell? ⟨gb210, 1, none⟩ = some (.bool x211001_45) ∧ w'.cell? ⟨gb210, 2, none⟩ = some (.int .i64 x211002_45) ∧ w'.cell? ⟨gb210, 3, none⟩ = some (.slice Ao82 x211003_45.length co82) ∧ w'.cell? (ad211.add ((x7_1).toNat * 3)) = some (.int .i64 ((rd_T29 l0 x7_1).f0)) ∧ w'.cell? ⟨(ad211.add ((x7_1).toNat * 3)).block, (ad211.add ((x7_1).toNat * 3)).off + 1, none⟩ = some (.int .i64 ((rd_T29 l0 x7_1).f1)) ∧ w'.cell? ⟨(ad211.add ((x7_1).toNat * 3)).block, (ad211.add ((x7_1).toNat * 3)).off + 2, none⟩ = some (.slice A240_2 ((rd_T29 l0 x7_1).f2).length c240_2)) ∧ (Kd.V (Kd.int .u8) 5 w' w.heap.size (fun k_ => k_ ≠ gb210 ∧ k_ ≠ s_.2.2) s_.1 t241) ∧ (Kd.V (Kd.int .u8) 5 w' w.heap.size (fun k_ => k_ ≠ gb210 ∧ k_ ≠ s_.2.2) s_.2.1 t246) ∧ (Kd.V (Kd.int .u8) 5 w' w.heap.size (fun k_ => k_ ≠ gb210 ∧ k_ ≠ s_.2.2) (.slice Ao81 x211000_45.length co81) x211000_45) ∧ (Kd.V (Kd.int .u8) 5 w' w.heap.size (fun k_ => k_ ≠ gb210 ∧ k_ ≠ s_.2.2) (.slice Ao82 x211003_45.length co82) x211003_45) ∧ (w'.heap[gb210]? = some (.cells #[.slice Ao81 x211000_45.length co81, .bool x211001_45, .int .i64 x211002_45, .slice Ao82 x211003_45.length co82] 27 (0, 0))) ∧ (w'.heap[s_.2.2]? = some (.cells #[.slice none 0 0, .bool false, .int .i64 0, .slice none 0 0] 27 (0, 0))) ∧ (w.heap.size ≤ s_.2.2) ∧ (w.heap.size ≤ s_.2.2) ∧ (gb210 ≠ s_.2.2) ∧ (s_.2.2 ≠ gb210) ∧ (Below w.heap.size w w')) ?_ ?_
                                      rotate_left
                                      · intro hCont
                                        refine two_ (i := 6) (j := 10) (Ni := some 104) (Nj := some 12) #[true, true, true, true, true, true, true, false, false, false, false, false, false] #[true, true, true, true, true, true, false, false, false, false, true, false, false] rfl rfl rfl rfl (two_of HT_.out (by kernel_rfl)) (by decide) (by decide) (fun K hK => ?_) (fun K hK => ?_)
                                        · skip
                                          refine gs Try.func13 (by kernel_rfl) rfl #[.agg #[.slice Ao81 x211000_45.length co81, .bool x211001_45, .int .i64 x211002_45, .slice Ao82 x211003_45.length co82], .slice A240_2 ((rd_T29 l0 x7_1).f2).length c240_2] (by rfl) rfl rfl ?_
                                          with_reducible refine (wire_Arrive.calls (fun k_ => k_ ≠ gb210) _ _ x211000_45 x211001_45 x211002_45 (fun k_ => k_ ≠ gb210) _ _ x211003_45 _ _ ((rd_T29 l0 x7_1).f2) t241 t244 t245 t246 t249 _ ?side1 ?side2 ?side3 ?side4 A76.out).mono ?_
                                          (case side1 => exact HO_211000.out)
                                          (case side2 => exact HO_211003.out)
                                          (case side3 => exact Kd.C_below HR240_2.out (bb HB))
                                          (case side4 => exact HC240_2.out)
                                          rintro e w84 ⟨v242, v247, rfl, ho0, ho1, hb⟩
                                          refine ⟨_, rfl, ?_⟩
                                          replace HO_211000 := vB HO_211000 hb
                                          replace HO_211003 := vB HO_211003 hb
                                          have HO243 := Aside0.mk (Kd.V_lower (Kd.V_mono (ok' := fun k_ => k_ ≠ gb210) ho0 (fun k_ hk_ => oe hk_ (fun h => h) (fun h => h) (Kd.freshB (kk BK210) k_))) (below_size (bb HB)))
                                          have HO248 := Aside0.mk (Kd.V_lower (Kd.V_mono (ok' := fun k_ => k_ ≠ gb210) ho1 (fun k_ hk_ => oe hk_ (fun h => h) (fun h => h) (Kd.freshB (kk BK210) k_))) (below_size (bb HB)))
                                          replace BK210 := kB BK210 hb
                                          replace HB := hB HB hb
                                          (try clear hb)
                                          (try clear hb2)
                                          (try clear hk)
                                          (try clear hi)
                                          (try clear ho0)
                                          (try clear ho1)
                                          refine hK.out _ _ ⟨cx BK210 0, cx BK210 1, cx BK210 2, cx BK210 3, ((HB.out.cell (World.block_lt_of_cell? w _ hw240_0)).trans hw240_0), ((HB.out.cell (World.block_lt_of_cell? w _ hw240_1)).trans hw240_1), ((HB.out.cell (World.block_lt_of_cell? w _ hw240_2)).trans hw240_2)⟩ (fun hHeld => ?_)
                                          clear hK K
                                          refine norm_ (a' := ?_) ?_ ?_
                                          rotate_left
                                          · show Act.put _ (some 104) _ = _
                                            simp only [Act.put, List.setIfInBounds_toArray, List.set_cons_zero, List.set_cons_succ, i64_w, i32_w]
                                            rfl
                                          refine pure_ (i := 7) (N := some 97) (v := ?_) (a' := ?_) #[true, true, true, true, true, true, true, true, false, false, false, false, false] rfl rfl (any_of HT_.out (by kernel_rfl)) (fun _ _ _ h => h) (Or.inl ⟨by rfl, ?_⟩) ?_ ?_
                                          rotate_left
                                          · intro w'
                                            go_simp
                                            with_reducible rfl
                                          rotate_left
                                          · simp only [Act.put, List.setIfInBounds_toArray, List.set_cons_zero, List.set_cons_succ, i64_w, i32_w]
                                            rfl
                                          refine pure_ (i := 8) (N := some 105) (v := ?_) (a' := ?_) #[true, true, true, true, true, true, true, true, true, false, false, false, false] rfl rfl (any_of HT_.out (by kernel_rfl)) (fun _ _ _ h => h) (Or.inl ⟨by rfl, ?_⟩) ?_ ?_
                                          rotate_left
                                          · intro w'
                                            go_simp
                                            with_reducible rfl
                                          rotate_left
                                          · simp only [Act.put, List.setIfInBounds_toArray, List.set_cons_zero, List.set_cons_succ, i64_w, i32_w]
                                            rfl
                                          refine pure_ (i := 9) (N := some 106) (v := ?_) (a' := ?_) #[true, true, true, true, true, true, true, true, true, true, false, false, false] rfl rfl (any_of HT_.out (by kernel_rfl)) (fun _ _ _ h => h) (Or.inl ⟨by rfl, ?_⟩) ?_ ?_
                                          rotate_left
                                          · intro w'
                                            go_simp
                                            with_reducible rfl
                                          rotate_left
                                          · simp only [Act.put, List.setIfInBounds_toArray, List.set_cons_zero, List.set_cons_succ, i64_w, i32_w]
                                            rfl
                                          refine one_ (i := 10) (N := some 12) #[true, true, true, true, true, true, true, true, true, true, true, false, false] rfl rfl (one_of HT_.out (by kernel_rfl)) (by decide) (fun K hK => ?_)
                                          refine box_step ?hg (N := 12) ?hd (cs := #[.slice none 0 0, .bool false, .int .i64 0, .slice none 0 0]) (t := 27) ?hr ?_; (case hd => rfl); (case hg => rfl); (case hr => first | (go_simp; done) | (go_simp; rfl))
                                          intro gb250 hg w85 hbox hb
                                          replace HO_211000 := vE HO_211000 hg hb
                                          replace HO_211003 := vE HO_211003 hg hb
                                          replace HO243 := vE HO243 hg hb
                                          replace HO248 := vE HO248 hg hb
                                          have BK250 := Aside0.mk hbox
                                          have GW250 := gE HB hg
                                          have GE250 := gE HB hg
                                          replace HB := hB HB hb
                                          have NB210_250 := nL BK210 hg
                                          have NB250_210 := nG BK210 hg
                                          replace BK210 := kB BK210 hb
                                          clear hb hbox hg
                                          refine hK.out _ _ ⟨cx BK210 0, cx BK210 1, cx BK210 2, cx BK210 3, ((HB.out.cell (World.block_lt_of_cell? w _ hw240_0)).trans hw240_0), ((HB.out.cell (World.block_lt_of_cell? w _ hw240_1)).trans hw240_1), ((HB.out.cell (World.block_lt_of_cell? w _ hw240_2)).trans hw240_2)⟩ (fun hHeld => ?_)
                                          clear hK K
                                          refine norm_ (a' := ?_) ?_ ?_
                                          rotate_left
                                          · show Act.put _ (some 12) _ = _
                                            simp only [Act.put, List.setIfInBounds_toArray, List.set_cons_zero, List.set_cons_succ, i64_w, i32_w]
                                            rfl
                                          exact norm_ (by simp only [putAll, Act.put, List.setIfInBounds_toArray, List.set_cons_zero, List.set_cons_succ]) (hCont (v242, v247, gb250) _ ⟨hHeld, (vM HO243), (vM HO248), (vM HO_211000), (vM HO_211003), (kk BK210), (kk BK250), GW250.out, GE250.out, NB210_250.out, NB250_210.out, (bb HB)⟩)
                                        · skip
                                          refine box_step ?hg (N := 12) ?hd (cs := #[.slice none 0 0, .bool false, .int .i64 0, .slice none 0 0]) (t := 27) ?hr ?_; (case hd => rfl); (case hg => rfl); (case hr => first | (go_simp; done) | (go_simp; rfl))
                                          intro gb250 hg w84 hbox hb
                                          replace HO_211000 := vE HO_211000 hg hb
                                          replace HO_211003 := vE HO_211003 hg hb
                                          have BK250 := Aside0.mk hbox
                                          have GW250 := gE HB hg
                                          have GE250 := gE HB hg
                                          replace HB := hB HB hb
                                          have NB210_250 := nL BK210 hg
                                          have NB250_210 := nG BK210 hg
                                          replace BK210 := kB BK210 hb
                                          clear hb hbox hg
                                          refine hK.out _ _ ⟨cx BK210 0, cx BK210 1, cx BK210 2, cx BK210 3, ((HB.out.cell (World.block_lt_of_cell? w _ hw240_0)).trans hw240_0), ((HB.out.cell (World.block_lt_of_cell? w _ hw240_1)).trans hw240_1), ((HB.out.cell (World.block_lt_of_cell? w _ hw240_2)).trans hw240_2)⟩ (fun hHeld => ?_)
                                          clear hK K
                                          refine norm_ (a' := ?_) ?_ ?_
                                          rotate_left
                                          · show Act.put _ (some 12) _ = _
                                            simp only [Act.put, List.setIfInBounds_toArray, List.set_cons_zero, List.set_cons_succ, i64_w, i32_w]
                                            rfl
                                          refine one_ (i := 6) (N := some 104) #[true, true, true, true, true, true, true, false, false, false, true, false, false] rfl rfl (one_of HT_.out (by kernel_rfl)) (by decide) (fun K hK => ?_)
                                          refine gs Try.func13 (by kernel_rfl) rfl #[.agg #[.slice Ao81 x211000_45.length co81, .bool x211001_45, .int .i64 x211002_45, .slice Ao82 x211003_45.length co82], .slice A240_2 ((rd_T29 l0 x7_1).f2).length c240_2] (by rfl) rfl rfl ?_
                                          with_reducible refine (wire_Arrive.calls (fun k_ => (k_ ≠ gb210 ∧ k_ ≠ gb250)) _ _ x211000_45 x211001_45 x211002_45 (fun k_ => (k_ ≠ gb210 ∧ k_ ≠ gb250)) _ _ x211003_45 _ _ ((rd_T29 l0 x7_1).f2) t241 t244 t245 t246 t249 _ ?side1 ?side2 ?side3 ?side4 A76.out).mono ?_
                                          (case side1 => exact HO_211000.out)
                                          (case side2 => exact HO_211003.out)
                                          (case side3 => exact Kd.C_below HR240_2.out (bb HB))
                                          (case side4 => exact HC240_2.out)
                                          rintro e w85 ⟨v242, v247, rfl, ho0, ho1, hb⟩
                                          refine ⟨_, rfl, ?_⟩
                                          replace HO_211000 := vB HO_211000 hb
                                          replace HO_211003 := vB HO_211003 hb
                                          have HO243 := Aside0.mk (Kd.V_lower (Kd.V_mono (ok' := fun k_ => k_ ≠ gb210 ∧ k_ ≠ gb250) ho0 (fun k_ hk_ => ⟨oe hk_ (fun h => h.1) (fun h => h.1) (Kd.freshB (kk BK210) k_), oe hk_ (fun h => h.2) (fun h => h.2) (Kd.freshB (kk BK250) k_)⟩)) (below_size (bb HB)))
                                          have HO248 := Aside0.mk (Kd.V_lower (Kd.V_mono (ok' := fun k_ => k_ ≠ gb210 ∧ k_ ≠ gb250) ho1 (fun k_ hk_ => ⟨oe hk_ (fun h => h.1) (fun h => h.1) (Kd.freshB (kk BK210) k_), oe hk_ (fun h => h.2) (fun h => h.2) (Kd.freshB (kk BK250) k_)⟩)) (below_size (bb HB)))
                                          replace BK210 := kB BK210 hb
                                          replace BK250 := kB BK250 hb
                                          replace HB := hB HB hb
                                          (try clear hb)
                                          (try clear hb2)
                                          (try clear hk)
                                          (try clear hi)
                                          (try clear ho0)
                                          (try clear ho1)
                                          refine hK.out _ _ ⟨cx BK210 0, cx BK210 1, cx BK210 2, cx BK210 3, ((HB.out.cell (World.block_lt_of_cell? w _ hw240_0)).trans hw240_0), ((HB.out.cell (World.block_lt_of_cell? w _ hw240_1)).trans hw240_1), ((HB.out.cell (World.block_lt_of_cell? w _ hw240_2)).trans hw240_2)⟩ (fun hHeld => ?_)
                                          clear hK K
                                          refine norm_ (a' := ?_) ?_ ?_
                                          rotate_left
                                          · show Act.put _ (some 104) _ = _
                                            simp only [Act.put, List.setIfInBounds_toArray, List.set_cons_zero, List.set_cons_succ, i64_w, i32_w]
                                            rfl
                                          refine pure_ (i := 7) (N := some 97) (v := ?_) (a' := ?_) #[true, true, true, true, true, true, true, true, false, false, true, false, false] rfl rfl (any_of HT_.out (by kernel_rfl)) (fun _ _ _ h => h) (Or.inl ⟨by rfl, ?_⟩) ?_ ?_
                                          rotate_left
                                          · intro w'
                                            go_simp
                                            with_reducible rfl
                                          rotate_left
                                          · simp only [Act.put, List.setIfInBounds_toArray, List.set_cons_zero, List.set_cons_succ, i64_w, i32_w]
                                            rfl
                                          refine pure_ (i := 8) (N := some 105) (v := ?_) (a' := ?_) #[true, true, true, true, true, true, true, true, true, false, true, false, false] rfl rfl (any_of HT_.out (by kernel_rfl)) (fun _ _ _ h => h) (Or.inl ⟨by rfl, ?_⟩) ?_ ?_
                                          rotate_left
                                          · intro w'
                                            go_simp
                                            with_reducible rfl
                                          rotate_left
                                          · simp only [Act.put, List.setIfInBounds_toArray, List.set_cons_zero, List.set_cons_succ, i64_w, i32_w]
                                            rfl
                                          refine pure_ (i := 9) (N := some 106) (v := ?_) (a' := ?_) #[true, true, true, true, true, true, true, true, true, true, true, false, false] rfl rfl (any_of HT_.out (by kernel_rfl)) (fun _ _ _ h => h) (Or.inl ⟨by rfl, ?_⟩) ?_ ?_
                                          rotate_left
                                          · intro w'
                                            go_simp
                                            with_reducible rfl
                                          rotate_left
                                          · simp only [Act.put, List.setIfInBounds_toArray, List.set_cons_zero, List.set_cons_succ, i64_w, i32_w]
                                            rfl
                                          exact norm_ (by simp only [putAll, Act.put, List.setIfInBounds_toArray, List.set_cons_zero, List.set_cons_succ]) (hCont (v242, v247, gb250) _ ⟨hHeld, (vM HO243), (vM HO248), (vM HO_211000), (vM HO_211003), (kk BK210), (kk BK250), GW250.out, GE250.out, NB210_250.out, NB250_210.out, (bb HB)⟩)
                                      clear HO_211000 HO_211003 BK210 HB
                                      rintro ⟨v242, v247, gb250⟩ w86 hS_
                                      dsimp only at hS_
                                      obtain ⟨hHeld, h0_, h1_, h2_, h3_, h4_, h5_, h6_, h7_, h8_, h9_, h10_⟩ := hS_
                                      have HO243 := Aside0.mk h0_
                                      have HO248 := Aside0.mk h1_
                                      have HO_211000 := Aside0.mk h2_
                                      have HO_211003 := Aside0.mk h3_
                                      have BK210 := Aside0.mk h4_
                                      have BK250 := Aside0.mk h5_
                                      have GW250 := Aside0.mk h6_
                                      have GE250 := Aside0.mk h7_
                                      have NB210_250 := Aside0.mk h8_
                                      have NB250_210 := Aside0.mk h9_
                                      have HB := Aside0.mk h10_
                                      clear h0_ h1_ h2_ h3_ h4_ h5_ h6_ h7_ h8_ h9_ h10_
                                      obtain ⟨Ao87, co87, eo87⟩ := Kd.V_slice HO243.out
                                      (first | subst eo87 | (injection eo87 with f1_ f2_ f3_; have f4_ := f1_.symm; have f5_ := f3_.symm; clear f1_ f2_ f3_; subst f4_; subst f5_))
                                      obtain ⟨Ao91, co91, eo91⟩ := Kd.V_slice HO248.out
                                      (first | subst eo91 | (injection eo91 with f1_ f2_ f3_; have f4_ := f1_.symm; have f5_ := f3_.symm; clear f1_ f2_ f3_; subst f4_; subst f5_))
                                      refine norm_ (a' := ?_) ?_ ?_
                                      rotate_left
                                      · simp only [putAll, Act.put, List.setIfInBounds_toArray, List.set_cons_zero, List.set_cons_succ]
                                        rfl
                                      refine one_ (i := 11) (N := none) #[true, true, true, true, true, true, true, true, true, true, true, true, false] rfl rfl (one_of HT_.out (by kernel_rfl)) (by decide) (fun K hK => ?_)
                                      have hs88 : w86.cell? ⟨gb250, 0, none⟩ = some (.slice none 0 0) := cx BK250 0
                                      have hfs88 := blk_frozen BK250.out 0
                                      have hns88_0 := NB210_250.out
                                      have hms88_0 := NB250_210.out
                                      have hs89 : w86.cell? ⟨gb250, 1, none⟩ = some (.bool false) := cx BK250 1
                                      have hfs89 := blk_frozen BK250.out 1
                                      have hns89_0 := NB210_250.out
                                      have hms89_0 := NB250_210.out
                                      have hs90 : w86.cell? ⟨gb250, 2, none⟩ = some (.int .i64 0) := cx BK250 2
                                      have hfs90 := blk_frozen BK250.out 2
                                      have hns90_0 := NB210_250.out
                                      have hms90_0 := NB250_210.out
                                      have hs92 : w86.cell? ⟨gb250, 3, none⟩ = some (.slice none 0 0) := cx BK250 3
                                      have hfs92 := blk_frozen BK250.out 3
                                      have hns92_0 := NB210_250.out
                                      have hms92_0 := NB250_210.out
                                      refine skip_ (w1 := ?_) (by rfl) rfl ?_ ?_
                                      rotate_left
                                      · go_simp
                                        rfl
                                      refine hK.out _ _ ⟨((cell_far (p := ⟨gb250, _, none⟩) NB210_250.out _).trans (((cell_far (p := ⟨gb250, _, none⟩) NB210_250.out _).trans (((cell_far (p := ⟨gb250, _, none⟩) NB210_250.out _).trans (((cell_far (p := ⟨gb250, _, none⟩) NB210_250.out _).trans (hHeld.1)))))))), ((cell_far (p := ⟨gb250, _, none⟩) NB210_250.out _).trans (((cell_far (p := ⟨gb250, _, none⟩) NB210_250.out _).trans (((cell_far (p := ⟨gb250, _, none⟩) NB210_250.out _).trans (((cell_far (p := ⟨gb250, _, none⟩) NB210_250.out _).trans (hHeld.2.1)))))))), ((cell_far (p := ⟨gb250, _, none⟩) NB210_250.out _).trans (((cell_far (p := ⟨gb250, _, none⟩) NB210_250.out _).trans (((cell_far (p := ⟨gb250, _, none⟩) NB210_250.out _).trans (((cell_far (p := ⟨gb250, _, none⟩) NB210_250.out _).trans (hHeld.2.2.1)))))))), ((cell_far (p := ⟨gb250, _, none⟩) NB210_250.out _).trans (((cell_far (p := ⟨gb250, _, none⟩) NB210_250.out _).trans (((cell_far (p := ⟨gb250, _, none⟩) NB210_250.out _).trans (((cell_far (p := ⟨gb250, _, none⟩) NB210_250.out _).trans (hHeld.2.2.2.1)))))))), ((cell_far (p := ⟨gb250, _, none⟩) (by first | exact Nat.ne_of_lt (Nat.lt_of_lt_of_le (by have := World.block_lt_of_cell? _ _ hw240_0; first | rwa [add_block] at this | exact this) GW250.out) | (rw [add_block]; exact Nat.ne_of_lt (Nat.lt_of_lt_of_le (by have := World.block_lt_of_cell? _ _ hw240_0; first | rwa [add_block] at this | exact this) GW250.out)) | (show (Addr.add _ _).block ≠ _; rw [add_block]; exact Nat.ne_of_lt (Nat.lt_of_lt_of_le (by have := World.block_lt_of_cell? _ _ hw240_0; first | rwa [add_block] at this | exact this) GW250.out)) | (dsimp only; exact Nat.ne_of_lt (Nat.lt_of_lt_of_le (by have := World.block_lt_of_cell? _ _ hw240_0; first | rwa [add_block] at this | exact this) GW250.out))) _).trans (((cell_far (p := ⟨gb250, _, none⟩) (by first | exact Nat.ne_of_lt (Nat.lt_of_lt_of_le (by have := World.block_lt_of_cell? _ _ hw240_0; first | rwa [add_block] at this | exact this) GW250.out) | (rw [add_block]; exact Nat.ne_of_lt (Nat.lt_of_lt_of_le (by have := World.block_lt_of_cell? _ _ hw240_0; first | rwa [add_block] at this | exact this) GW250.out)) | (show (Addr.add _ _).block ≠ _; rw [add_block]; exact Nat.ne_of_lt (Nat.lt_of_lt_of_le (by have := World.block_lt_of_cell? _ _ hw240_0; first | rwa [add_block] at this | exact this) GW250.out)) | (dsimp only; exact Nat.ne_of_lt (Nat.lt_of_lt_of_le (by have := World.block_lt_of_cell? _ _ hw240_0; first | rwa [add_block] at this | exact this) GW250.out))) _).trans (((cell_far (p := ⟨gb250, _, none⟩) (by first | exact Nat.ne_of_lt (Nat.lt_of_lt_of_le (by have := World.block_lt_of_cell? _ _ hw240_0; first | rwa [add_block] at this | exact this) GW250.out) | (rw [add_block]; exact Nat.ne_of_lt (Nat.lt_of_lt_of_le (by have := World.block_lt_of_cell? _ _ hw240_0; first | rwa [add_block] at this | exact this) GW250.out)) | (show (Addr.add _ _).block ≠ _; rw [add_block]; exact Nat.ne_of_lt (Nat.lt_of_lt_of_le (by have := World.block_lt_of_cell? _ _ hw240_0; first | rwa [add_block] at this | exact this) GW250.out)) | (dsimp only; exact Nat.ne_of_lt (Nat.lt_of_lt_of_le (by have := World.block_lt_of_cell? _ _ hw240_0; first | rwa [add_block] at this | exact this) GW250.out))) _).trans (((cell_far (p := ⟨gb250, _, none⟩) (by first | exact Nat.ne_of_lt (Nat.lt_of_lt_of_le (by have := World.block_lt_of_cell? _ _ hw240_0; first | rwa [add_block] at this | exact this) GW250.out) | (rw [add_block]; exact Nat.ne_of_lt (Nat.lt_of_lt_of_le (by have := World.block_lt_of_cell? _ _ hw240_0; first | rwa [add_block] at this | exact this) GW250.out)) | (show (Addr.add _ _).block ≠ _; rw [add_block]; exact Nat.ne_of_lt (Nat.lt_of_lt_of_le (by have := World.block_lt_of_cell? _ _ hw240_0; first | rwa [add_block] at this | exact this) GW250.out)) | (dsimp only; exact Nat.ne_of_lt (Nat.lt_of_lt_of_le (by have := World.block_lt_of_cell? _ _ hw240_0; first | rwa [add_block] at this | exact this) GW250.out))) _).trans (hHeld.2.2.2.2.1)))))))), ((cell_far (p := ⟨gb250, _, none⟩) (by first | exact Nat.ne_of_lt (Nat.lt_of_lt_of_le (by have := World.block_lt_of_cell? _ _ hw240_1; first | rwa [add_block] at this | exact this) GW250.out) | (rw [add_block]; exact Nat.ne_of_lt (Nat.lt_of_lt_of_le (by have := World.block_lt_of_cell? _ _ hw240_1; first | rwa [add_block] at this | exact this) GW250.out)) | (show (Addr.add _ _).block ≠ _; rw [add_block]; exact Nat.ne_of_lt (Nat.lt_of_lt_of_le (by have := World.block_lt_of_cell? _ _ hw240_1; first | rwa [add_block] at this | exact this) GW250.out)) | (dsimp only; exact Nat.ne_of_lt (Nat.lt_of_lt_of_le (by have := World.block_lt_of_cell? _ _ hw240_1; first | rwa [add_block] at this | exact this) GW250.out))) _).trans (((cell_far (p := ⟨gb250, _, none⟩) (by first | exact Nat.ne_of_lt (Nat.lt_of_lt_of_le (by have := World.block_lt_of_cell? _ _ hw240_1; first | rwa [add_block] at this | exact this) GW250.out) | (rw [add_block]; exact Nat.ne_of_lt (Nat.lt_of_lt_of_le (by have := World.block_lt_of_cell? _ _ hw240_1; first | rwa [add_block] at this | exact this) GW250.out)) | (show (Addr.add _ _).block ≠ _; rw [add_block]; exact Nat.ne_of_lt (Nat.lt_of_lt_of_le (by have := World.block_lt_of_cell? _ _ hw240_1; first | rwa [add_block] at this | exact this) GW250.out)) | (dsimp only; exact Nat.ne_of_lt (Nat.lt_of_lt_of_le (by have := World.block_lt_of_cell? _ _ hw240_1; first | rwa [add_block] at this | exact this) GW250.out))) _).trans (((cell_far (p := ⟨gb250, _, none⟩) (by first | exact Nat.ne_of_lt (Nat.lt_of_lt_of_le (by have := World.block_lt_of_cell? _ _ hw240_1; first | rwa [add_block] at this | exact this) GW250.out) | (rw [add_block]; exact Nat.ne_of_lt (Nat.lt_of_lt_of_le (by have := World.block_lt_of_cell? _ _ hw240_1; first | rwa [add_block] at this | exact this) GW250.out)) | (show (Addr.add _ _).block ≠ _; rw [add_block]; exact Nat.ne_of_lt (Nat.lt_of_lt_of_le (by have := World.block_lt_of_cell? _ _ hw240_1; first | rwa [add_block] at this | exact this) GW250.out)) | (dsimp only; exact Nat.ne_of_lt (Nat.lt_of_lt_of_le (by have := World.block_lt_of_cell? _ _ hw240_1; first | rwa [add_block] at this | exact this) GW250.out))) _).trans (((cell_far (p := ⟨gb250, _, none⟩) (by first | exact Nat.ne_of_lt (Nat.lt_of_lt_of_le (by have := World.block_lt_of_cell? _ _ hw240_1; first | rwa [add_block] at this | exact this) GW250.out) | (rw [add_block]; exact Nat.ne_of_lt (Nat.lt_of_lt_of_le (by have := World.block_lt_of_cell? _ _ hw240_1; first | rwa [add_block] at this | exact this) GW250.out)) | (show (Addr.add _ _).block ≠ _; rw [add_block]; exact Nat.ne_of_lt (Nat.lt_of_lt_of_le (by have := World.block_lt_of_cell? _ _ hw240_1; first | rwa [add_block] at this | exact this) GW250.out)) | (dsimp only; exact Nat.ne_of_lt (Nat.lt_of_lt_of_le (by have := World.block_lt_of_cell? _ _ hw240_1; first | rwa [add_block] at this | exact this) GW250.out))) _).trans (hHeld.2.2.2.2.2.1)))))))), ((cell_far (p := ⟨gb250, _, none⟩) (by first | exact Nat.ne_of_lt (Nat.lt_of_lt_of_le (by have := World.block_lt_of_cell? _ _ hw240_2; first | rwa [add_block] at this | exact this) GW250.out) | (rw [add_block]; exact Nat.ne_of_lt (Nat.lt_of_lt_of_le (by have := World.block_lt_of_cell? _ _ hw240_2; first | rwa [add_block] at this | exact this) GW250.out)) | (show (Addr.add _ _).block ≠ _; rw [add_block]; exact Nat.ne_of_lt (Nat.lt_of_lt_of_le (by have := World.block_lt_of_cell? _ _ hw240_2; first | rwa [add_block] at this | exact this) GW250.out)) | (dsimp only; exact Nat.ne_of_lt (Nat.lt_of_lt_of_le (by have := World.block_lt_of_cell? _ _ hw240_2; first | rwa [add_block] at this | exact this) GW250.out))) _).trans (((cell_far (p := ⟨gb250, _, none⟩) (by first | exact Nat.ne_of_lt (Nat.lt_of_lt_of_le (by have := World.block_lt_of_cell? _ _ hw240_2; first | rwa [add_block] at this | exact this) GW250.out) | (rw [add_block]; exact Nat.ne_of_lt (Nat.lt_of_lt_of_le (by have := World.block_lt_of_cell? _ _ hw240_2; first | rwa [add_block] at this | exact this) GW250.out)) | (show (Addr.add _ _).block ≠ _; rw [add_block]; exact Nat.ne_of_lt (Nat.lt_of_lt_of_le (by have := World.block_lt_of_cell? _ _ hw240_2; first | rwa [add_block] at this | exact this) GW250.out)) | (dsimp only; exact Nat.ne_of_lt (Nat.lt_of_lt_of_le (by have := World.block_lt_of_cell? _ _ hw240_2; first | rwa [add_block] at this | exact this) GW250.out))) _).trans (((cell_far (p := ⟨gb250, _, none⟩) (by first | exact Nat.ne_of_lt (Nat.lt_of_lt_of_le (by have := World.block_lt_of_cell? _ _ hw240_2; first | rwa [add_block] at this | exact this) GW250.out) | (rw [add_block]; exact Nat.ne_of_lt (Nat.lt_of_lt_of_le (by have := World.block_lt_of_cell? _ _ hw240_2; first | rwa [add_block] at this | exact this) GW250.out)) | (show (Addr.add _ _).block ≠ _; rw [add_block]; exact Nat.ne_of_lt (Nat.lt_of_lt_of_le (by have := World.block_lt_of_cell? _ _ hw240_2; first | rwa [add_block] at this | exact this) GW250.out)) | (dsimp only; exact Nat.ne_of_lt (Nat.lt_of_lt_of_le (by have := World.block_lt_of_cell? _ _ hw240_2; first | rwa [add_block] at this | exact this) GW250.out))) _).trans (((cell_far (p := ⟨gb250, _, none⟩) (by first | exact Nat.ne_of_lt (Nat.lt_of_lt_of_le (by have := World.block_lt_of_cell? _ _ hw240_2; first | rwa [add_block] at this | exact this) GW250.out) | (rw [add_block]; exact Nat.ne_of_lt (Nat.lt_of_lt_of_le (by have := World.block_lt_of_cell? _ _ hw240_2; first | rwa [add_block] at this | exact this) GW250.out)) | (show (Addr.add _ _).block ≠ _; rw [add_block]; exact Nat.ne_of_lt (Nat.lt_of_lt_of_le (by have := World.block_lt_of_cell? _ _ hw240_2; first | rwa [add_block] at this | exact this) GW250.out)) | (dsimp only; exact Nat.ne_of_lt (Nat.lt_of_lt_of_le (by have := World.block_lt_of_cell? _ _ hw240_2; first | rwa [add_block] at this | exact this) GW250.out))) _).trans (hHeld.2.2.2.2.2.2))))))))⟩ (fun hHeld => ?_)
                                      clear hK K
                                      refine pure_ (i := 12) (N := some 13) (v := ?_) (a' := ?_) #[true, true, true, true, true, true, true, true, true, true, true, true, true] rfl rfl (any_of HT_.out (by kernel_rfl)) (fun _ _ _ h => h) (Or.inl ⟨by rfl, ?_⟩) ?_ ?_
                                      rotate_left
                                      · intro w'
                                        go_simp
                                        with_reducible rfl
                                      rotate_left
                                      · simp only [Act.put, List.setIfInBounds_toArray, List.set_cons_zero, List.set_cons_succ, i64_w, i32_w]
                                        rfl
                                      refine done_ (done_of HT_.out (by kernel_rfl)) ?_
                                      obtain ⟨w93, hw⟩ : ∃ w_, w_ = ((((w86.setCell ⟨gb250, 0, none⟩ (.slice Ao87 t241.length co87)).setCell ⟨gb250, 1, none⟩ (.bool t244)).setCell ⟨gb250, 2, none⟩ (.int .i64 t245)).setCell ⟨gb250, 3, none⟩ (.slice Ao91 t246.length co91)) := ⟨_, rfl⟩
                                      rw [← hw]
                                      replace HO_211000 := vS (fun k_ => k_ ≠ gb210 ∧ k_ ≠ gb250) HO_211000 hw
                                      replace HO_211003 := vS (fun k_ => k_ ≠ gb210 ∧ k_ ≠ gb250) HO_211003 hw
                                      replace HO243 := vS (fun k_ => k_ ≠ gb210 ∧ k_ ≠ gb250) HO243 hw
                                      replace HO248 := vS (fun k_ => k_ ≠ gb210 ∧ k_ ≠ gb250) HO248 hw
                                      replace BK210 := kS BK210 hw
                                      replace BK250 := kP4 BK250 hw
                                      replace HB := hS HB hw
                                      clear hw
                                      have hnb94 := NB250_210.out
                                      have hnc94 := NB210_250.out
                                      obtain ⟨hcz95_0, hcz95_1, hcz95_2, hcz95_3, hfz95_0, hfz95_1, hfz95_2, hfz95_3⟩ := bc4 BK250
                                      obtain ⟨hcz96_0, hcz96_1, hcz96_2, hcz96_3, hfz96_0, hfz96_1, hfz96_2, hfz96_3⟩ := bc4 BK210
                                      try go_wp2_with (first | ((with_reducible refine gate_store (t := 27) (p := 4) rfl ?_); refine store_event (t := 27) (p := 4) (v := ?vo_w97) (w1 := ((((w93.setCell ⟨gb210, 0, none⟩ (.slice Ao87 t241.length co87)).setCell ⟨gb210, 1, none⟩ (.bool t244)).setCell ⟨gb210, 2, none⟩ (.int .i64 t245)).setCell ⟨gb210, 3, none⟩ (.slice Ao91 t246.length co91))) ?hg ?ho ?hn ?hr ?_; (case ho => rfl); (case hg => rfl); (case hn => rfl); (case hr => first | (go_simp; done) | (go_simp; rfl)); intro w97 hw; replace HO_211000 := vS (fun k_ => k_ ≠ gb210 ∧ k_ ≠ gb250) HO_211000 hw; replace HO_211003 := vS (fun k_ => k_ ≠ gb210 ∧ k_ ≠ gb250) HO_211003 hw; replace HO243 := vS (fun k_ => k_ ≠ gb210 ∧ k_ ≠ gb250) HO243 hw; replace HO248 := vS (fun k_ => k_ ≠ gb210 ∧ k_ ≠ gb250) HO248 hw; replace BK210 := kP4 BK210 hw; replace BK250 := kS BK250 hw; replace HB : Aside0 (Below w.heap.size w w97) := ⟨(by rw [hw]; exact (bb HB))⟩; clear hw; obtain ⟨hcz98_0, hcz98_1, hcz98_2, hcz98_3, hfz98_0, hfz98_1, hfz98_2, hfz98_3⟩ := bc4 BK210; have hcv99 := v_string (P := Try.prog) Try.underlying25 Try.underlying5 Try.underlying9 HO248.out))
                                      go_roundg kj45
                                      case measure => have := HK1.out; have := HJ9.out; have := HJ45.out; omega
                                      case rel => exact ⟨(x5_9), (x6_45), (wrap64 (x7_1 + 1)), (t241), (t244), (t245), (t246), (.slice Ao87 t241.length co87), (.slice Ao91 t246.length co91), (by first | rfl | (simp; done) | (simp [*]; done)), (by first | rfl | (simp; done) | (simp [*]; done)), (by first | rfl | (simp; done) | (simp [*]; done)), H', ⟨by have := HK1.out; have := HJ9.out; have := HJ45.out; omega⟩, ⟨vM HO243⟩, ⟨vM HO248⟩, ⟨kk BK210⟩, ⟨bb HB⟩⟩
                                · rw [if_neg c78] at H
                                  cases H; exact absurd HRT.out (by decide)
                              · rw [if_neg c77] at H
                                cases H; exact absurd HRT.out (by decide)
                            · rw [if_neg c75] at H
                              have c75b0 : (((rd_T29 l0 x7_1).f0) == 0) = false := beq_eq_false_iff_ne.mpr c75
                              have c75b1 : (((rd_T29 l0 x7_1).f0) != 0) = true := bne_iff_ne.mpr c75
                              by_cases c100 : (strOfNums x211003_45).toList = x6_45.toList
                              · rw [if_pos c100] at H
                                have c100b0 : ((strOfNums x211003_45).toList == x6_45.toList) = true := beq_iff_eq.mpr c100
                                have c100b1 : ((strOfNums x211003_45).toList != x6_45.toList) = false := bne_eq_false_iff_eq.mpr c100
                                clear c100
                                by_cases c101 : (wrap64 ((x6_45.size : Int) + x211002_45)) = x5_9
                                · rw [if_pos c101] at H
                                  have c101b0 : ((wrap64 ((x6_45.size : Int) + x211002_45)) == x5_9) = true := beq_iff_eq.mpr c101
                                  have c101b1 : ((wrap64 ((x6_45.size : Int) + x211002_45)) != x5_9) = false := bne_eq_false_iff_eq.mpr c101
                                  clear c101
                                  by_cases c102 : x211002_45 < 0
                                  · rw [if_pos c102] at H
                                    have c102b0 : decide (x211002_45 < 0) = true := decide_eq_true c102
                                    clear c102
                                    cases H; exact absurd HRT.out (by decide)
                                  · rw [if_neg c102] at H
                                    have c102b0 : decide (x211002_45 < 0) = false := decide_eq_false c102
                                    clear c102
                                    by_cases c103 : x211002_45 > 4096
                                    · rw [if_pos c103] at H
                                      have c103b0 : decide (4096 < x211002_45) = true := decide_eq_true c103
                                      clear c103
                                      cases H; exact absurd HRT.out (by decide)
                                    · rw [if_neg c103] at H
                                      have c103b0 : decide (4096 < x211002_45) = false := decide_eq_false c103
                                      clear c103
                                      have H' := Aside0.mk H
                                      clear H
                                      have p239 : 0 ≤ (x7_1 : Int) := of_decide_eq_true (by first | (with_reducible assumption) | assumption)
                                      have q239 : x7_1 < (l0.length : Int) := of_decide_eq_true (by first | (with_reducible assumption) | assumption)
                                      obtain ⟨ad239, A239_2, c239_2, e239, hx239_0, hx239_1, hx239_2, hl239_2, hi239_2⟩ := at_T29 HR0.out x7_1 p239 q239
                                      obtain rfl : ad211 = ad239 := (by injection e239)
                                      replace hx239_0 := (HB.out.cell (World.block_lt_of_cell? w _ hx239_0)).trans hx239_0
                                      replace hx239_1 := (HB.out.cell (World.block_lt_of_cell? w _ hx239_1)).trans hx239_1
                                      replace hx239_2 := (HB.out.cell (World.block_lt_of_cell? w _ hx239_2)).trans hx239_2
                                      have HR239_2 := Aside0.mk hi239_2
                                      have HC239_2 := Aside0.mk hl239_2
                                      clear hi239_2 hl239_2
                                      replace p239 := eq_true p239
                                      replace q239 := eq_true q239
                                      obtain ⟨hcz104_0, hcz104_1, hcz104_2, hcz104_3, hfz104_0, hfz104_1, hfz104_2, hfz104_3⟩ := bc4 BK210
                                      have hcv105 := v_string (P := Try.prog) Try.underlying25 Try.underlying5 Try.underlying9 HO_211003.out
                                      go_wp2
                                      go_roundg kj45
                                      case measure => have := HK1.out; have := HJ9.out; have := HJ45.out; omega
                                      case rel => exact ⟨(x5_9), (x6_45), (wrap64 (x7_1 + 1)), (x211000_45), (x211001_45), (x211002_45), (x211003_45), (u211000), (u211003), (by first | rfl | (simp; done) | (simp [*]; done)), (by first | rfl | (simp; done) | (simp [*]; done)), (by first | rfl | (simp; done) | (simp [*]; done)), H', ⟨by have := HK1.out; have := HJ9.out; have := HJ45.out; omega⟩, ⟨vM HO_211000⟩, ⟨vM HO_211003⟩, ⟨kk BK210⟩, ⟨bb HB⟩⟩
                                · rw [if_neg c101] at H
                                  cases H; exact absurd HRT.out (by decide)
                              · rw [if_neg c100] at H
                                cases H; exact absurd HRT.out (by decide)
                          · rw [if_neg c74] at H
                            exact absurd H (by simp)
                        · rw [if_neg c73] at H
                          exact absurd H (by simp)
                  · rw [if_neg c45] at H
                    exact absurd H (by simp)
                · rw [if_neg c44] at H
                  exact absurd H (by simp)
          · rw [if_neg c9] at H
            exact absurd H (by simp)
        · rw [if_neg c8] at H
          have c8b0 : decide (x7_1 < (l0.length : Int)) = false := decide_eq_false c8
          clear c8
          obtain rfl := Option.some.inj H
          go_wp2
          go_ret
          exact ⟨by first | rfl | (simp [errW_none, errW_some] <;> rfl) | (simp [*, errW_none, errW_some] <;> rfl), by repeat (first | (with_reducible first | exact HB.out | apply below_alloc | apply pw_below_drewN | apply below_drew1 | refine below_set ?_ GE210.out) | exact HB.out)⟩
  · replace c4 := Bool.eq_false_iff.mpr c4
    subst c4
    rw [if_neg nf] at H
    obtain rfl := Option.some.inj H
    go_enter Try.func3, Try.ntmps3
    go_wp2_with (first | ((with_reducible refine gate_callee (f := 9) rfl ?_); refine gL (some 14) rfl rfl Try.func9 (by kernel_rfl) rfl #[] rfl ?_; (with_reducible refine (pentroughlaw19_awake.calls  t208 _ A2.out).mono ?_); rintro e w106 ⟨rfl, hb⟩; refine ⟨_, rfl, ?_⟩; replace HB := hB HB hb; (try clear hb); (try clear hb2); (try clear hk); (try clear hi)) | ((with_reducible refine gate_callee (f := 10) rfl ?_); refine gL (some 16) rfl rfl Try.func10 (by kernel_rfl) rfl #[.slice A0 l0.length c0] rfl ?_; (with_reducible refine (pentroughlaw19_few.calls k _ _ l0 false _ ?side1 ?side2 A3.out).mono ?_); (case side1 => exact Kd.C_below HR0.out (bb HB)); (case side2 => exact HC0.out); rintro e w' ⟨rfl, ⟨nd, rfl⟩⟩; refine ⟨_, rfl, ?_⟩))
    go_ret
    exact ⟨by first | rfl | (simp [errW_none, errW_some] <;> rfl) | (simp [*, errW_none, errW_some] <;> rfl), by repeat (first | (with_reducible first | exact HB.out | apply below_alloc | apply pw_below_drewN | apply below_drew1) | exact HB.out)⟩

end Go.Proofs.Ytocmnggcbpdnjaa.Q
