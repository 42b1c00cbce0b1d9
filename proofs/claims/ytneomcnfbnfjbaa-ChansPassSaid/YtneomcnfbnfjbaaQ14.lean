-- Laid by mix.py, a program of this session, with the kit's print.py; walks by hand come out of wip/over.
import Derived.Test.YtneomcnfbnfjbaaQ0
import Derived.Test.YtneomcnfbnfjbaaQ2
import Derived.Test.YtneomcnfbnfjbaaQ3
import Derived.Test.YtneomcnfbnfjbaaQ4
import Derived.Test.YtneomcnfbnfjbaaQ6
import Derived.Test.YtneomcnfbnfjbaaQ12
namespace Go.Proofs.Ytneomcnfbnfjbaa.Q
open Go.RowKit Go.Proofs.YtneomcnfbnfjbaaW.PrintWords Go.Proofs.YtneomcnfbnfjbaaW.PrintLast Go.Proofs.YtneomcnfbnfjbaaW.PrintMore
attribute [local go_sem] max2_int min2_int max_two min_two max_three min_three max_four min_four   -- for this text's walks alone
set_option linter.unusedVariables false
set_option linter.unusedSimpArgs false

/-! ### pentroughlaw16_ChansPass: function 8 -/
mutual
def pentroughlaw16_ChansPass.j0 : Nat → List Int → Bool → Bool → Bool → Bool → List (List Int) → Bool → Option (Bool)
  | 0, _, _, _, _, _, _, _ => none
  | k + 1, x0, x1, x5, x7, x31, x486000, x486001 => if x31 = true then (some false) else (if x1 = true then ((chans_Close.f k x486000 x486001).bind fun bt486 => (pentroughlaw16_ChansPass.j1 k x0 x1 x5 x7 bt486.1 bt486.2)) else (pentroughlaw16_ChansPass.j1 k x0 x1 x5 x7 x486000 x486001))
def pentroughlaw16_ChansPass.j1 : Nat → List Int → Bool → Bool → Bool → List (List Int) → Bool → Option (Bool)
  | 0, _, _, _, _, _, _ => none
  | k + 1, x0, x1, x5, x7, x486000, x486001 => (chans_Take.f k x486000 x486001).bind fun bt490 => (if (bt490.2.2.2 != x7) = true then (pentroughlaw16_ChansPass.j2 k x0 x5 x7 bt490.2.2.1 true x486000 x486001) else ((chans_Count.f k bt490.1 bt490.2.1).bind fun t499 => (if t499 = 0 then ((chans_Spent.f k bt490.1 bt490.2.1).bind fun t500 => (pentroughlaw16_ChansPass.j2 k x0 x5 x7 bt490.2.2.1 (t500 != x1) x486000 x486001)) else (pentroughlaw16_ChansPass.j2 k x0 x5 x7 bt490.2.2.1 true x486000 x486001))))
def pentroughlaw16_ChansPass.j2 : Nat → List Int → Bool → Bool → List Int → Bool → List (List Int) → Bool → Option (Bool)
  | 0, _, _, _, _, _, _, _ => none
  | k + 1, x0, x5, x7, x9, x54, x486000, x486001 => if x54 = true then (some false) else (if x7 = true then (if x5 = true then ((pentroughref01_Same.f k x9 x0).bind fun t501 => (if t501 = true then ((chans_Count.f k x486000 x486001).bind fun t502 => (if t502 = (x0.length : Int) then ((chans_Spent.f k x486000 x486001).bind fun t503 => (some (!t503))) else (some false))) else (some false))) else (some false)) else (if x5 = true then (if (x9.length : Int) = 0 then ((chans_Count.f k x486000 x486001).bind fun t504 => (some (t504 == 0))) else (some false)) else (some false)))
end
def pentroughlaw16_ChansPass.f (k : Nat) (l0 : List Int) (a1 : Bool) : Option (Bool) := (pentroughlaw16_awake.f).bind fun t479 => (if (l0.length : Int) > 20 then (some t479) else ((chans_Put.f k ([] : List (List Int)) false l0).bind fun bt480 => (if (l0.length : Int) ≥ 1 then (pentroughlaw16_ChansPass.j0 k l0 a1 t479 bt480.2.2 (bt480.2.2 != (decide ((l0.length : Int) ≤ 8))) bt480.1 bt480.2.1) else (pentroughlaw16_ChansPass.j0 k l0 a1 t479 bt480.2.2 (bt480.2.2 != false) bt480.1 bt480.2.1))))
theorem pentroughlaw16_ChansPass.mono_l : ∀ k, (∀ y0 y1 y2 y3 y4 y5 y6, LeO (pentroughlaw16_ChansPass.j0 k y0 y1 y2 y3 y4 y5 y6) (pentroughlaw16_ChansPass.j0 (k + 1) y0 y1 y2 y3 y4 y5 y6)) ∧ (∀ y0 y1 y2 y3 y4 y5, LeO (pentroughlaw16_ChansPass.j1 k y0 y1 y2 y3 y4 y5) (pentroughlaw16_ChansPass.j1 (k + 1) y0 y1 y2 y3 y4 y5)) ∧ (∀ y0 y1 y2 y3 y4 y5 y6, LeO (pentroughlaw16_ChansPass.j2 k y0 y1 y2 y3 y4 y5 y6) (pentroughlaw16_ChansPass.j2 (k + 1) y0 y1 y2 y3 y4 y5 y6))
  | 0 => ⟨fun _ _ _ _ _ _ _ r h => by simp [pentroughlaw16_ChansPass.j0] at h, fun _ _ _ _ _ _ r h => by simp [pentroughlaw16_ChansPass.j1] at h, fun _ _ _ _ _ _ _ r h => by simp [pentroughlaw16_ChansPass.j2] at h⟩
  | k + 1 => by
    obtain ⟨ih0, ih1, ih2⟩ := pentroughlaw16_ChansPass.mono_l k
    refine ⟨?_, ?_, ?_⟩
    · intro y0 y1 y2 y3 y4 y5 y6
      unfold pentroughlaw16_ChansPass.j0
      repeat' first
      | (with_reducible exact ih0 _ _ _ _ _ _ _)
      | (with_reducible exact ih1 _ _ _ _ _ _)
      | (with_reducible exact ih2 _ _ _ _ _ _ _)
      | (with_reducible exact chans_Close.mono _ _ _)
      | (with_reducible exact chans_Count.mono _ _ _)
      | (with_reducible exact chans_Put.mono _ _ _ _)
      | (with_reducible exact chans_Spent.mono _ _ _)
      | (with_reducible exact chans_Take.mono _ _ _)
      | (with_reducible exact pentroughref01_Same.mono _ _ _)
      | (with_reducible exact LeO.refl _)
      | (with_reducible exact LeO.none _)
      | (with_reducible refine LeO.ite ?_ ?_)
      | (with_reducible refine LeO.bind ?_ (fun _ => ?_))
      | exact ih0 _ _ _ _ _ _ _
      | exact ih1 _ _ _ _ _ _
      | exact ih2 _ _ _ _ _ _ _
      | exact chans_Close.mono _ _ _
      | exact chans_Count.mono _ _ _
      | exact chans_Put.mono _ _ _ _
      | exact chans_Spent.mono _ _ _
      | exact chans_Take.mono _ _ _
      | exact pentroughref01_Same.mono _ _ _
      | exact LeO.none _
      | refine LeO.ite ?_ ?_
      | refine LeO.bind ?_ (fun _ => ?_)
    · intro y0 y1 y2 y3 y4 y5
      unfold pentroughlaw16_ChansPass.j1
      repeat' first
      | (with_reducible exact ih0 _ _ _ _ _ _ _)
      | (with_reducible exact ih1 _ _ _ _ _ _)
      | (with_reducible exact ih2 _ _ _ _ _ _ _)
      | (with_reducible exact chans_Close.mono _ _ _)
      | (with_reducible exact chans_Count.mono _ _ _)
      | (with_reducible exact chans_Put.mono _ _ _ _)
      | (with_reducible exact chans_Spent.mono _ _ _)
      | (with_reducible exact chans_Take.mono _ _ _)
      | (with_reducible exact pentroughref01_Same.mono _ _ _)
      | (with_reducible exact LeO.refl _)
      | (with_reducible exact LeO.none _)
      | (with_reducible refine LeO.ite ?_ ?_)
      | (with_reducible refine LeO.bind ?_ (fun _ => ?_))
      | exact ih0 _ _ _ _ _ _ _
      | exact ih1 _ _ _ _ _ _
      | exact ih2 _ _ _ _ _ _ _
      | exact chans_Close.mono _ _ _
      | exact chans_Count.mono _ _ _
      | exact chans_Put.mono _ _ _ _
      | exact chans_Spent.mono _ _ _
      | exact chans_Take.mono _ _ _
      | exact pentroughref01_Same.mono _ _ _
      | exact LeO.none _
      | refine LeO.ite ?_ ?_
      | refine LeO.bind ?_ (fun _ => ?_)
    · intro y0 y1 y2 y3 y4 y5 y6
      unfold pentroughlaw16_ChansPass.j2
      repeat' first
      | (with_reducible exact ih0 _ _ _ _ _ _ _)
      | (with_reducible exact ih1 _ _ _ _ _ _)
      | (with_reducible exact ih2 _ _ _ _ _ _ _)
      | (with_reducible exact chans_Close.mono _ _ _)
      | (with_reducible exact chans_Count.mono _ _ _)
      | (with_reducible exact chans_Put.mono _ _ _ _)
      | (with_reducible exact chans_Spent.mono _ _ _)
      | (with_reducible exact chans_Take.mono _ _ _)
      | (with_reducible exact pentroughref01_Same.mono _ _ _)
      | (with_reducible exact LeO.refl _)
      | (with_reducible exact LeO.none _)
      | (with_reducible refine LeO.ite ?_ ?_)
      | (with_reducible refine LeO.bind ?_ (fun _ => ?_))
      | exact ih0 _ _ _ _ _ _ _
      | exact ih1 _ _ _ _ _ _
      | exact ih2 _ _ _ _ _ _ _
      | exact chans_Close.mono _ _ _
      | exact chans_Count.mono _ _ _
      | exact chans_Put.mono _ _ _ _
      | exact chans_Spent.mono _ _ _
      | exact chans_Take.mono _ _ _
      | exact pentroughref01_Same.mono _ _ _
      | exact LeO.none _
      | refine LeO.ite ?_ ?_
      | refine LeO.bind ?_ (fun _ => ?_)
theorem pentroughlaw16_ChansPass.mono : ∀ a0 a1 k, LeO (pentroughlaw16_ChansPass.f k a0 a1) (pentroughlaw16_ChansPass.f (k + 1) a0 a1) := by
  intro a0 a1 k
  obtain ⟨ih0, ih1, ih2⟩ := pentroughlaw16_ChansPass.mono_l k
  unfold pentroughlaw16_ChansPass.f
  repeat' first
      | (with_reducible exact ih0 _ _ _ _ _ _ _)
      | (with_reducible exact ih1 _ _ _ _ _ _)
      | (with_reducible exact ih2 _ _ _ _ _ _ _)
      | (with_reducible exact chans_Close.mono _ _ _)
      | (with_reducible exact chans_Count.mono _ _ _)
      | (with_reducible exact chans_Put.mono _ _ _ _)
      | (with_reducible exact chans_Spent.mono _ _ _)
      | (with_reducible exact chans_Take.mono _ _ _)
      | (with_reducible exact pentroughref01_Same.mono _ _ _)
      | (with_reducible exact LeO.refl _)
      | (with_reducible exact LeO.none _)
      | (with_reducible refine LeO.ite ?_ ?_)
      | (with_reducible refine LeO.bind ?_ (fun _ => ?_))
      | exact ih0 _ _ _ _ _ _ _
      | exact ih1 _ _ _ _ _ _
      | exact ih2 _ _ _ _ _ _ _
      | exact chans_Close.mono _ _ _
      | exact chans_Count.mono _ _ _
      | exact chans_Put.mono _ _ _ _
      | exact chans_Spent.mono _ _ _
      | exact chans_Take.mono _ _ _
      | exact pentroughref01_Same.mono _ _ _
      | exact LeO.none _
      | refine LeO.ite ?_ ?_
      | refine LeO.bind ?_ (fun _ => ?_)
set_option maxHeartbeats 8000000 in
set_option maxRecDepth 100000 in
theorem pentroughlaw16_ChansPass.calls (k : Nat) (A0 : Option Addr) (c0 : Nat) (l0 : List Int) (a1 : Bool) (r : Bool) (w : World) (hr0 : Kd.C (Kd.int .i64) w A0 l0.length l0) (hc0 : l0.length ≤ c0) (h : pentroughlaw16_ChansPass.f k l0 a1 = some r) :
    Calls Try.prog 8 #[.slice A0 l0.length c0, .bool a1] w fun e w' => e = .returned (.bool r) ∧ Below w.heap.size w w' := by
  have hu28 := Try.underlying28
  have HR0 := Aside0.mk hr0
  have HC0 := Aside0.mk hc0
  clear hr0 hc0
  have HB := Aside0.mk (Below.refl w.heap.size w)
  have H : ((pentroughlaw16_awake.f).bind fun t479 => (if (l0.length : Int) > 20 then (some t479) else ((chans_Put.f k ([] : List (List Int)) false l0).bind fun bt480 => (if (l0.length : Int) ≥ 1 then (pentroughlaw16_ChansPass.j0 k l0 a1 t479 bt480.2.2 (bt480.2.2 != (decide ((l0.length : Int) ≤ 8))) bt480.1 bt480.2.1) else (pentroughlaw16_ChansPass.j0 k l0 a1 t479 bt480.2.2 (bt480.2.2 != false) bt480.1 bt480.2.1))))) = some r := h
  clear h
  replace H := Option.bind_eq_some_iff.mp H
  obtain ⟨t479, A30, H⟩ := H
  replace H : (if (l0.length : Int) > 20 then (some t479) else ((chans_Put.f k ([] : List (List Int)) false l0).bind fun bt480 => (if (l0.length : Int) ≥ 1 then (pentroughlaw16_ChansPass.j0 k l0 a1 t479 bt480.2.2 (bt480.2.2 != (decide ((l0.length : Int) ≤ 8))) bt480.1 bt480.2.1) else (pentroughlaw16_ChansPass.j0 k l0 a1 t479 bt480.2.2 (bt480.2.2 != false) bt480.1 bt480.2.1)))) = some r := H
  have A3 := Aside0.mk A30
  clear A30
  by_cases c4 : (l0.length : Int) > 20
  · rw [if_pos c4] at H
    have c4b0 : decide (20 < (l0.length : Int)) = true := decide_eq_true c4
    have c4b1 : decide (20 < l0.length) = true := decide_eq_true (by omega)
    clear c4
    obtain rfl := Option.some.inj H
    go_enter Try.func8, Try.ntmps8
    go_wp2_with (first | ((with_reducible refine gate_callee (f := 9) rfl ?_); refine goesL_ (some 11) rfl rfl Try.func9 (by kernel_rfl) rfl #[] rfl (by (try simp only [List.map_toArray, List.map_cons, List.map_nil]); first | done | rfl | (simp only [List.length_drop, List.length_take]; rfl)) ?_; (with_reducible refine (pentroughlaw16_awake.calls  t479 _ A3.out).mono ?_); rintro e w5 ⟨rfl, hb⟩; refine ⟨_, rfl, ?_⟩; have n0_ := Aside0.mk (below_step (by repeat (first | (with_reducible first | exact HB.out | apply below_alloc | apply pw_below_drewN | apply below_drew1) | exact HB.out)) hb); clear HB; have HB := n0_; clear n0_; (try clear hb); (try clear hb2); (try clear hk); (try clear hi)))
    go_ret
    exact ⟨by first | rfl | (simp [errW_none, errW_some] <;> rfl) | (simp [*, errW_none, errW_some] <;> rfl), by repeat (first | (with_reducible first | exact HB.out | apply below_alloc | apply pw_below_drewN | apply below_drew1) | exact HB.out)⟩
  · rw [if_neg c4] at H
    have c4b0 : decide (20 < (l0.length : Int)) = false := decide_eq_false c4
    have c4b1 : decide (20 < l0.length) = false := decide_eq_false (by omega)
    clear c4
    replace H := Option.bind_eq_some_iff.mp H
    obtain ⟨⟨t480, t483, t484⟩, A60, H⟩ := H
    replace H : (if (l0.length : Int) ≥ 1 then (pentroughlaw16_ChansPass.j0 k l0 a1 t479 t484 (t484 != (decide ((l0.length : Int) ≤ 8))) t480 t483) else (pentroughlaw16_ChansPass.j0 k l0 a1 t479 t484 (t484 != false) t480 t483)) = some r := H
    have A6 := Aside0.mk A60
    clear A60
    have HC7 := Aside0.mk H
    clear H
    go_enter Try.func8, Try.ntmps8
    go_upto_region 5 with (first | ((with_reducible refine gate_callee (f := 9) rfl ?_); refine goesL_ (some 11) rfl rfl Try.func9 (by kernel_rfl) rfl #[] rfl (by (try simp only [List.map_toArray, List.map_cons, List.map_nil]); first | done | rfl | (simp only [List.length_drop, List.length_take]; rfl)) ?_; (with_reducible refine (pentroughlaw16_awake.calls  t479 _ A3.out).mono ?_); rintro e w8 ⟨rfl, hb⟩; refine ⟨_, rfl, ?_⟩; have n0_ := Aside0.mk (below_step (by repeat (first | (with_reducible first | exact HB.out | apply below_alloc | apply pw_below_drewN | apply below_drew1) | exact HB.out)) hb); clear HB; have HB := n0_; clear n0_; (try clear hb); (try clear hb2); (try clear hk); (try clear hi)) | ((with_reducible refine gate_callee (f := 13) rfl ?_); refine goesL_ (some 19) rfl rfl Try.func13 (by kernel_rfl) rfl #[.agg #[.slice none 0 0, .bool false], .slice A0 l0.length c0] rfl (by (try simp only [List.map_toArray, List.map_cons, List.map_nil]); first | done | rfl | (simp only [List.length_drop, List.length_take]; rfl)) ?_; (refine (chans_Put.calls k (fun k_ => False) _ _ ([] : List (List Int)) false (fun k_ => k_ < w.heap.size) _ _ l0 t480 t483 t484 _ ?side1 ?side2 A6.out).mono ?_); (case side1 => exact Kd.V_nil _ _ _ _ _); (case side2 => exact Kd.V_mk HC0.out (Kd.F_below (Kd.C_F (Kd.heap_int .i64) HR0.out) (by repeat (first | (with_reducible first | exact HB.out | apply below_alloc | apply pw_below_drewN | apply below_drew1) | exact HB.out)))); rintro e w9 ⟨v481, rfl, ho0, hb⟩; refine ⟨_, rfl, ?_⟩; have n0_ := Aside0.mk (Kd.V_lower (Kd.V_mono (ok' := fun k_ => True) ho0 (fun k_ hk_ => trivial)) (below_size (by repeat (first | (with_reducible first | exact HB.out | apply below_alloc | apply pw_below_drewN | apply below_drew1) | exact HB.out)))); have n1_ := Aside0.mk (below_step (by repeat (first | (with_reducible first | exact HB.out | apply below_alloc | apply pw_below_drewN | apply below_drew1) | exact HB.out)) hb); clear HB; have HO482 := n0_; have HB := n1_; clear n0_ n1_; (try clear hb); (try clear hb2); (try clear hk); (try clear hi); (try clear ho0)) | ((with_reducible refine gate_dst (N := 6) rfl ?_); (try (refine gate_guard (by rfl) ?_; dsimp only)); refine box_event ?hg (N := 6) ?hd (cs := #[.slice none 0 0, .bool false]) (t := 28) ?hr ?_; (case hd => rfl); (case hg => rfl); (case hr => first | (go_simp; done) | (go_simp; rfl)); intro gb485 hg w10 hbox hb; have n0_ := Aside0.mk (Kd.V_below (Kd.V_elderB (by (with_reducible repeat (first | apply Kd.V_alloc | apply Kd.V_drewN | apply Kd.V_drew)); exact HO482.out) gb485 (Nat.le_of_eq hg.symm)) hb); have n1_ := Aside0.mk (below_step (by repeat (first | (with_reducible first | exact HB.out | apply below_alloc | apply pw_below_drewN | apply below_drew1) | exact HB.out)) hb); have n2_ := Aside0.mk (hbox); have n3_ := Aside0.mk ((by rw [hg]; exact (below_size (by repeat (first | (with_reducible first | exact HB.out | apply below_alloc | apply pw_below_drewN | apply below_drew1) | exact HB.out))) : w.heap.size ≤ gb485)); have n4_ := Aside0.mk ((by rw [hg]; exact (below_size (by repeat (first | (with_reducible first | exact HB.out | apply below_alloc | apply pw_below_drewN | apply below_drew1) | exact HB.out))) : w.heap.size ≤ gb485)); clear HO482; clear HB; have HO482 := n0_; have HB := n1_; have BK485 := n2_; have GW485 := n3_; have GE485 := n4_; clear n0_ n1_ n2_ n3_ n4_; clear hb hbox hg; obtain ⟨Ao11, co11, eo11⟩ := Kd.V_slice HO482.out; subst eo11; have hcz12_0 : w10.cell? ⟨gb485, 0, none⟩ = some (.slice none 0 0) := (blk_cell BK485.out 0).trans rfl; have hcz12_1 : w10.cell? ⟨gb485, 1, none⟩ = some (.bool false) := (blk_cell BK485.out 1).trans rfl; have hfz12_0 := blk_frozen BK485.out 0; have hfz12_1 := blk_frozen BK485.out 1))
    (try simp only [Act.put, List.setIfInBounds_toArray, List.set_cons_zero, List.set_cons_succ])
    go_cut [31] (fun v31 wc => ∃ (kq : Nat) (x31_6 : Bool), v31 = .bool x31_6 ∧ Aside0 (pentroughlaw16_ChansPass.j0 kq l0 a1 t479 t484 x31_6 t480 t483 = some r) ∧ Aside0 (kq ≤ k) ∧ Aside0 (Kd.V (Kd.slice 3 (Kd.int .i64)) 32 wc w.heap.size (fun k_ => k_ ≠ gb485) (.slice Ao11 t480.length co11) t480) ∧ Aside0 (wc.heap[gb485]? = some (.cells #[(.slice Ao11 t480.length co11), .bool t483] 28 (0, 0))) ∧ Aside0 (Below w.heap.size w wc))
    case first =>
      have H := HC7.out
      clear HC7
      by_cases c13 : (l0.length : Int) ≥ 1
      · rw [if_pos c13] at H
        have c13b0 : decide (1 ≤ (l0.length : Int)) = true := decide_eq_true c13
        have c13b1 : decide (1 ≤ l0.length) = true := decide_eq_true (by omega)
        clear c13
        (first | rw [c13b0] | (simp only [i64_w, i32_w]; rw [c13b0]) | skip)
        have H' := Aside0.mk H
        clear H
        go_wp2
        go_meet
        case rel => exact ⟨_, ((t484 != (decide ((l0.length : Int) ≤ 8)))), (by first | rfl | (simp; done) | (simp [*]; done)), H', ⟨by first | omega | exact Nat.le_refl _⟩, ⟨by (with_reducible repeat (first | apply Kd.V_alloc | apply Kd.V_drewN | apply Kd.V_drew)); exact Kd.V_mono (Kd.V_far (p := ⟨gb485, 1, none⟩) (Kd.V_far (p := ⟨gb485, 0, none⟩) (Kd.V_mono HO482.out (fun k_ hk => (⟨hk, hk.2⟩ : _ ∧ k_ ≠ gb485))) (fun _ hk => hk.2) (.slice Ao11 t480.length co11)) (fun _ hk => hk.2) (.bool t483)) (fun _ hk => hk.1.2)⟩, ⟨by (with_reducible repeat (first | refine blk_drewN ?_ _ | refine blk_drew ?_ | refine blk_alloc ?_ _)); refine blk_put (cs := #[.slice Ao11 t480.length co11, .bool false]) ?_ 1 _ rfl; (with_reducible repeat (first | refine blk_drewN ?_ _ | refine blk_drew ?_ | refine blk_alloc ?_ _)); refine blk_put (cs := #[.slice none 0 0, .bool false]) ?_ 0 _ rfl; (with_reducible repeat (first | refine blk_drewN ?_ _ | refine blk_drew ?_ | refine blk_alloc ?_ _)); exact BK485.out⟩, ⟨by repeat (first | (with_reducible first | exact HB.out | apply below_alloc | apply pw_below_drewN | apply below_drew1 | refine below_set ?_ GE485.out) | exact HB.out)⟩⟩
      · rw [if_neg c13] at H
        have c13b0 : decide (1 ≤ (l0.length : Int)) = false := decide_eq_false c13
        have c13b1 : decide (1 ≤ l0.length) = false := decide_eq_false (by omega)
        clear c13
        (first | rw [c13b0] | (simp only [i64_w, i32_w]; rw [c13b0]) | skip)
        have H' := Aside0.mk H
        clear H
        go_wp2
        go_meet
        case rel => exact ⟨_, ((t484 != false)), (by first | rfl | (simp; done) | (simp [*]; done)), H', ⟨by first | omega | exact Nat.le_refl _⟩, ⟨by (with_reducible repeat (first | apply Kd.V_alloc | apply Kd.V_drewN | apply Kd.V_drew)); exact Kd.V_mono (Kd.V_far (p := ⟨gb485, 1, none⟩) (Kd.V_far (p := ⟨gb485, 0, none⟩) (Kd.V_mono HO482.out (fun k_ hk => (⟨hk, hk.2⟩ : _ ∧ k_ ≠ gb485))) (fun _ hk => hk.2) (.slice Ao11 t480.length co11)) (fun _ hk => hk.2) (.bool t483)) (fun _ hk => hk.1.2)⟩, ⟨by (with_reducible repeat (first | refine blk_drewN ?_ _ | refine blk_drew ?_ | refine blk_alloc ?_ _)); refine blk_put (cs := #[.slice Ao11 t480.length co11, .bool false]) ?_ 1 _ rfl; (with_reducible repeat (first | refine blk_drewN ?_ _ | refine blk_drew ?_ | refine blk_alloc ?_ _)); refine blk_put (cs := #[.slice none 0 0, .bool false]) ?_ 0 _ rfl; (with_reducible repeat (first | refine blk_drewN ?_ _ | refine blk_drew ?_ | refine blk_alloc ?_ _)); exact BK485.out⟩, ⟨by repeat (first | (with_reducible first | exact HB.out | apply below_alloc | apply pw_below_drewN | apply below_drew1 | refine below_set ?_ GE485.out) | exact HB.out)⟩⟩
    case rest =>
      clear HC7
      try clear c1
      try clear p2
      try clear c4
      try clear c4b0
      try clear c4b1
      try clear c8
      try clear c9
      try clear c13
      try clear c13b0
      try clear c13b1
      try clear hcz12_0
      try clear hcz12_1
      try clear hfz12_0
      try clear hfz12_1
      obtain ⟨kq, x31_6, rfl, HA, HJ6, HO_486000, BK485, HB⟩ := hcut
      cases kq with
      | zero => exact absurd HA.out (by simp [pentroughlaw16_ChansPass.j0])
      | succ kj6 =>
        have H := HA.out
        clear HA
        simp only [pentroughlaw16_ChansPass.j0] at H
        by_cases c14 : x31_6 = true
        · subst c14
          have H1 : (some false) = some r := by rw [if_pos rfl] at H; exact H
          clear H
          have H := H1
          clear H1
          obtain rfl := Option.some.inj H
          go_wp2
          go_ret
          exact ⟨by first | rfl | (simp [errW_none, errW_some] <;> rfl) | (simp [*, errW_none, errW_some] <;> rfl), by repeat (first | (with_reducible first | exact HB.out | apply below_alloc | apply pw_below_drewN | apply below_drew1 | refine below_set ?_ GE485.out) | exact HB.out)⟩
        · replace c14 := Bool.eq_false_iff.mpr c14
          subst c14
          have H1 : (if a1 = true then ((chans_Close.f kj6 t480 t483).bind fun bt486 => (pentroughlaw16_ChansPass.j1 kj6 l0 a1 t479 t484 bt486.1 bt486.2)) else (pentroughlaw16_ChansPass.j1 kj6 l0 a1 t479 t484 t480 t483)) = some r := by rw [if_neg (show ¬ (false = true) by decide)] at H; exact H
          clear H
          have H := H1
          clear H1
          have HC15 := Aside0.mk H
          clear H
          go_upto_if 32 with (fail)
          go_cut [] (fun wc => ∃ (kq : Nat) (x486000_14 : List (List Int)) (x486001_14 : Bool) (u486000 : Value), Aside0 (pentroughlaw16_ChansPass.j1 kq l0 a1 t479 t484 x486000_14 x486001_14 = some r) ∧ Aside0 (kq ≤ kj6) ∧ Aside0 (Kd.V (Kd.slice 3 (Kd.int .i64)) 32 wc w.heap.size (fun k_ => k_ ≠ gb485) u486000 x486000_14) ∧ Aside0 (wc.heap[gb485]? = some (.cells #[u486000, .bool x486001_14] 28 (0, 0))) ∧ Aside0 (Below w.heap.size w wc))
          case first =>
            have H := HC15.out
            clear HC15
            by_cases c16 : a1 = true
            · subst c16
              have H1 : ((chans_Close.f kj6 t480 t483).bind fun bt486 => (pentroughlaw16_ChansPass.j1 kj6 l0 true t479 t484 bt486.1 bt486.2)) = some r := by rw [if_pos rfl] at H; exact H
              clear H
              have H := H1
              clear H1
              replace H := Option.bind_eq_some_iff.mp H
              obtain ⟨⟨t486, t489⟩, A170, H⟩ := H
              replace H : (pentroughlaw16_ChansPass.j1 kj6 l0 true t479 t484 t486 t489) = some r := H
              have A17 := Aside0.mk A170
              clear A170
              have H' := Aside0.mk H
              clear H
              have hcz18_0 : wc.cell? ⟨gb485, 0, none⟩ = some (.slice Ao11 t480.length co11) := (blk_cell BK485.out 0).trans rfl
              have hcz18_1 : wc.cell? ⟨gb485, 1, none⟩ = some (.bool t483) := (blk_cell BK485.out 1).trans rfl
              have hfz18_0 := blk_frozen BK485.out 0
              have hfz18_1 := blk_frozen BK485.out 1
              go_wp2_with (first | ((with_reducible refine gate_callee (f := 16) rfl ?_); refine goesL_ (some 34) rfl rfl Try.func16 (by kernel_rfl) rfl #[.agg #[.slice Ao11 t480.length co11, .bool t483]] rfl (by (try simp only [List.map_toArray, List.map_cons, List.map_nil]); first | done | rfl | (simp only [List.length_drop, List.length_take]; rfl)) ?_; (with_reducible refine (chans_Close.calls kj6 (fun k_ => k_ ≠ gb485) _ _ t480 t483 t486 t489 _ ?side1 A17.out).mono ?_); (case side1 => exact HO_486000.out); rintro e w19 ⟨v487, rfl, ho0, hb⟩; refine ⟨_, rfl, ?_⟩; have n0_ := Aside0.mk (Kd.V_below (by (with_reducible repeat (first | apply Kd.V_alloc | apply Kd.V_drewN | apply Kd.V_drew)); exact HO_486000.out) hb); have n1_ := Aside0.mk (Kd.V_lower (Kd.V_mono (ok' := fun k_ => k_ ≠ gb485) ho0 (fun k_ hk_ => Or.elim hk_ (fun hs_ => hs_) (fun hn_ => (Kd.freshB (g := gb485) (o := .cells #[.slice Ao11 t480.length co11, .bool t483] 28 (0, 0)) (by (with_reducible repeat (first | refine blk_drewN ?_ _ | refine blk_drew ?_ | refine blk_alloc ?_ _)); exact BK485.out) k_ hn_)))) (below_size (by repeat (first | (with_reducible first | exact HB.out | apply below_alloc | apply pw_below_drewN | apply below_drew1 | refine below_set ?_ GE485.out) | exact HB.out)))); have n2_ := Aside0.mk (blk_below (g := gb485) (o := .cells #[.slice Ao11 t480.length co11, .bool t483] 28 (0, 0)) (by (with_reducible repeat (first | refine blk_drewN ?_ _ | refine blk_drew ?_ | refine blk_alloc ?_ _)); exact BK485.out) hb); have n3_ := Aside0.mk (below_step (by repeat (first | (with_reducible first | exact HB.out | apply below_alloc | apply pw_below_drewN | apply below_drew1 | refine below_set ?_ GE485.out) | exact HB.out)) hb); clear HO_486000; clear BK485; clear HB; have HO_486000 := n0_; have HO488 := n1_; have BK485 := n2_; have HB := n3_; clear n0_ n1_ n2_ n3_; (try clear hb); (try clear hb2); (try clear hk); (try clear hi); (try clear ho0); obtain ⟨Ao20, co20, eo20⟩ := Kd.V_slice HO488.out; subst eo20; have hcz21_0 : w19.cell? ⟨gb485, 0, none⟩ = some (.slice Ao11 t480.length co11) := (blk_cell BK485.out 0).trans rfl; have hcz21_1 : w19.cell? ⟨gb485, 1, none⟩ = some (.bool t483) := (blk_cell BK485.out 1).trans rfl; have hfz21_0 := blk_frozen BK485.out 0; have hfz21_1 := blk_frozen BK485.out 1))
              go_meet
              case rel => exact ⟨_, (t486), (t489), (.slice Ao20 t486.length co20), H', ⟨by have := HJ6.out; first | omega | exact Nat.le_refl _⟩, ⟨by (with_reducible repeat (first | apply Kd.V_alloc | apply Kd.V_drewN | apply Kd.V_drew)); exact Kd.V_mono (Kd.V_far (p := ⟨gb485, 1, none⟩) (Kd.V_far (p := ⟨gb485, 0, none⟩) (Kd.V_mono HO488.out (fun k_ hk => (⟨hk, hk⟩ : _ ∧ k_ ≠ gb485))) (fun _ hk => hk.2) (.slice Ao20 t486.length co20)) (fun _ hk => hk.2) (.bool t489)) (fun _ hk => hk.1)⟩, ⟨by (with_reducible repeat (first | refine blk_drewN ?_ _ | refine blk_drew ?_ | refine blk_alloc ?_ _)); refine blk_put (cs := #[.slice Ao20 t486.length co20, .bool t483]) ?_ 1 _ rfl; (with_reducible repeat (first | refine blk_drewN ?_ _ | refine blk_drew ?_ | refine blk_alloc ?_ _)); refine blk_put (cs := #[.slice Ao11 t480.length co11, .bool t483]) ?_ 0 _ rfl; (with_reducible repeat (first | refine blk_drewN ?_ _ | refine blk_drew ?_ | refine blk_alloc ?_ _)); exact BK485.out⟩, ⟨by repeat (first | (with_reducible first | exact HB.out | apply below_alloc | apply pw_below_drewN | apply below_drew1 | refine below_set ?_ GE485.out) | exact HB.out)⟩⟩
            · replace c16 := Bool.eq_false_iff.mpr c16
              subst c16
              have H1 : (pentroughlaw16_ChansPass.j1 kj6 l0 false t479 t484 t480 t483) = some r := by rw [if_neg (show ¬ (false = true) by decide)] at H; exact H
              clear H
              have H := H1
              clear H1
              have H' := Aside0.mk H
              clear H
              go_wp2
              go_meet
              case rel => exact ⟨_, (t480), (t483), (.slice Ao11 t480.length co11), H', ⟨by have := HJ6.out; first | omega | exact Nat.le_refl _⟩, ⟨by (with_reducible repeat (first | apply Kd.V_alloc | apply Kd.V_drewN | apply Kd.V_drew)); exact HO_486000.out⟩, ⟨by (with_reducible repeat (first | refine blk_drewN ?_ _ | refine blk_drew ?_ | refine blk_alloc ?_ _)); exact BK485.out⟩, ⟨by repeat (first | (with_reducible first | exact HB.out | apply below_alloc | apply pw_below_drewN | apply below_drew1 | refine below_set ?_ GE485.out) | exact HB.out)⟩⟩
          case rest =>
            clear HC15
            try clear c1
            try clear p2
            try clear c4
            try clear c4b0
            try clear c4b1
            try clear c8
            try clear c9
            try clear c13
            try clear c13b0
            try clear c13b1
            try clear c14
            try clear c16
            try clear hcz12_0
            try clear hcz12_1
            try clear hcz18_0
            try clear hcz18_1
            try clear hcz21_0
            try clear hcz21_1
            try clear hfz12_0
            try clear hfz12_1
            try clear hfz18_0
            try clear hfz18_1
            try clear hfz21_0
            try clear hfz21_1
            try clear p2
            obtain ⟨kq, x486000_14, x486001_14, u486000, HA, HJ14, HO_486000, BK485, HB⟩ := hcut
            cases kq with
            | zero => exact absurd HA.out (by simp [pentroughlaw16_ChansPass.j1])
            | succ kj14 =>
              have H := HA.out
              clear HA
              simp only [pentroughlaw16_ChansPass.j1] at H
              replace H := Option.bind_eq_some_iff.mp H
              obtain ⟨⟨t490, t493, t494, t497⟩, A220, H⟩ := H
              replace H : (if (t497 != t484) = true then (pentroughlaw16_ChansPass.j2 kj14 l0 t479 t484 t494 true x486000_14 x486001_14) else ((chans_Count.f kj14 t490 t493).bind fun t499 => (if t499 = 0 then ((chans_Spent.f kj14 t490 t493).bind fun t500 => (pentroughlaw16_ChansPass.j2 kj14 l0 t479 t484 t494 (t500 != a1) x486000_14 x486001_14)) else (pentroughlaw16_ChansPass.j2 kj14 l0 t479 t484 t494 true x486000_14 x486001_14)))) = some r := H
              have A22 := Aside0.mk A220
              clear A220
              have HC23 := Aside0.mk H
              clear H
              have hcz24_0 : wc.cell? ⟨gb485, 0, none⟩ = some (u486000) := (blk_cell BK485.out 0).trans rfl
              have hcz24_1 : wc.cell? ⟨gb485, 1, none⟩ = some (.bool x486001_14) := (blk_cell BK485.out 1).trans rfl
              have hfz24_0 := blk_frozen BK485.out 0
              have hfz24_1 := blk_frozen BK485.out 1
              obtain ⟨Ao25, co25, eo25⟩ := Kd.V_slice HO_486000.out
              subst eo25
              go_upto_region 10 with (first | ((with_reducible refine gate_callee (f := 14) rfl ?_); refine goesL_ (some 37) rfl rfl Try.func14 (by kernel_rfl) rfl #[.agg #[.slice Ao25 x486000_14.length co25, .bool x486001_14]] rfl (by (try simp only [List.map_toArray, List.map_cons, List.map_nil]); first | done | rfl | (simp only [List.length_drop, List.length_take]; rfl)) ?_; (with_reducible refine (chans_Take.calls kj14 (fun k_ => k_ ≠ gb485) _ _ x486000_14 x486001_14 t490 t493 t494 t497 _ ?side1 A22.out).mono ?_); (case side1 => exact HO_486000.out); rintro e w26 ⟨v491, v495, rfl, ho0, ho1, hb⟩; refine ⟨_, rfl, ?_⟩; have n0_ := Aside0.mk (Kd.V_below (by (with_reducible repeat (first | apply Kd.V_alloc | apply Kd.V_drewN | apply Kd.V_drew)); exact HO_486000.out) hb); have n1_ := Aside0.mk (Kd.V_lower (Kd.V_mono (ok' := fun k_ => k_ ≠ gb485) ho0 (fun k_ hk_ => Or.elim hk_ (fun hs_ => hs_) (fun hn_ => (Kd.freshB (g := gb485) (o := .cells #[.slice Ao25 x486000_14.length co25, .bool x486001_14] 28 (0, 0)) (by (with_reducible repeat (first | refine blk_drewN ?_ _ | refine blk_drew ?_ | refine blk_alloc ?_ _)); exact BK485.out) k_ hn_)))) (below_size (by repeat (first | (with_reducible first | exact HB.out | apply below_alloc | apply pw_below_drewN | apply below_drew1 | refine below_set ?_ GE485.out) | exact HB.out)))); have n2_ := Aside0.mk (Kd.V_lower (Kd.V_mono (ok' := fun k_ => k_ ≠ gb485) ho1 (fun k_ hk_ => Or.elim hk_ (fun hs_ => hs_) (fun hn_ => (Kd.freshB (g := gb485) (o := .cells #[.slice Ao25 x486000_14.length co25, .bool x486001_14] 28 (0, 0)) (by (with_reducible repeat (first | refine blk_drewN ?_ _ | refine blk_drew ?_ | refine blk_alloc ?_ _)); exact BK485.out) k_ hn_)))) (below_size (by repeat (first | (with_reducible first | exact HB.out | apply below_alloc | apply pw_below_drewN | apply below_drew1 | refine below_set ?_ GE485.out) | exact HB.out)))); have n3_ := Aside0.mk (blk_below (g := gb485) (o := .cells #[.slice Ao25 x486000_14.length co25, .bool x486001_14] 28 (0, 0)) (by (with_reducible repeat (first | refine blk_drewN ?_ _ | refine blk_drew ?_ | refine blk_alloc ?_ _)); exact BK485.out) hb); have n4_ := Aside0.mk (below_step (by repeat (first | (with_reducible first | exact HB.out | apply below_alloc | apply pw_below_drewN | apply below_drew1 | refine below_set ?_ GE485.out) | exact HB.out)) hb); clear HO_486000; clear BK485; clear HB; have HO_486000 := n0_; have HO492 := n1_; have HO496 := n2_; have BK485 := n3_; have HB := n4_; clear n0_ n1_ n2_ n3_ n4_; (try clear hb); (try clear hb2); (try clear hk); (try clear hi); (try clear ho0); (try clear ho1)) | ((with_reducible refine gate_dst (N := 8) rfl ?_); (try (refine gate_guard (by rfl) ?_; dsimp only)); refine box_event ?hg (N := 8) ?hd (cs := #[.slice none 0 0, .bool false]) (t := 28) ?hr ?_; (case hd => rfl); (case hg => rfl); (case hr => first | (go_simp; done) | (go_simp; rfl)); intro gb498 hg w27 hbox hb; have n0_ := Aside0.mk (Kd.V_below (Kd.V_elderB (by (with_reducible repeat (first | apply Kd.V_alloc | apply Kd.V_drewN | apply Kd.V_drew)); exact HO_486000.out) gb498 (Nat.le_of_eq hg.symm)) hb); have n1_ := Aside0.mk (Kd.V_below (Kd.V_elderB (by (with_reducible repeat (first | apply Kd.V_alloc | apply Kd.V_drewN | apply Kd.V_drew)); exact HO492.out) gb498 (Nat.le_of_eq hg.symm)) hb); have n2_ := Aside0.mk (Kd.V_below (Kd.V_elderB (by (with_reducible repeat (first | apply Kd.V_alloc | apply Kd.V_drewN | apply Kd.V_drew)); exact HO496.out) gb498 (Nat.le_of_eq hg.symm)) hb); have n3_ := Aside0.mk (blk_below (g := gb485) (o := .cells #[.slice Ao25 x486000_14.length co25, .bool x486001_14] 28 (0, 0)) (by (with_reducible repeat (first | refine blk_drewN ?_ _ | refine blk_drew ?_ | refine blk_alloc ?_ _)); exact BK485.out) hb); have n4_ := Aside0.mk (below_step (by repeat (first | (with_reducible first | exact HB.out | apply below_alloc | apply pw_below_drewN | apply below_drew1 | refine below_set ?_ GE485.out) | exact HB.out)) hb); have n5_ := Aside0.mk (hbox); have n6_ := Aside0.mk ((by rw [hg]; exact (below_size (by repeat (first | (with_reducible first | exact HB.out | apply below_alloc | apply pw_below_drewN | apply below_drew1 | refine below_set ?_ GE485.out) | exact HB.out))) : w.heap.size ≤ gb498)); have n7_ := Aside0.mk ((by rw [hg]; exact (below_size (by repeat (first | (with_reducible first | exact HB.out | apply below_alloc | apply pw_below_drewN | apply below_drew1 | refine below_set ?_ GE485.out) | exact HB.out))) : w.heap.size ≤ gb498)); have n8_ := Aside0.mk ((by rw [hg]; exact Nat.ne_of_lt (blk_lt (g := gb485) (o := .cells #[.slice Ao25 x486000_14.length co25, .bool x486001_14] 28 (0, 0)) (by (with_reducible repeat (first | refine blk_drewN ?_ _ | refine blk_drew ?_ | refine blk_alloc ?_ _)); exact BK485.out)) : gb485 ≠ gb498)); have n9_ := Aside0.mk ((by rw [hg]; exact Nat.ne_of_gt (blk_lt (g := gb485) (o := .cells #[.slice Ao25 x486000_14.length co25, .bool x486001_14] 28 (0, 0)) (by (with_reducible repeat (first | refine blk_drewN ?_ _ | refine blk_drew ?_ | refine blk_alloc ?_ _)); exact BK485.out)) : gb498 ≠ gb485)); clear HO_486000; clear HO492; clear HO496; clear BK485; clear HB; have HO_486000 := n0_; have HO492 := n1_; have HO496 := n2_; have BK485 := n3_; have HB := n4_; have BK498 := n5_; have GW498 := n6_; have GE498 := n7_; have NB485_498 := n8_; have NB498_485 := n9_; clear n0_ n1_ n2_ n3_ n4_ n5_ n6_ n7_ n8_ n9_; clear hb hbox hg; obtain ⟨Ao28, co28, eo28⟩ := Kd.V_slice HO492.out; subst eo28; have hnb29 := NB498_485.out; have hnc29 := NB485_498.out; have hcz30_0 : w27.cell? ⟨gb498, 0, none⟩ = some (.slice none 0 0) := (blk_cell BK498.out 0).trans rfl; have hcz30_1 : w27.cell? ⟨gb498, 1, none⟩ = some (.bool false) := (blk_cell BK498.out 1).trans rfl; have hfz30_0 := blk_frozen BK498.out 0; have hfz30_1 := blk_frozen BK498.out 1))
              (try simp only [Act.put, List.setIfInBounds_toArray, List.set_cons_zero, List.set_cons_succ])
              go_cut [54] (fun v54 wc => ∃ (kq : Nat) (x54_22 : Bool), v54 = .bool x54_22 ∧ Aside0 (pentroughlaw16_ChansPass.j2 kq l0 t479 t484 t494 x54_22 x486000_14 x486001_14 = some r) ∧ Aside0 (kq ≤ kj14) ∧ Aside0 (Kd.V (Kd.int .i64) 3 wc w.heap.size (fun k_ => k_ ≠ gb485 ∧ k_ ≠ gb498) v495 t494) ∧ Aside0 (Kd.V (Kd.slice 3 (Kd.int .i64)) 32 wc w.heap.size (fun k_ => k_ ≠ gb485 ∧ k_ ≠ gb498) (.slice Ao25 x486000_14.length co25) x486000_14) ∧ Aside0 (Kd.V (Kd.slice 3 (Kd.int .i64)) 32 wc w.heap.size (fun k_ => k_ ≠ gb485 ∧ k_ ≠ gb498) (.slice Ao28 t490.length co28) t490) ∧ Aside0 (wc.heap[gb485]? = some (.cells #[(.slice Ao25 x486000_14.length co25), .bool x486001_14] 28 (0, 0))) ∧ Aside0 (wc.heap[gb498]? = some (.cells #[(.slice Ao28 t490.length co28), .bool t493] 28 (0, 0))) ∧ Aside0 (Below w.heap.size w wc))
              case first =>
                have H := HC23.out
                clear HC23
                by_cases c31 : (t497 != t484) = true
                · rw [if_pos c31] at H
                  have c31b0 : (t497 != t484) = true := c31
                  (try (have c31b1 : decide (t497 = t484) = false := by simpa using c31))
                  (try (have c31b2 : (t497 == t484) = false := by simpa using c31))
                  (try (have c31b3 : ¬ (t497 = t484) := by simpa using c31))
                  clear c31
                  (first | rw [c31b0] | (simp only [i64_w, i32_w]; rw [c31b0]) | skip)
                  have H' := Aside0.mk H
                  clear H
                  go_wp2
                  go_meet
                  case rel => exact ⟨_, (true), (by first | rfl | (simp; done) | (simp [*]; done)), H', ⟨by have := HJ6.out; have := HJ14.out; first | omega | exact Nat.le_refl _⟩, ⟨by (with_reducible repeat (first | apply Kd.V_alloc | apply Kd.V_drewN | apply Kd.V_drew)); exact Kd.V_mono (Kd.V_far (p := ⟨gb498, 1, none⟩) (Kd.V_far (p := ⟨gb498, 0, none⟩) (Kd.V_mono HO496.out (fun k_ hk => (⟨hk, hk.2⟩ : _ ∧ k_ ≠ gb498))) (fun _ hk => hk.2) (.slice Ao28 t490.length co28)) (fun _ hk => hk.2) (.bool t493)) (fun _ hk => ⟨hk.1.1, hk.1.2⟩)⟩, ⟨by (with_reducible repeat (first | apply Kd.V_alloc | apply Kd.V_drewN | apply Kd.V_drew)); exact Kd.V_mono (Kd.V_far (p := ⟨gb498, 1, none⟩) (Kd.V_far (p := ⟨gb498, 0, none⟩) (Kd.V_mono HO_486000.out (fun k_ hk => (⟨hk, hk.2⟩ : _ ∧ k_ ≠ gb498))) (fun _ hk => hk.2) (.slice Ao28 t490.length co28)) (fun _ hk => hk.2) (.bool t493)) (fun _ hk => ⟨hk.1.1, hk.1.2⟩)⟩, ⟨by (with_reducible repeat (first | apply Kd.V_alloc | apply Kd.V_drewN | apply Kd.V_drew)); exact Kd.V_mono (Kd.V_far (p := ⟨gb498, 1, none⟩) (Kd.V_far (p := ⟨gb498, 0, none⟩) (Kd.V_mono HO492.out (fun k_ hk => (⟨hk, hk.2⟩ : _ ∧ k_ ≠ gb498))) (fun _ hk => hk.2) (.slice Ao28 t490.length co28)) (fun _ hk => hk.2) (.bool t493)) (fun _ hk => ⟨hk.1.1, hk.1.2⟩)⟩, ⟨by (with_reducible repeat (first | refine blk_drewN ?_ _ | refine blk_drew ?_ | refine blk_alloc ?_ _)); refine blk_far ?_ NB485_498.out _; (with_reducible repeat (first | refine blk_drewN ?_ _ | refine blk_drew ?_ | refine blk_alloc ?_ _)); refine blk_far ?_ NB485_498.out _; (with_reducible repeat (first | refine blk_drewN ?_ _ | refine blk_drew ?_ | refine blk_alloc ?_ _)); exact BK485.out⟩, ⟨by (with_reducible repeat (first | refine blk_drewN ?_ _ | refine blk_drew ?_ | refine blk_alloc ?_ _)); refine blk_put (cs := #[.slice Ao28 t490.length co28, .bool false]) ?_ 1 _ rfl; (with_reducible repeat (first | refine blk_drewN ?_ _ | refine blk_drew ?_ | refine blk_alloc ?_ _)); refine blk_put (cs := #[.slice none 0 0, .bool false]) ?_ 0 _ rfl; (with_reducible repeat (first | refine blk_drewN ?_ _ | refine blk_drew ?_ | refine blk_alloc ?_ _)); exact BK498.out⟩, ⟨by repeat (first | (with_reducible first | exact HB.out | apply below_alloc | apply pw_below_drewN | apply below_drew1 | refine below_set ?_ GE485.out | refine below_set ?_ GE498.out) | exact HB.out)⟩⟩
                · rw [if_neg c31] at H
                  have c31b0 : (t497 != t484) = false := by simpa using c31
                  (try (have c31b1 : decide (t497 = t484) = true := by simpa using c31))
                  (try (have c31b2 : (t497 == t484) = true := by simpa using c31))
                  clear c31
                  (first | rw [c31b0] | (simp only [i64_w, i32_w]; rw [c31b0]) | skip)
                  replace H := Option.bind_eq_some_iff.mp H
                  obtain ⟨t499, A320, H⟩ := H
                  replace H : (if t499 = 0 then ((chans_Spent.f kj14 t490 t493).bind fun t500 => (pentroughlaw16_ChansPass.j2 kj14 l0 t479 t484 t494 (t500 != a1) x486000_14 x486001_14)) else (pentroughlaw16_ChansPass.j2 kj14 l0 t479 t484 t494 true x486000_14 x486001_14)) = some r := H
                  have A32 := Aside0.mk A320
                  clear A320
                  by_cases c33 : t499 = 0
                  · rw [if_pos c33] at H
                    have c33b0 : (t499 == 0) = true := beq_iff_eq.mpr c33
                    have c33b1 : (t499 != 0) = false := bne_eq_false_iff_eq.mpr c33
                    clear c33
                    replace H := Option.bind_eq_some_iff.mp H
                    obtain ⟨t500, A340, H⟩ := H
                    replace H : (pentroughlaw16_ChansPass.j2 kj14 l0 t479 t484 t494 (t500 != a1) x486000_14 x486001_14) = some r := H
                    have A34 := Aside0.mk A340
                    clear A340
                    have H' := Aside0.mk H
                    clear H
                    have hnb35 := NB498_485.out
                    have hnc35 := NB485_498.out
                    have hcz36_0 : w27.cell? ⟨gb498, 0, none⟩ = some (.slice none 0 0) := (blk_cell BK498.out 0).trans rfl
                    have hcz36_1 : w27.cell? ⟨gb498, 1, none⟩ = some (.bool false) := (blk_cell BK498.out 1).trans rfl
                    have hfz36_0 := blk_frozen BK498.out 0
                    have hfz36_1 := blk_frozen BK498.out 1
                    go_wp2_with (first | (go_at_call 17; (with_reducible refine (chans_Count.calls kj14 _ _ t490 t493 t499 _ ?side1 ?side2 A32.out).mono ?_); (case side1 => refine (Kd.V_reads' (e := 32) (base := w.heap.size) (ok := fun k_ => (k_ ≠ gb485 ∧ k_ ≠ gb498)) (n := t490.length) (c := co28) ?_).2.2; exact (by (with_reducible repeat (first | apply Kd.V_alloc | apply Kd.V_drewN | apply Kd.V_drew)); exact (Kd.V_mono (Kd.V_far (p := ⟨gb498, 1, none⟩) (Kd.V_far (p := ⟨gb498, 0, none⟩) (Kd.V_mono HO492.out (fun k_ hk => (⟨hk, hk.2⟩ : _ ∧ k_ ≠ gb498))) (fun _ hk => hk.2) (.slice Ao28 t490.length co28)) (fun _ hk => hk.2) (.bool t493)) (fun _ h_ => h_.1)))); (case side2 => exact (Kd.V_reads' HO492.out).2.1); rintro e w37 ⟨rfl, hb⟩; have n0_ := Aside0.mk (Kd.V_below (by (with_reducible repeat (first | apply Kd.V_alloc | apply Kd.V_drewN | apply Kd.V_drew)); exact (Kd.V_mono (Kd.V_far (p := ⟨gb498, 1, none⟩) (Kd.V_far (p := ⟨gb498, 0, none⟩) (Kd.V_mono HO_486000.out (fun k_ hk => (⟨hk, hk.2⟩ : _ ∧ k_ ≠ gb498))) (fun _ hk => hk.2) (.slice Ao28 t490.length co28)) (fun _ hk => hk.2) (.bool t493)) (fun _ h_ => h_.1))) hb); have n1_ := Aside0.mk (Kd.V_below (by (with_reducible repeat (first | apply Kd.V_alloc | apply Kd.V_drewN | apply Kd.V_drew)); exact (Kd.V_mono (Kd.V_far (p := ⟨gb498, 1, none⟩) (Kd.V_far (p := ⟨gb498, 0, none⟩) (Kd.V_mono HO492.out (fun k_ hk => (⟨hk, hk.2⟩ : _ ∧ k_ ≠ gb498))) (fun _ hk => hk.2) (.slice Ao28 t490.length co28)) (fun _ hk => hk.2) (.bool t493)) (fun _ h_ => h_.1))) hb); have n2_ := Aside0.mk (Kd.V_below (by (with_reducible repeat (first | apply Kd.V_alloc | apply Kd.V_drewN | apply Kd.V_drew)); exact (Kd.V_mono (Kd.V_far (p := ⟨gb498, 1, none⟩) (Kd.V_far (p := ⟨gb498, 0, none⟩) (Kd.V_mono HO496.out (fun k_ hk => (⟨hk, hk.2⟩ : _ ∧ k_ ≠ gb498))) (fun _ hk => hk.2) (.slice Ao28 t490.length co28)) (fun _ hk => hk.2) (.bool t493)) (fun _ h_ => h_.1))) hb); have n3_ := Aside0.mk (blk_below (g := gb485) (o := .cells #[.slice Ao25 x486000_14.length co25, .bool x486001_14] 28 (0, 0)) (by (with_reducible repeat (first | refine blk_drewN ?_ _ | refine blk_drew ?_ | refine blk_alloc ?_ _)); refine blk_far ?_ NB485_498.out _; (with_reducible repeat (first | refine blk_drewN ?_ _ | refine blk_drew ?_ | refine blk_alloc ?_ _)); refine blk_far ?_ NB485_498.out _; (with_reducible repeat (first | refine blk_drewN ?_ _ | refine blk_drew ?_ | refine blk_alloc ?_ _)); exact BK485.out) hb); have n4_ := Aside0.mk (blk_below (g := gb498) (o := .cells #[.slice Ao28 t490.length co28, .bool t493] 28 (0, 0)) (by (with_reducible repeat (first | refine blk_drewN ?_ _ | refine blk_drew ?_ | refine blk_alloc ?_ _)); refine blk_put (cs := #[.slice Ao28 t490.length co28, .bool false]) ?_ 1 _ rfl; (with_reducible repeat (first | refine blk_drewN ?_ _ | refine blk_drew ?_ | refine blk_alloc ?_ _)); refine blk_put (cs := #[.slice none 0 0, .bool false]) ?_ 0 _ rfl; (with_reducible repeat (first | refine blk_drewN ?_ _ | refine blk_drew ?_ | refine blk_alloc ?_ _)); exact BK498.out) hb); have n5_ := Aside0.mk (below_step (by repeat (first | (with_reducible first | exact HB.out | apply below_alloc | apply pw_below_drewN | apply below_drew1 | refine below_set ?_ GE485.out | refine below_set ?_ GE498.out) | exact HB.out)) hb); clear HO_486000; clear HO492; clear HO496; clear BK485; clear BK498; clear HB; have HO_486000 := n0_; have HO492 := n1_; have HO496 := n2_; have BK485 := n3_; have BK498 := n4_; have HB := n5_; clear n0_ n1_ n2_ n3_ n4_ n5_; (try clear hb); (try clear hb2); (try clear hk); (try clear hi); have hcz38_0 : w37.cell? ⟨gb498, 0, none⟩ = some (.slice Ao28 t490.length co28) := (blk_cell BK498.out 0).trans rfl; have hcz38_1 : w37.cell? ⟨gb498, 1, none⟩ = some (.bool t493) := (blk_cell BK498.out 1).trans rfl; have hfz38_0 := blk_frozen BK498.out 0; have hfz38_1 := blk_frozen BK498.out 1) | (go_at_call 24; (with_reducible refine (chans_Spent.calls kj14 _ _ t490 t493 t500 _ ?side1 ?side2 A34.out).mono ?_); (case side1 => repeat (first | exact (Kd.V_reads' HO492.out).2.2 | (with_reducible refine Kd.C_alloc ?_ _) | (with_reducible refine Kd.C_drewN ?_ _) | (with_reducible refine Kd.C_drew ?_))); (case side2 => exact (Kd.V_reads' HO492.out).2.1); rintro e w39 ⟨rfl, hb⟩; have n0_ := Aside0.mk (Kd.V_below (by (with_reducible repeat (first | apply Kd.V_alloc | apply Kd.V_drewN | apply Kd.V_drew)); exact HO_486000.out) hb); have n1_ := Aside0.mk (Kd.V_below (by (with_reducible repeat (first | apply Kd.V_alloc | apply Kd.V_drewN | apply Kd.V_drew)); exact HO492.out) hb); have n2_ := Aside0.mk (Kd.V_below (by (with_reducible repeat (first | apply Kd.V_alloc | apply Kd.V_drewN | apply Kd.V_drew)); exact HO496.out) hb); have n3_ := Aside0.mk (blk_below (g := gb485) (o := .cells #[.slice Ao25 x486000_14.length co25, .bool x486001_14] 28 (0, 0)) (by (with_reducible repeat (first | refine blk_drewN ?_ _ | refine blk_drew ?_ | refine blk_alloc ?_ _)); exact BK485.out) hb); have n4_ := Aside0.mk (blk_below (g := gb498) (o := .cells #[.slice Ao28 t490.length co28, .bool t493] 28 (0, 0)) (by (with_reducible repeat (first | refine blk_drewN ?_ _ | refine blk_drew ?_ | refine blk_alloc ?_ _)); exact BK498.out) hb); have n5_ := Aside0.mk (below_step (by repeat (first | (with_reducible first | exact HB.out | apply below_alloc | apply pw_below_drewN | apply below_drew1 | refine below_set ?_ GE485.out | refine below_set ?_ GE498.out) | exact HB.out)) hb); clear HO_486000; clear HO492; clear HO496; clear BK485; clear BK498; clear HB; have HO_486000 := n0_; have HO492 := n1_; have HO496 := n2_; have BK485 := n3_; have BK498 := n4_; have HB := n5_; clear n0_ n1_ n2_ n3_ n4_ n5_; (try clear hb); (try clear hb2); (try clear hk); (try clear hi)))
                    go_meet
                    case rel => exact ⟨_, ((t500 != a1)), (by first | rfl | (simp; done) | (simp [*]; done)), H', ⟨by have := HJ6.out; have := HJ14.out; first | omega | exact Nat.le_refl _⟩, ⟨by (with_reducible repeat (first | apply Kd.V_alloc | apply Kd.V_drewN | apply Kd.V_drew)); exact HO496.out⟩, ⟨by (with_reducible repeat (first | apply Kd.V_alloc | apply Kd.V_drewN | apply Kd.V_drew)); exact HO_486000.out⟩, ⟨by (with_reducible repeat (first | apply Kd.V_alloc | apply Kd.V_drewN | apply Kd.V_drew)); exact HO492.out⟩, ⟨by (with_reducible repeat (first | refine blk_drewN ?_ _ | refine blk_drew ?_ | refine blk_alloc ?_ _)); exact BK485.out⟩, ⟨by (with_reducible repeat (first | refine blk_drewN ?_ _ | refine blk_drew ?_ | refine blk_alloc ?_ _)); exact BK498.out⟩, ⟨by repeat (first | (with_reducible first | exact HB.out | apply below_alloc | apply pw_below_drewN | apply below_drew1 | refine below_set ?_ GE485.out | refine below_set ?_ GE498.out) | exact HB.out)⟩⟩
                  · rw [if_neg c33] at H
                    have c33b0 : (t499 == 0) = false := beq_eq_false_iff_ne.mpr c33
                    have c33b1 : (t499 != 0) = true := bne_iff_ne.mpr c33
                    have H' := Aside0.mk H
                    clear H
                    have hnb40 := NB498_485.out
                    have hnc40 := NB485_498.out
                    have hcz41_0 : w27.cell? ⟨gb498, 0, none⟩ = some (.slice none 0 0) := (blk_cell BK498.out 0).trans rfl
                    have hcz41_1 : w27.cell? ⟨gb498, 1, none⟩ = some (.bool false) := (blk_cell BK498.out 1).trans rfl
                    have hfz41_0 := blk_frozen BK498.out 0
                    have hfz41_1 := blk_frozen BK498.out 1
                    go_wp2_with (first | (go_at_call 17; (with_reducible refine (chans_Count.calls kj14 _ _ t490 t493 t499 _ ?side1 ?side2 A32.out).mono ?_); (case side1 => refine (Kd.V_reads' (e := 32) (base := w.heap.size) (ok := fun k_ => (k_ ≠ gb485 ∧ k_ ≠ gb498)) (n := t490.length) (c := co28) ?_).2.2; exact (by (with_reducible repeat (first | apply Kd.V_alloc | apply Kd.V_drewN | apply Kd.V_drew)); exact (Kd.V_mono (Kd.V_far (p := ⟨gb498, 1, none⟩) (Kd.V_far (p := ⟨gb498, 0, none⟩) (Kd.V_mono HO492.out (fun k_ hk => (⟨hk, hk.2⟩ : _ ∧ k_ ≠ gb498))) (fun _ hk => hk.2) (.slice Ao28 t490.length co28)) (fun _ hk => hk.2) (.bool t493)) (fun _ h_ => h_.1)))); (case side2 => exact (Kd.V_reads' HO492.out).2.1); rintro e w42 ⟨rfl, hb⟩; have n0_ := Aside0.mk (Kd.V_below (by (with_reducible repeat (first | apply Kd.V_alloc | apply Kd.V_drewN | apply Kd.V_drew)); exact (Kd.V_mono (Kd.V_far (p := ⟨gb498, 1, none⟩) (Kd.V_far (p := ⟨gb498, 0, none⟩) (Kd.V_mono HO_486000.out (fun k_ hk => (⟨hk, hk.2⟩ : _ ∧ k_ ≠ gb498))) (fun _ hk => hk.2) (.slice Ao28 t490.length co28)) (fun _ hk => hk.2) (.bool t493)) (fun _ h_ => h_.1))) hb); have n1_ := Aside0.mk (Kd.V_below (by (with_reducible repeat (first | apply Kd.V_alloc | apply Kd.V_drewN | apply Kd.V_drew)); exact (Kd.V_mono (Kd.V_far (p := ⟨gb498, 1, none⟩) (Kd.V_far (p := ⟨gb498, 0, none⟩) (Kd.V_mono HO492.out (fun k_ hk => (⟨hk, hk.2⟩ : _ ∧ k_ ≠ gb498))) (fun _ hk => hk.2) (.slice Ao28 t490.length co28)) (fun _ hk => hk.2) (.bool t493)) (fun _ h_ => h_.1))) hb); have n2_ := Aside0.mk (Kd.V_below (by (with_reducible repeat (first | apply Kd.V_alloc | apply Kd.V_drewN | apply Kd.V_drew)); exact (Kd.V_mono (Kd.V_far (p := ⟨gb498, 1, none⟩) (Kd.V_far (p := ⟨gb498, 0, none⟩) (Kd.V_mono HO496.out (fun k_ hk => (⟨hk, hk.2⟩ : _ ∧ k_ ≠ gb498))) (fun _ hk => hk.2) (.slice Ao28 t490.length co28)) (fun _ hk => hk.2) (.bool t493)) (fun _ h_ => h_.1))) hb); have n3_ := Aside0.mk (blk_below (g := gb485) (o := .cells #[.slice Ao25 x486000_14.length co25, .bool x486001_14] 28 (0, 0)) (by (with_reducible repeat (first | refine blk_drewN ?_ _ | refine blk_drew ?_ | refine blk_alloc ?_ _)); refine blk_far ?_ NB485_498.out _; (with_reducible repeat (first | refine blk_drewN ?_ _ | refine blk_drew ?_ | refine blk_alloc ?_ _)); refine blk_far ?_ NB485_498.out _; (with_reducible repeat (first | refine blk_drewN ?_ _ | refine blk_drew ?_ | refine blk_alloc ?_ _)); exact BK485.out) hb); have n4_ := Aside0.mk (blk_below (g := gb498) (o := .cells #[.slice Ao28 t490.length co28, .bool t493] 28 (0, 0)) (by (with_reducible repeat (first | refine blk_drewN ?_ _ | refine blk_drew ?_ | refine blk_alloc ?_ _)); refine blk_put (cs := #[.slice Ao28 t490.length co28, .bool false]) ?_ 1 _ rfl; (with_reducible repeat (first | refine blk_drewN ?_ _ | refine blk_drew ?_ | refine blk_alloc ?_ _)); refine blk_put (cs := #[.slice none 0 0, .bool false]) ?_ 0 _ rfl; (with_reducible repeat (first | refine blk_drewN ?_ _ | refine blk_drew ?_ | refine blk_alloc ?_ _)); exact BK498.out) hb); have n5_ := Aside0.mk (below_step (by repeat (first | (with_reducible first | exact HB.out | apply below_alloc | apply pw_below_drewN | apply below_drew1 | refine below_set ?_ GE485.out | refine below_set ?_ GE498.out) | exact HB.out)) hb); clear HO_486000; clear HO492; clear HO496; clear BK485; clear BK498; clear HB; have HO_486000 := n0_; have HO492 := n1_; have HO496 := n2_; have BK485 := n3_; have BK498 := n4_; have HB := n5_; clear n0_ n1_ n2_ n3_ n4_ n5_; (try clear hb); (try clear hb2); (try clear hk); (try clear hi)))
                    go_meet
                    case rel => exact ⟨_, (true), (by first | rfl | (simp; done) | (simp [*]; done)), H', ⟨by have := HJ6.out; have := HJ14.out; first | omega | exact Nat.le_refl _⟩, ⟨by (with_reducible repeat (first | apply Kd.V_alloc | apply Kd.V_drewN | apply Kd.V_drew)); exact HO496.out⟩, ⟨by (with_reducible repeat (first | apply Kd.V_alloc | apply Kd.V_drewN | apply Kd.V_drew)); exact HO_486000.out⟩, ⟨by (with_reducible repeat (first | apply Kd.V_alloc | apply Kd.V_drewN | apply Kd.V_drew)); exact HO492.out⟩, ⟨by (with_reducible repeat (first | refine blk_drewN ?_ _ | refine blk_drew ?_ | refine blk_alloc ?_ _)); exact BK485.out⟩, ⟨by (with_reducible repeat (first | refine blk_drewN ?_ _ | refine blk_drew ?_ | refine blk_alloc ?_ _)); exact BK498.out⟩, ⟨by repeat (first | (with_reducible first | exact HB.out | apply below_alloc | apply pw_below_drewN | apply below_drew1 | refine below_set ?_ GE485.out | refine below_set ?_ GE498.out) | exact HB.out)⟩⟩
              case rest =>
                clear HC23
                try clear c1
                try clear c2
                try clear p2
                try clear c3
                try clear c4
                try clear c4b0
                try clear c4b1
                try clear c8
                try clear c9
                try clear c13
                try clear c13b0
                try clear c13b1
                try clear c14
                try clear c16
                try clear c29
                try clear c31
                try clear c31b0
                try clear c31b1
                try clear c31b2
                try clear c33
                try clear c33b0
                try clear c33b1
                try clear c35
                try clear c40
                try clear hcz12_0
                try clear hcz12_1
                try clear hcz18_0
                try clear hcz18_1
                try clear hcz21_0
                try clear hcz21_1
                try clear hcz24_0
                try clear hcz24_1
                try clear hcz30_0
                try clear hcz30_1
                try clear hcz36_0
                try clear hcz36_1
                try clear hcz38_0
                try clear hcz38_1
                try clear hcz41_0
                try clear hcz41_1
                try clear hfz12_0
                try clear hfz12_1
                try clear hfz18_0
                try clear hfz18_1
                try clear hfz21_0
                try clear hfz21_1
                try clear hfz24_0
                try clear hfz24_1
                try clear hfz30_0
                try clear hfz30_1
                try clear hfz36_0
                try clear hfz36_1
                try clear hfz38_0
                try clear hfz38_1
                try clear hfz41_0
                try clear hfz41_1
                try clear p2
                obtain ⟨kq, x54_22, rfl, HA, HJ22, HO_9, HO_486000, HO_499000, BK485, BK498, HB⟩ := hcut
                cases kq with
                | zero => exact absurd HA.out (by simp [pentroughlaw16_ChansPass.j2])
                | succ kj22 =>
                  have H := HA.out
                  clear HA
                  simp only [pentroughlaw16_ChansPass.j2] at H
                  by_cases c43 : x54_22 = true
                  · subst c43
                    have H1 : (some false) = some r := by rw [if_pos rfl] at H; exact H
                    clear H
                    have H := H1
                    clear H1
                    obtain rfl := Option.some.inj H
                    go_wp2
                    go_ret
                    exact ⟨by first | rfl | (simp [errW_none, errW_some] <;> rfl) | (simp [*, errW_none, errW_some] <;> rfl), by repeat (first | (with_reducible first | exact HB.out | apply below_alloc | apply pw_below_drewN | apply below_drew1 | refine below_set ?_ GE485.out | refine below_set ?_ GE498.out) | exact HB.out)⟩
                  · replace c43 := Bool.eq_false_iff.mpr c43
                    subst c43
                    have H1 : (if t484 = true then (if t479 = true then ((pentroughref01_Same.f kj22 t494 l0).bind fun t501 => (if t501 = true then ((chans_Count.f kj22 x486000_14 x486001_14).bind fun t502 => (if t502 = (l0.length : Int) then ((chans_Spent.f kj22 x486000_14 x486001_14).bind fun t503 => (some (!t503))) else (some false))) else (some false))) else (some false)) else (if t479 = true then (if (t494.length : Int) = 0 then ((chans_Count.f kj22 x486000_14 x486001_14).bind fun t504 => (some (t504 == 0))) else (some false)) else (some false))) = some r := by rw [if_neg (show ¬ (false = true) by decide)] at H; exact H
                    clear H
                    have H := H1
                    clear H1
                    by_cases c44 : t484 = true
                    · subst c44
                      have H1 : (if t479 = true then ((pentroughref01_Same.f kj22 t494 l0).bind fun t501 => (if t501 = true then ((chans_Count.f kj22 x486000_14 x486001_14).bind fun t502 => (if t502 = (l0.length : Int) then ((chans_Spent.f kj22 x486000_14 x486001_14).bind fun t503 => (some (!t503))) else (some false))) else (some false))) else (some false)) = some r := by rw [if_pos rfl] at H; exact H
                      clear H
                      have H := H1
                      clear H1
                      by_cases c45 : t479 = true
                      · subst c45
                        have H1 : ((pentroughref01_Same.f kj22 t494 l0).bind fun t501 => (if t501 = true then ((chans_Count.f kj22 x486000_14 x486001_14).bind fun t502 => (if t502 = (l0.length : Int) then ((chans_Spent.f kj22 x486000_14 x486001_14).bind fun t503 => (some (!t503))) else (some false))) else (some false))) = some r := by rw [if_pos rfl] at H; exact H
                        clear H
                        have H := H1
                        clear H1
                        replace H := Option.bind_eq_some_iff.mp H
                        obtain ⟨t501, A460, H⟩ := H
                        replace H : (if t501 = true then ((chans_Count.f kj22 x486000_14 x486001_14).bind fun t502 => (if t502 = (l0.length : Int) then ((chans_Spent.f kj22 x486000_14 x486001_14).bind fun t503 => (some (!t503))) else (some false))) else (some false)) = some r := H
                        have A46 := Aside0.mk A460
                        clear A460
                        by_cases c47 : t501 = true
                        · subst c47
                          have H1 : ((chans_Count.f kj22 x486000_14 x486001_14).bind fun t502 => (if t502 = (l0.length : Int) then ((chans_Spent.f kj22 x486000_14 x486001_14).bind fun t503 => (some (!t503))) else (some false))) = some r := by rw [if_pos rfl] at H; exact H
                          clear H
                          have H := H1
                          clear H1
                          replace H := Option.bind_eq_some_iff.mp H
                          obtain ⟨t502, A480, H⟩ := H
                          replace H : (if t502 = (l0.length : Int) then ((chans_Spent.f kj22 x486000_14 x486001_14).bind fun t503 => (some (!t503))) else (some false)) = some r := H
                          have A48 := Aside0.mk A480
                          clear A480
                          by_cases c49 : t502 = (l0.length : Int)
                          · rw [if_pos c49] at H
                            have c49b0 : (t502 == (l0.length : Int)) = true := beq_iff_eq.mpr c49
                            have c49b1 : (t502 != (l0.length : Int)) = false := bne_eq_false_iff_eq.mpr c49
                            clear c49
                            replace H := Option.bind_eq_some_iff.mp H
                            obtain ⟨t503, A500, H⟩ := H
                            replace H : (some (!t503)) = some r := H
                            have A50 := Aside0.mk A500
                            clear A500
                            obtain rfl := Option.some.inj H
                            obtain ⟨Ao51, co51, eo51⟩ := Kd.V_slice HO_9.out
                            subst eo51
                            go_wp2_with (first | (go_at_call 18; (with_reducible refine (pentroughref01_Same.calls kj22 _ _ t494 _ _ l0 true _ ?side1 ?side2 ?side3 ?side4 A46.out).mono ?_); (case side1 => repeat (first | exact (Kd.V_reads' HO_9.out).2.2 | (with_reducible refine Kd.C_alloc ?_ _) | (with_reducible refine Kd.C_drewN ?_ _) | (with_reducible refine Kd.C_drew ?_))); (case side2 => exact (Kd.V_reads' HO_9.out).2.1); (case side3 => repeat (first | exact (Kd.C_below HR0.out HB.out) | (with_reducible refine Kd.C_alloc ?_ _) | (with_reducible refine Kd.C_drewN ?_ _) | (with_reducible refine Kd.C_drew ?_))); (case side4 => exact HC0.out); rintro e w' ⟨rfl, ⟨nd, rfl⟩⟩; have hnb52 := NB485_498.out; have hnc52 := NB498_485.out; have hcz53_0 : wc.cell? ⟨gb485, 0, none⟩ = some (.slice Ao25 x486000_14.length co25) := (blk_cell BK485.out 0).trans rfl; have hcz53_1 : wc.cell? ⟨gb485, 1, none⟩ = some (.bool x486001_14) := (blk_cell BK485.out 1).trans rfl; have hfz53_0 := blk_frozen BK485.out 0; have hfz53_1 := blk_frozen BK485.out 1) | (go_at_call 17; (with_reducible refine (chans_Count.calls kj22 _ _ x486000_14 x486001_14 t502 _ ?side1 ?side2 A48.out).mono ?_); (case side1 => repeat (first | exact (Kd.V_reads' HO_486000.out).2.2 | (with_reducible refine Kd.C_alloc ?_ _) | (with_reducible refine Kd.C_drewN ?_ _) | (with_reducible refine Kd.C_drew ?_))); (case side2 => exact (Kd.V_reads' HO_486000.out).2.1); rintro e w54 ⟨rfl, hb⟩; have n0_ := Aside0.mk (Kd.V_below (by (with_reducible repeat (first | apply Kd.V_alloc | apply Kd.V_drewN | apply Kd.V_drew)); exact HO_9.out) hb); have n1_ := Aside0.mk (Kd.V_below (by (with_reducible repeat (first | apply Kd.V_alloc | apply Kd.V_drewN | apply Kd.V_drew)); exact HO_486000.out) hb); have n2_ := Aside0.mk (Kd.V_below (by (with_reducible repeat (first | apply Kd.V_alloc | apply Kd.V_drewN | apply Kd.V_drew)); exact HO_499000.out) hb); have n3_ := Aside0.mk (blk_below (g := gb485) (o := .cells #[.slice Ao25 x486000_14.length co25, .bool x486001_14] 28 (0, 0)) (by (with_reducible repeat (first | refine blk_drewN ?_ _ | refine blk_drew ?_ | refine blk_alloc ?_ _)); exact BK485.out) hb); have n4_ := Aside0.mk (blk_below (g := gb498) (o := .cells #[.slice Ao28 t490.length co28, .bool t493] 28 (0, 0)) (by (with_reducible repeat (first | refine blk_drewN ?_ _ | refine blk_drew ?_ | refine blk_alloc ?_ _)); exact BK498.out) hb); have n5_ := Aside0.mk (below_step (by repeat (first | (with_reducible first | exact HB.out | apply below_alloc | apply pw_below_drewN | apply below_drew1 | refine below_set ?_ GE485.out | refine below_set ?_ GE498.out) | exact HB.out)) hb); clear HO_9; clear HO_486000; clear HO_499000; clear BK485; clear BK498; clear HB; have HO_9 := n0_; have HO_486000 := n1_; have HO_499000 := n2_; have BK485 := n3_; have BK498 := n4_; have HB := n5_; clear n0_ n1_ n2_ n3_ n4_ n5_; (try clear hb); (try clear hb2); (try clear hk); (try clear hi); have hcz55_0 : w54.cell? ⟨gb485, 0, none⟩ = some (.slice Ao25 x486000_14.length co25) := (blk_cell BK485.out 0).trans rfl; have hcz55_1 : w54.cell? ⟨gb485, 1, none⟩ = some (.bool x486001_14) := (blk_cell BK485.out 1).trans rfl; have hfz55_0 := blk_frozen BK485.out 0; have hfz55_1 := blk_frozen BK485.out 1) | (go_at_call 24; (with_reducible refine (chans_Spent.calls kj22 _ _ x486000_14 x486001_14 t503 _ ?side1 ?side2 A50.out).mono ?_); (case side1 => repeat (first | exact (Kd.V_reads' HO_486000.out).2.2 | (with_reducible refine Kd.C_alloc ?_ _) | (with_reducible refine Kd.C_drewN ?_ _) | (with_reducible refine Kd.C_drew ?_))); (case side2 => exact (Kd.V_reads' HO_486000.out).2.1); rintro e w56 ⟨rfl, hb⟩; have n0_ := Aside0.mk (Kd.V_below (by (with_reducible repeat (first | apply Kd.V_alloc | apply Kd.V_drewN | apply Kd.V_drew)); exact HO_9.out) hb); have n1_ := Aside0.mk (Kd.V_below (by (with_reducible repeat (first | apply Kd.V_alloc | apply Kd.V_drewN | apply Kd.V_drew)); exact HO_486000.out) hb); have n2_ := Aside0.mk (Kd.V_below (by (with_reducible repeat (first | apply Kd.V_alloc | apply Kd.V_drewN | apply Kd.V_drew)); exact HO_499000.out) hb); have n3_ := Aside0.mk (blk_below (g := gb485) (o := .cells #[.slice Ao25 x486000_14.length co25, .bool x486001_14] 28 (0, 0)) (by (with_reducible repeat (first | refine blk_drewN ?_ _ | refine blk_drew ?_ | refine blk_alloc ?_ _)); exact BK485.out) hb); have n4_ := Aside0.mk (blk_below (g := gb498) (o := .cells #[.slice Ao28 t490.length co28, .bool t493] 28 (0, 0)) (by (with_reducible repeat (first | refine blk_drewN ?_ _ | refine blk_drew ?_ | refine blk_alloc ?_ _)); exact BK498.out) hb); have n5_ := Aside0.mk (below_step (by repeat (first | (with_reducible first | exact HB.out | apply below_alloc | apply pw_below_drewN | apply below_drew1 | refine below_set ?_ GE485.out | refine below_set ?_ GE498.out) | exact HB.out)) hb); clear HO_9; clear HO_486000; clear HO_499000; clear BK485; clear BK498; clear HB; have HO_9 := n0_; have HO_486000 := n1_; have HO_499000 := n2_; have BK485 := n3_; have BK498 := n4_; have HB := n5_; clear n0_ n1_ n2_ n3_ n4_ n5_; (try clear hb); (try clear hb2); (try clear hk); (try clear hi)))
                            go_ret
                            exact ⟨by first | rfl | (simp [errW_none, errW_some] <;> rfl) | (simp [*, errW_none, errW_some] <;> rfl), by repeat (first | (with_reducible first | exact HB.out | apply below_alloc | apply pw_below_drewN | apply below_drew1 | refine below_set ?_ GE485.out | refine below_set ?_ GE498.out) | exact HB.out)⟩
                          · rw [if_neg c49] at H
                            have c49b0 : (t502 == (l0.length : Int)) = false := beq_eq_false_iff_ne.mpr c49
                            have c49b1 : (t502 != (l0.length : Int)) = true := bne_iff_ne.mpr c49
                            obtain rfl := Option.some.inj H
                            obtain ⟨Ao57, co57, eo57⟩ := Kd.V_slice HO_9.out
                            subst eo57
                            go_wp2_with (first | (go_at_call 18; (with_reducible refine (pentroughref01_Same.calls kj22 _ _ t494 _ _ l0 true _ ?side1 ?side2 ?side3 ?side4 A46.out).mono ?_); (case side1 => repeat (first | exact (Kd.V_reads' HO_9.out).2.2 | (with_reducible refine Kd.C_alloc ?_ _) | (with_reducible refine Kd.C_drewN ?_ _) | (with_reducible refine Kd.C_drew ?_))); (case side2 => exact (Kd.V_reads' HO_9.out).2.1); (case side3 => repeat (first | exact (Kd.C_below HR0.out HB.out) | (with_reducible refine Kd.C_alloc ?_ _) | (with_reducible refine Kd.C_drewN ?_ _) | (with_reducible refine Kd.C_drew ?_))); (case side4 => exact HC0.out); rintro e w' ⟨rfl, ⟨nd, rfl⟩⟩; have hnb58 := NB485_498.out; have hnc58 := NB498_485.out; have hcz59_0 : wc.cell? ⟨gb485, 0, none⟩ = some (.slice Ao25 x486000_14.length co25) := (blk_cell BK485.out 0).trans rfl; have hcz59_1 : wc.cell? ⟨gb485, 1, none⟩ = some (.bool x486001_14) := (blk_cell BK485.out 1).trans rfl; have hfz59_0 := blk_frozen BK485.out 0; have hfz59_1 := blk_frozen BK485.out 1) | (go_at_call 17; (with_reducible refine (chans_Count.calls kj22 _ _ x486000_14 x486001_14 t502 _ ?side1 ?side2 A48.out).mono ?_); (case side1 => repeat (first | exact (Kd.V_reads' HO_486000.out).2.2 | (with_reducible refine Kd.C_alloc ?_ _) | (with_reducible refine Kd.C_drewN ?_ _) | (with_reducible refine Kd.C_drew ?_))); (case side2 => exact (Kd.V_reads' HO_486000.out).2.1); rintro e w60 ⟨rfl, hb⟩; have n0_ := Aside0.mk (Kd.V_below (by (with_reducible repeat (first | apply Kd.V_alloc | apply Kd.V_drewN | apply Kd.V_drew)); exact HO_9.out) hb); have n1_ := Aside0.mk (Kd.V_below (by (with_reducible repeat (first | apply Kd.V_alloc | apply Kd.V_drewN | apply Kd.V_drew)); exact HO_486000.out) hb); have n2_ := Aside0.mk (Kd.V_below (by (with_reducible repeat (first | apply Kd.V_alloc | apply Kd.V_drewN | apply Kd.V_drew)); exact HO_499000.out) hb); have n3_ := Aside0.mk (blk_below (g := gb485) (o := .cells #[.slice Ao25 x486000_14.length co25, .bool x486001_14] 28 (0, 0)) (by (with_reducible repeat (first | refine blk_drewN ?_ _ | refine blk_drew ?_ | refine blk_alloc ?_ _)); exact BK485.out) hb); have n4_ := Aside0.mk (blk_below (g := gb498) (o := .cells #[.slice Ao28 t490.length co28, .bool t493] 28 (0, 0)) (by (with_reducible repeat (first | refine blk_drewN ?_ _ | refine blk_drew ?_ | refine blk_alloc ?_ _)); exact BK498.out) hb); have n5_ := Aside0.mk (below_step (by repeat (first | (with_reducible first | exact HB.out | apply below_alloc | apply pw_below_drewN | apply below_drew1 | refine below_set ?_ GE485.out | refine below_set ?_ GE498.out) | exact HB.out)) hb); clear HO_9; clear HO_486000; clear HO_499000; clear BK485; clear BK498; clear HB; have HO_9 := n0_; have HO_486000 := n1_; have HO_499000 := n2_; have BK485 := n3_; have BK498 := n4_; have HB := n5_; clear n0_ n1_ n2_ n3_ n4_ n5_; (try clear hb); (try clear hb2); (try clear hk); (try clear hi)))
                            go_ret
                            exact ⟨by first | rfl | (simp [errW_none, errW_some] <;> rfl) | (simp [*, errW_none, errW_some] <;> rfl), by repeat (first | (with_reducible first | exact HB.out | apply below_alloc | apply pw_below_drewN | apply below_drew1 | refine below_set ?_ GE485.out | refine below_set ?_ GE498.out) | exact HB.out)⟩
                        · replace c47 := Bool.eq_false_iff.mpr c47
                          subst c47
                          have H1 : (some false) = some r := by rw [if_neg (show ¬ (false = true) by decide)] at H; exact H
                          clear H
                          have H := H1
                          clear H1
                          obtain rfl := Option.some.inj H
                          obtain ⟨Ao61, co61, eo61⟩ := Kd.V_slice HO_9.out
                          subst eo61
                          go_wp2_with (first | (go_at_call 18; (with_reducible refine (pentroughref01_Same.calls kj22 _ _ t494 _ _ l0 false _ ?side1 ?side2 ?side3 ?side4 A46.out).mono ?_); (case side1 => repeat (first | exact (Kd.V_reads' HO_9.out).2.2 | (with_reducible refine Kd.C_alloc ?_ _) | (with_reducible refine Kd.C_drewN ?_ _) | (with_reducible refine Kd.C_drew ?_))); (case side2 => exact (Kd.V_reads' HO_9.out).2.1); (case side3 => repeat (first | exact (Kd.C_below HR0.out HB.out) | (with_reducible refine Kd.C_alloc ?_ _) | (with_reducible refine Kd.C_drewN ?_ _) | (with_reducible refine Kd.C_drew ?_))); (case side4 => exact HC0.out); rintro e w' ⟨rfl, ⟨nd, rfl⟩⟩))
                          go_ret
                          exact ⟨by first | rfl | (simp [errW_none, errW_some] <;> rfl) | (simp [*, errW_none, errW_some] <;> rfl), by repeat (first | (with_reducible first | exact HB.out | apply below_alloc | apply pw_below_drewN | apply below_drew1 | refine below_set ?_ GE485.out | refine below_set ?_ GE498.out) | exact HB.out)⟩
                      · replace c45 := Bool.eq_false_iff.mpr c45
                        subst c45
                        have H1 : (some false) = some r := by rw [if_neg (show ¬ (false = true) by decide)] at H; exact H
                        clear H
                        have H := H1
                        clear H1
                        obtain rfl := Option.some.inj H
                        go_wp2
                        go_ret
                        exact ⟨by first | rfl | (simp [errW_none, errW_some] <;> rfl) | (simp [*, errW_none, errW_some] <;> rfl), by repeat (first | (with_reducible first | exact HB.out | apply below_alloc | apply pw_below_drewN | apply below_drew1 | refine below_set ?_ GE485.out | refine below_set ?_ GE498.out) | exact HB.out)⟩
                    · replace c44 := Bool.eq_false_iff.mpr c44
                      subst c44
                      have H1 : (if t479 = true then (if (t494.length : Int) = 0 then ((chans_Count.f kj22 x486000_14 x486001_14).bind fun t504 => (some (t504 == 0))) else (some false)) else (some false)) = some r := by rw [if_neg (show ¬ (false = true) by decide)] at H; exact H
                      clear H
                      have H := H1
                      clear H1
                      by_cases c62 : t479 = true
                      · subst c62
                        have H1 : (if (t494.length : Int) = 0 then ((chans_Count.f kj22 x486000_14 x486001_14).bind fun t504 => (some (t504 == 0))) else (some false)) = some r := by rw [if_pos rfl] at H; exact H
                        clear H
                        have H := H1
                        clear H1
                        by_cases c63 : (t494.length : Int) = 0
                        · rw [if_pos c63] at H
                          have c63b0 : ((t494.length : Int) == 0) = true := beq_iff_eq.mpr c63
                          have c63b1 : ((t494.length : Int) != 0) = false := bne_eq_false_iff_eq.mpr c63
                          clear c63
                          replace H := Option.bind_eq_some_iff.mp H
                          obtain ⟨t504, A640, H⟩ := H
                          replace H : (some (t504 == 0)) = some r := H
                          have A64 := Aside0.mk A640
                          clear A640
                          obtain rfl := Option.some.inj H
                          obtain ⟨Ao65, co65, eo65⟩ := Kd.V_slice HO_9.out
                          subst eo65
                          have hnb66 := NB485_498.out
                          have hnc66 := NB498_485.out
                          have hcz67_0 : wc.cell? ⟨gb485, 0, none⟩ = some (.slice Ao25 x486000_14.length co25) := (blk_cell BK485.out 0).trans rfl
                          have hcz67_1 : wc.cell? ⟨gb485, 1, none⟩ = some (.bool x486001_14) := (blk_cell BK485.out 1).trans rfl
                          have hfz67_0 := blk_frozen BK485.out 0
                          have hfz67_1 := blk_frozen BK485.out 1
                          go_wp2_with (first | (go_at_call 17; (with_reducible refine (chans_Count.calls kj22 _ _ x486000_14 x486001_14 t504 _ ?side1 ?side2 A64.out).mono ?_); (case side1 => repeat (first | exact (Kd.V_reads' HO_486000.out).2.2 | (with_reducible refine Kd.C_alloc ?_ _) | (with_reducible refine Kd.C_drewN ?_ _) | (with_reducible refine Kd.C_drew ?_))); (case side2 => exact (Kd.V_reads' HO_486000.out).2.1); rintro e w68 ⟨rfl, hb⟩; have n0_ := Aside0.mk (Kd.V_below (by (with_reducible repeat (first | apply Kd.V_alloc | apply Kd.V_drewN | apply Kd.V_drew)); exact HO_9.out) hb); have n1_ := Aside0.mk (Kd.V_below (by (with_reducible repeat (first | apply Kd.V_alloc | apply Kd.V_drewN | apply Kd.V_drew)); exact HO_486000.out) hb); have n2_ := Aside0.mk (Kd.V_below (by (with_reducible repeat (first | apply Kd.V_alloc | apply Kd.V_drewN | apply Kd.V_drew)); exact HO_499000.out) hb); have n3_ := Aside0.mk (blk_below (g := gb485) (o := .cells #[.slice Ao25 x486000_14.length co25, .bool x486001_14] 28 (0, 0)) (by (with_reducible repeat (first | refine blk_drewN ?_ _ | refine blk_drew ?_ | refine blk_alloc ?_ _)); exact BK485.out) hb); have n4_ := Aside0.mk (blk_below (g := gb498) (o := .cells #[.slice Ao28 t490.length co28, .bool t493] 28 (0, 0)) (by (with_reducible repeat (first | refine blk_drewN ?_ _ | refine blk_drew ?_ | refine blk_alloc ?_ _)); exact BK498.out) hb); have n5_ := Aside0.mk (below_step (by repeat (first | (with_reducible first | exact HB.out | apply below_alloc | apply pw_below_drewN | apply below_drew1 | refine below_set ?_ GE485.out | refine below_set ?_ GE498.out) | exact HB.out)) hb); clear HO_9; clear HO_486000; clear HO_499000; clear BK485; clear BK498; clear HB; have HO_9 := n0_; have HO_486000 := n1_; have HO_499000 := n2_; have BK485 := n3_; have BK498 := n4_; have HB := n5_; clear n0_ n1_ n2_ n3_ n4_ n5_; (try clear hb); (try clear hb2); (try clear hk); (try clear hi)))
                          go_ret
                          exact ⟨by first | rfl | (simp [errW_none, errW_some] <;> rfl) | (simp [*, errW_none, errW_some] <;> rfl), by repeat (first | (with_reducible first | exact HB.out | apply below_alloc | apply pw_below_drewN | apply below_drew1 | refine below_set ?_ GE485.out | refine below_set ?_ GE498.out) | exact HB.out)⟩
                        · rw [if_neg c63] at H
                          have c63b0 : ((t494.length : Int) == 0) = false := beq_eq_false_iff_ne.mpr c63
                          have c63b1 : ((t494.length : Int) != 0) = true := bne_iff_ne.mpr c63
                          have c63b2 : ¬ (t494 = []) := fun h_ => c63 (by rw [h_]; rfl)
                          obtain rfl := Option.some.inj H
                          obtain ⟨Ao69, co69, eo69⟩ := Kd.V_slice HO_9.out
                          subst eo69
                          go_wp2
                          go_ret
                          exact ⟨by first | rfl | (simp [errW_none, errW_some] <;> rfl) | (simp [*, errW_none, errW_some] <;> rfl), by repeat (first | (with_reducible first | exact HB.out | apply below_alloc | apply pw_below_drewN | apply below_drew1 | refine below_set ?_ GE485.out | refine below_set ?_ GE498.out) | exact HB.out)⟩
                      · replace c62 := Bool.eq_false_iff.mpr c62
                        subst c62
                        have H1 : (some false) = some r := by rw [if_neg (show ¬ (false = true) by decide)] at H; exact H
                        clear H
                        have H := H1
                        clear H1
                        obtain rfl := Option.some.inj H
                        go_wp2
                        go_ret
                        exact ⟨by first | rfl | (simp [errW_none, errW_some] <;> rfl) | (simp [*, errW_none, errW_some] <;> rfl), by repeat (first | (with_reducible first | exact HB.out | apply below_alloc | apply pw_below_drewN | apply below_drew1 | refine below_set ?_ GE485.out | refine below_set ?_ GE498.out) | exact HB.out)⟩

/-- THE ONE PURE STATEMENT of pentroughlaw16_ChansPass: yours. -/
def pentroughlaw16_ChansPass.Pure : Prop := ∀ (l0 : List Int) (a1 : Bool), l0.length ≤ maxLen → l0.length * 8 ≤ 140737488351232 → (∀ x ∈ l0, (Lit.int .i64 x).wf = true) → ∃ k, pentroughlaw16_ChansPass.f k l0 a1 = some true
theorem pentroughlaw16_ChansPass.walk (P : pentroughlaw16_ChansPass.Pure) (a0 : Option Addr) (len0 cap0 : Nat) (z0 : List Int) (a1 : Bool) (w : World) (w0 : (a0 = none ∧ len0 = 0 ∧ cap0 = 0 ∧ z0 = []) ∨ ∃ x, a0 = some x ∧ len0 ≤ cap0 ∧ cap0 ≤ maxLen ∧ z0.length = cap0 ∧ (∀ i, i < z0.length → w.cell? (x.add i) = some (.int .i64 (z0.getD i 0))) ∧ ∀ n ∈ z0, (Lit.int .i64 n).wf = true) (y0 : len0 * 8 ≤ 140737488351232) :
    Calls Try.prog 8 #[.slice a0 len0 cap0, .bool a1] w fun e w' => e = .returned (.bool true) ∧ Below w.heap.size w w' := by
  obtain ⟨l0, rfl, hr0, hm0, hw0, hc0⟩ := ReadsInt.ofRowC w0
  obtain ⟨k, h⟩ := P l0 a1 hm0 y0 hw0
  refine (pentroughlaw16_ChansPass.calls k _ _ l0 a1 true w (Kd.C_of_reads (d := (0 : Int)) (h1 := fun _ => rfl) hr0) hc0 h).mono ?_
  rintro e w' ⟨rfl, hd⟩
  exact ⟨rfl, hd⟩

end Go.Proofs.Ytneomcnfbnfjbaa.Q
