-- Laid by mix.py, a program of this session, with the kit's print.py; walks by hand come out of wip/over.
import Derived.Test.YtocmnggcbpdnjaaShort
import Derived.Test.YtocmnggcbpdnjaaCat
import Derived.Deep.RegionHeld3
import Derived.Test.YtocmnggcbpdnjaaI0
namespace Go.Proofs.Ytocmnggcbpdnjaa.I
open Go.RowKit Go.Proofs.YtocmnggcbpdnjaaW.PrintWords Go.Proofs.YtocmnggcbpdnjaaW.PrintLast Go.Proofs.YtocmnggcbpdnjaaW.PrintMore Go.Proofs.YtocmnggcbpdnjaaW.Sh
attribute [local go_sem] max2_int min2_int max_two min_two max_three min_three max_four min_four   -- for this text's walks alone
set_option linter.unusedVariables false
set_option linter.unusedSimpArgs false

/-! ### wire_Sane: function 15 -/
def wire_Sane.f (l0_0 : List Int) (a0_1 : Bool) (a0_2 : Int) (l0_3 : List Int) : Option (Bool) := if (l0_0.length : Int) ≤ 4096 then (if a0_2 ≥ 0 then (some (decide (a0_2 ≤ 4096))) else (some false)) else (some false)
set_option maxHeartbeats 8000000 in
set_option maxRecDepth 100000 in
theorem wire_Sane.calls (A0_0 : Option Addr) (c0_0 : Nat) (l0_0 : List Int) (a0_1 : Bool) (a0_2 : Int) (A0_3 : Option Addr) (c0_3 : Nat) (l0_3 : List Int) (r : Bool) (w : World) (hr0_0 : Kd.C (Kd.int .u8) w A0_0 l0_0.length l0_0) (hc0_0 : l0_0.length ≤ c0_0) (hr0_3 : Kd.C (Kd.int .u8) w A0_3 l0_3.length l0_3) (hc0_3 : l0_3.length ≤ c0_3) (h : wire_Sane.f l0_0 a0_1 a0_2 l0_3 = some r) :
    Calls Try.prog 15 #[.agg #[.slice A0_0 l0_0.length c0_0, .bool a0_1, .int .i64 a0_2, .slice A0_3 l0_3.length c0_3]] w fun e w' => e = .returned (.bool r) ∧ Below w.heap.size w w' := by
  have hu27 := Try.underlying27
  have HR0_0 := Aside0.mk hr0_0
  have HC0_0 := Aside0.mk hc0_0
  clear hr0_0 hc0_0
  have HR0_3 := Aside0.mk hr0_3
  have HC0_3 := Aside0.mk hc0_3
  clear hr0_3 hc0_3
  have HB := Aside0.mk (Below.refl w.heap.size w)
  have H : (if (l0_0.length : Int) ≤ 4096 then (if a0_2 ≥ 0 then (some (decide (a0_2 ≤ 4096))) else (some false)) else (some false)) = some r := h
  clear h
  by_cases c2 : (l0_0.length : Int) ≤ 4096
  · rw [if_pos c2] at H
    have c2b0 : decide ((l0_0.length : Int) ≤ 4096) = true := decide_eq_true c2
    have c2b1 : decide (l0_0.length ≤ 4096) = true := decide_eq_true (by omega)
    clear c2
    by_cases c3 : a0_2 ≥ 0
    · rw [if_pos c3] at H
      have c3b0 : decide (0 ≤ a0_2) = true := decide_eq_true c3
      clear c3
      obtain rfl := Option.some.inj H
      go_enter Try.func15, Try.ntmps15
      go_wp2_with (first | ((with_reducible refine gate_dst (N := 1) rfl ?_); refine box_event ?hg (N := 1) ?hd (cs := #[.slice A0_0 l0_0.length c0_0, .bool a0_1, .int .i64 a0_2, .slice A0_3 l0_3.length c0_3]) (t := 27) ?hr ?_; (case hd => rfl); (case hg => rfl); (case hr => first | (go_simp; done) | (go_simp; rfl)); intro gb101 hg w4 hbox hb; have BK101 := Aside0.mk hbox; have GW101 := gE HB hg; have GE101 := gE HB hg; replace HB := hB HB hb; clear hb hbox hg; obtain ⟨hcz5_0, hcz5_1, hcz5_2, hcz5_3, hfz5_0, hfz5_1, hfz5_2, hfz5_3⟩ := bc4 BK101))
      go_ret
      exact ⟨by first | rfl | (simp [errW_none, errW_some] <;> rfl) | (simp [*, errW_none, errW_some] <;> rfl), by repeat (first | (with_reducible first | exact HB.out | apply below_alloc | apply pw_below_drewN | apply below_drew1 | refine below_set ?_ GE101.out) | exact HB.out)⟩
    · rw [if_neg c3] at H
      have c3b0 : decide (0 ≤ a0_2) = false := decide_eq_false c3
      clear c3
      obtain rfl := Option.some.inj H
      go_enter Try.func15, Try.ntmps15
      go_wp2_with (first | ((with_reducible refine gate_dst (N := 1) rfl ?_); refine box_event ?hg (N := 1) ?hd (cs := #[.slice A0_0 l0_0.length c0_0, .bool a0_1, .int .i64 a0_2, .slice A0_3 l0_3.length c0_3]) (t := 27) ?hr ?_; (case hd => rfl); (case hg => rfl); (case hr => first | (go_simp; done) | (go_simp; rfl)); intro gb101 hg w6 hbox hb; have BK101 := Aside0.mk hbox; have GW101 := gE HB hg; have GE101 := gE HB hg; replace HB := hB HB hb; clear hb hbox hg; obtain ⟨hcz7_0, hcz7_1, hcz7_2, hcz7_3, hfz7_0, hfz7_1, hfz7_2, hfz7_3⟩ := bc4 BK101))
      go_ret
      exact ⟨by first | rfl | (simp [errW_none, errW_some] <;> rfl) | (simp [*, errW_none, errW_some] <;> rfl), by repeat (first | (with_reducible first | exact HB.out | apply below_alloc | apply pw_below_drewN | apply below_drew1 | refine below_set ?_ GE101.out) | exact HB.out)⟩
  · rw [if_neg c2] at H
    have c2b0 : decide ((l0_0.length : Int) ≤ 4096) = false := decide_eq_false c2
    have c2b1 : decide (l0_0.length ≤ 4096) = false := decide_eq_false (by omega)
    clear c2
    obtain rfl := Option.some.inj H
    go_enter Try.func15, Try.ntmps15
    go_wp2_with (first | ((with_reducible refine gate_dst (N := 1) rfl ?_); refine box_event ?hg (N := 1) ?hd (cs := #[.slice A0_0 l0_0.length c0_0, .bool a0_1, .int .i64 a0_2, .slice A0_3 l0_3.length c0_3]) (t := 27) ?hr ?_; (case hd => rfl); (case hg => rfl); (case hr => first | (go_simp; done) | (go_simp; rfl)); intro gb101 hg w8 hbox hb; have BK101 := Aside0.mk hbox; have GW101 := gE HB hg; have GE101 := gE HB hg; replace HB := hB HB hb; clear hb hbox hg; obtain ⟨hcz9_0, hcz9_1, hcz9_2, hcz9_3, hfz9_0, hfz9_1, hfz9_2, hfz9_3⟩ := bc4 BK101))
    go_ret
    exact ⟨by first | rfl | (simp [errW_none, errW_some] <;> rfl) | (simp [*, errW_none, errW_some] <;> rfl), by repeat (first | (with_reducible first | exact HB.out | apply below_alloc | apply pw_below_drewN | apply below_drew1 | refine below_set ?_ GE101.out) | exact HB.out)⟩

/-! ### wire_sane: function 28 -/
def wire_sane.f (l0_0 : List Int) (a0_1 : Bool) (a0_2 : Int) (l0_3 : List Int) : Option (List Int × Bool × Int × List Int) := (wire_Sane.f l0_0 a0_1 a0_2 l0_3).bind fun t104 => (if t104 = true then (some (l0_0, a0_1, a0_2, l0_3)) else (some (([] : List Int), false, 0, ([] : List Int))))
set_option maxHeartbeats 8000000 in
set_option maxRecDepth 100000 in
theorem wire_sane.calls (P0_0_ : Nat → Prop) (A0_0 : Option Addr) (c0_0 : Nat) (l0_0 : List Int) (a0_1 : Bool) (a0_2 : Int) (P0_3_ : Nat → Prop) (A0_3 : Option Addr) (c0_3 : Nat) (l0_3 : List Int) (r1 : List Int) (r2 : Bool) (r3 : Int) (r4 : List Int) (w : World) (hs0_0 : Kd.V (Kd.int .u8) 5 w w.heap.size (fun k_ => P0_0_ k_) (.slice A0_0 l0_0.length c0_0) l0_0) (hs0_3 : Kd.V (Kd.int .u8) 5 w w.heap.size (fun k_ => P0_3_ k_) (.slice A0_3 l0_3.length c0_3) l0_3) (h : wire_sane.f l0_0 a0_1 a0_2 l0_3 = some (r1, r2, r3, r4)) :
    Calls Try.prog 28 #[.agg #[.slice A0_0 l0_0.length c0_0, .bool a0_1, .int .i64 a0_2, .slice A0_3 l0_3.length c0_3]] w fun e w' => ∃ v0_ v3_ : Value, e = .returned (.agg #[v0_, .bool r2, .int .i64 r3, v3_]) ∧ Kd.V (Kd.int .u8) 5 w' w.heap.size (fun k_ => ((P0_0_ k_ ∨ P0_3_ k_) ∨ w.heap.size ≤ k_)) v0_ r1 ∧ Kd.V (Kd.int .u8) 5 w' w.heap.size (fun k_ => ((P0_0_ k_ ∨ P0_3_ k_) ∨ w.heap.size ≤ k_)) v3_ r4 ∧ Below w.heap.size w w' := by
  have hu27 := Try.underlying27
  have HO0_0 := Aside0.mk (show Kd.V (Kd.int .u8) 5 w w.heap.size (fun k_ => ((P0_0_ k_ ∨ P0_3_ k_) ∨ w.heap.size ≤ k_)) (.slice A0_0 l0_0.length c0_0) l0_0 from Kd.V_mono hs0_0 (fun k_ hk => .inl (.inl hk)))
  have HO0_3 := Aside0.mk (show Kd.V (Kd.int .u8) 5 w w.heap.size (fun k_ => ((P0_0_ k_ ∨ P0_3_ k_) ∨ w.heap.size ≤ k_)) (.slice A0_3 l0_3.length c0_3) l0_3 from Kd.V_mono hs0_3 (fun k_ hk => .inl (.inr hk)))
  have HB := Aside0.mk (Below.refl w.heap.size w)
  have H : ((wire_Sane.f l0_0 a0_1 a0_2 l0_3).bind fun t104 => (if t104 = true then (some (l0_0, a0_1, a0_2, l0_3)) else (some (([] : List Int), false, 0, ([] : List Int))))) = some (r1, r2, r3, r4) := h
  clear h
  replace H := Option.bind_eq_some_iff.mp H
  obtain ⟨t104, A20, H⟩ := H
  replace H : (if t104 = true then (some (l0_0, a0_1, a0_2, l0_3)) else (some (([] : List Int), false, 0, ([] : List Int)))) = some (r1, r2, r3, r4) := H
  have A2 := Aside0.mk A20
  clear A20
  by_cases c3 : t104 = true
  · subst c3
    have H1 : (some (l0_0, a0_1, a0_2, l0_3)) = some (r1, r2, r3, r4) := by rw [if_pos rfl] at H; exact H
    clear H
    have H := H1
    clear H1
    simp only [Option.some.injEq, Prod.mk.injEq] at H
    obtain ⟨rfl, rfl, rfl, rfl⟩ := H
    go_enter Try.func28, Try.ntmps28
    go_wp2_with (first | ((with_reducible refine gate_dst (N := 1) rfl ?_); refine box_event ?hg (N := 1) ?hd (cs := #[.slice A0_0 l0_0.length c0_0, .bool a0_1, .int .i64 a0_2, .slice A0_3 l0_3.length c0_3]) (t := 27) ?hr ?_; (case hd => rfl); (case hg => rfl); (case hr => first | (go_simp; done) | (go_simp; rfl)); intro gb102 hg w4 hbox hb; replace HO0_0 := vE HO0_0 hg hb; replace HO0_3 := vE HO0_3 hg hb; have BK102 := Aside0.mk hbox; have GW102 := gE HB hg; have GE102 := gE HB hg; replace HB := hB HB hb; clear hb hbox hg) | ((with_reducible refine gate_dst (N := 2) rfl ?_); refine box_event ?hg (N := 2) ?hd (cs := #[.slice none 0 0, .bool false, .int .i64 0, .slice none 0 0]) (t := 27) ?hr ?_; (case hd => rfl); (case hg => rfl); (case hr => first | (go_simp; done) | (go_simp; rfl)); intro gb103 hg w5 hbox hb; replace HO0_0 := vE HO0_0 hg hb; replace HO0_3 := vE HO0_3 hg hb; have BK103 := Aside0.mk hbox; have GW103 := gE HB hg; have GE103 := gE HB hg; replace HB := hB HB hb; have NB102_103 := nL BK102 hg; have NB103_102 := nG BK102 hg; replace BK102 := kB BK102 hb; clear hb hbox hg; have hnb6 := NB102_103.out; have hnc6 := NB103_102.out; obtain ⟨hcz7_0, hcz7_1, hcz7_2, hcz7_3, hfz7_0, hfz7_1, hfz7_2, hfz7_3⟩ := bc4 BK102) | ((with_reducible refine gate_callee (f := 15) rfl ?_); refine gL (some 4) rfl rfl Try.func15 (by kernel_rfl) rfl #[.agg #[.slice A0_0 l0_0.length c0_0, .bool a0_1, .int .i64 a0_2, .slice A0_3 l0_3.length c0_3]] rfl ?_; (with_reducible refine (wire_Sane.calls _ _ l0_0 a0_1 a0_2 _ _ l0_3 true _ ?side1 ?side2 ?side3 ?side4 A2.out).mono ?_); (case side1 => exact (Kd.V_reads' (vv HO0_0)).2.2); (case side2 => exact (Kd.V_reads' HO0_0.out).2.1); (case side3 => exact (Kd.V_reads' (vv HO0_3)).2.2); (case side4 => exact (Kd.V_reads' HO0_3.out).2.1); rintro e w8 ⟨rfl, hb⟩; refine ⟨_, rfl, ?_⟩; replace HO0_0 := vB HO0_0 hb; replace HO0_3 := vB HO0_3 hb; replace BK102 := kB BK102 hb; replace BK103 := kB BK103 hb; replace HB := hB HB hb; (try clear hb); (try clear hb2); (try clear hk); (try clear hi); obtain ⟨hcz9_0, hcz9_1, hcz9_2, hcz9_3, hfz9_0, hfz9_1, hfz9_2, hfz9_3⟩ := bc4 BK102; obtain ⟨hcz10_0, hcz10_1, hcz10_2, hcz10_3, hfz10_0, hfz10_1, hfz10_2, hfz10_3⟩ := bc4 BK103))
    refine bodyPost_ret (results_cell_row rfl _ _ gb103 27 #[.slice A0_0 l0_0.length c0_0, .bool a0_1, .int .i64 a0_2, .slice A0_3 l0_3.length c0_3] (0, 0) _ rfl (by (with_reducible repeat (first | refine blk_drewN ?_ _ | refine blk_drew ?_ | refine blk_alloc ?_ _)); refine blk_put (cs := #[.slice A0_0 l0_0.length c0_0, .bool a0_1, .int .i64 a0_2, .slice none 0 0]) ?_ 3 _ rfl; (with_reducible repeat (first | refine blk_drewN ?_ _ | refine blk_drew ?_ | refine blk_alloc ?_ _)); refine blk_put (cs := #[.slice A0_0 l0_0.length c0_0, .bool a0_1, .int .i64 0, .slice none 0 0]) ?_ 2 _ rfl; (with_reducible repeat (first | refine blk_drewN ?_ _ | refine blk_drew ?_ | refine blk_alloc ?_ _)); refine blk_put (cs := #[.slice A0_0 l0_0.length c0_0, .bool false, .int .i64 0, .slice none 0 0]) ?_ 1 _ rfl; (with_reducible repeat (first | refine blk_drewN ?_ _ | refine blk_drew ?_ | refine blk_alloc ?_ _)); refine blk_put (cs := #[.slice none 0 0, .bool false, .int .i64 0, .slice none 0 0]) ?_ 0 _ rfl; (with_reducible repeat (first | refine blk_drewN ?_ _ | refine blk_drew ?_ | refine blk_alloc ?_ _)); exact BK103.out) Try.underlying27 rfl (by kernel_rfl)) rfl ?_
    exact ⟨_, _, by first | rfl | (simp [errW_none, errW_some] <;> rfl) | (simp [*, errW_none, errW_some] <;> rfl), by (with_reducible repeat (first | apply Kd.V_alloc | apply Kd.V_drewN | apply Kd.V_drew)); exact Kd.V_mono (Kd.V_far (p := ⟨gb103, 3, none⟩) (Kd.V_far (p := ⟨gb103, 2, none⟩) (Kd.V_far (p := ⟨gb103, 1, none⟩) (Kd.V_far (p := ⟨gb103, 0, none⟩) (Kd.V_mono HO0_0.out (fun k_ hk => (⟨hk, hk.2⟩ : _ ∧ k_ ≠ gb103))) (fun _ hk => hk.2) (.slice A0_0 l0_0.length c0_0)) (fun _ hk => hk.2) (.bool a0_1)) (fun _ hk => hk.2) (.int .i64 a0_2)) (fun _ hk => hk.2) (.slice A0_3 l0_3.length c0_3)) (fun _ hk => hk.1.1.1), by (with_reducible repeat (first | apply Kd.V_alloc | apply Kd.V_drewN | apply Kd.V_drew)); exact Kd.V_mono (Kd.V_far (p := ⟨gb103, 3, none⟩) (Kd.V_far (p := ⟨gb103, 2, none⟩) (Kd.V_far (p := ⟨gb103, 1, none⟩) (Kd.V_far (p := ⟨gb103, 0, none⟩) (Kd.V_mono HO0_3.out (fun k_ hk => (⟨hk, hk.2⟩ : _ ∧ k_ ≠ gb103))) (fun _ hk => hk.2) (.slice A0_0 l0_0.length c0_0)) (fun _ hk => hk.2) (.bool a0_1)) (fun _ hk => hk.2) (.int .i64 a0_2)) (fun _ hk => hk.2) (.slice A0_3 l0_3.length c0_3)) (fun _ hk => hk.1.1.1), by repeat (first | (with_reducible first | exact HB.out | apply below_alloc | apply pw_below_drewN | apply below_drew1 | refine below_set ?_ GE102.out | refine below_set ?_ GE103.out) | exact HB.out)⟩
  · replace c3 := Bool.eq_false_iff.mpr c3
    subst c3
    have H1 : (some (([] : List Int), false, 0, ([] : List Int))) = some (r1, r2, r3, r4) := by rw [if_neg (show ¬ (false = true) by decide)] at H; exact H
    clear H
    have H := H1
    clear H1
    simp only [Option.some.injEq, Prod.mk.injEq] at H
    obtain ⟨rfl, rfl, rfl, rfl⟩ := H
    go_enter Try.func28, Try.ntmps28
    go_wp2_with (first | ((with_reducible refine gate_dst (N := 1) rfl ?_); refine box_event ?hg (N := 1) ?hd (cs := #[.slice A0_0 l0_0.length c0_0, .bool a0_1, .int .i64 a0_2, .slice A0_3 l0_3.length c0_3]) (t := 27) ?hr ?_; (case hd => rfl); (case hg => rfl); (case hr => first | (go_simp; done) | (go_simp; rfl)); intro gb102 hg w11 hbox hb; replace HO0_0 := vE HO0_0 hg hb; replace HO0_3 := vE HO0_3 hg hb; have BK102 := Aside0.mk hbox; have GW102 := gE HB hg; have GE102 := gE HB hg; replace HB := hB HB hb; clear hb hbox hg) | ((with_reducible refine gate_dst (N := 2) rfl ?_); refine box_event ?hg (N := 2) ?hd (cs := #[.slice none 0 0, .bool false, .int .i64 0, .slice none 0 0]) (t := 27) ?hr ?_; (case hd => rfl); (case hg => rfl); (case hr => first | (go_simp; done) | (go_simp; rfl)); intro gb103 hg w12 hbox hb; replace HO0_0 := vE HO0_0 hg hb; replace HO0_3 := vE HO0_3 hg hb; have BK103 := Aside0.mk hbox; have GW103 := gE HB hg; have GE103 := gE HB hg; replace HB := hB HB hb; have NB102_103 := nL BK102 hg; have NB103_102 := nG BK102 hg; replace BK102 := kB BK102 hb; clear hb hbox hg; have hnb13 := NB102_103.out; have hnc13 := NB103_102.out; obtain ⟨hcz14_0, hcz14_1, hcz14_2, hcz14_3, hfz14_0, hfz14_1, hfz14_2, hfz14_3⟩ := bc4 BK102) | ((with_reducible refine gate_callee (f := 15) rfl ?_); refine gL (some 4) rfl rfl Try.func15 (by kernel_rfl) rfl #[.agg #[.slice A0_0 l0_0.length c0_0, .bool a0_1, .int .i64 a0_2, .slice A0_3 l0_3.length c0_3]] rfl ?_; (with_reducible refine (wire_Sane.calls _ _ l0_0 a0_1 a0_2 _ _ l0_3 false _ ?side1 ?side2 ?side3 ?side4 A2.out).mono ?_); (case side1 => exact (Kd.V_reads' (vv HO0_0)).2.2); (case side2 => exact (Kd.V_reads' HO0_0.out).2.1); (case side3 => exact (Kd.V_reads' (vv HO0_3)).2.2); (case side4 => exact (Kd.V_reads' HO0_3.out).2.1); rintro e w15 ⟨rfl, hb⟩; refine ⟨_, rfl, ?_⟩; replace HO0_0 := vB HO0_0 hb; replace HO0_3 := vB HO0_3 hb; replace BK102 := kB BK102 hb; replace BK103 := kB BK103 hb; replace HB := hB HB hb; (try clear hb); (try clear hb2); (try clear hk); (try clear hi); obtain ⟨hcz16_0, hcz16_1, hcz16_2, hcz16_3, hfz16_0, hfz16_1, hfz16_2, hfz16_3⟩ := bc4 BK103))
    refine bodyPost_ret (results_cell_row rfl _ _ gb103 27 #[.slice none 0 0, .bool false, .int .i64 0, .slice none 0 0] (0, 0) _ rfl (by (with_reducible repeat (first | refine blk_drewN ?_ _ | refine blk_drew ?_ | refine blk_alloc ?_ _)); refine blk_put (cs := #[.slice none 0 0, .bool false, .int .i64 0, .slice none 0 0]) ?_ 3 _ rfl; (with_reducible repeat (first | refine blk_drewN ?_ _ | refine blk_drew ?_ | refine blk_alloc ?_ _)); refine blk_put (cs := #[.slice none 0 0, .bool false, .int .i64 0, .slice none 0 0]) ?_ 2 _ rfl; (with_reducible repeat (first | refine blk_drewN ?_ _ | refine blk_drew ?_ | refine blk_alloc ?_ _)); refine blk_put (cs := #[.slice none 0 0, .bool false, .int .i64 0, .slice none 0 0]) ?_ 1 _ rfl; (with_reducible repeat (first | refine blk_drewN ?_ _ | refine blk_drew ?_ | refine blk_alloc ?_ _)); refine blk_put (cs := #[.slice none 0 0, .bool false, .int .i64 0, .slice none 0 0]) ?_ 0 _ rfl; (with_reducible repeat (first | refine blk_drewN ?_ _ | refine blk_drew ?_ | refine blk_alloc ?_ _)); exact BK103.out) Try.underlying27 rfl (by kernel_rfl)) rfl ?_
    exact ⟨_, _, by first | rfl | (simp [errW_none, errW_some] <;> rfl) | (simp [*, errW_none, errW_some] <;> rfl), Kd.V_mono (Kd.V_nil _ _ _ _ _) (fun k_ hk => by first | exact ⟨(.inr (hk.1)), hk.2⟩ | exact (.inr (hk))), Kd.V_mono (Kd.V_nil _ _ _ _ _) (fun k_ hk => by first | exact ⟨(.inr (hk.1)), hk.2⟩ | exact (.inr (hk))), by repeat (first | (with_reducible first | exact HB.out | apply below_alloc | apply pw_below_drewN | apply below_drew1 | refine below_set ?_ GE102.out | refine below_set ?_ GE103.out) | exact HB.out)⟩

/-! ### wire_Grant: function 11 -/
def wire_Grant.f (l0_0 : List Int) (a0_1 : Bool) (a0_2 : Int) (l0_3 : List Int) (a1 : Int) : Option (List Int × Bool × Int × List Int × Int) := (wire_sane.f l0_0 a0_1 a0_2 l0_3).bind fun bt107 => (if a1 < 0 then (some (bt107.1, bt107.2.1, bt107.2.2.1, bt107.2.2.2, 2)) else (if a1 > (wrap64 (4096 - bt107.2.2.1)) then (some (bt107.1, bt107.2.1, bt107.2.2.1, bt107.2.2.2, 3)) else (some (bt107.1, bt107.2.1, wrap64 (bt107.2.2.1 + a1), bt107.2.2.2, 0))))
-- import Derived.Test.YtocmnggcbpdnjaaCat
-- import Derived.Deep.RegionHeld3
theorem bcell {W w1 : World} (hb : Below W.heap.size W w1) : (∀ b o, b < W.heap.size → w1.cell? ⟨b, o, none⟩ = W.cell? ⟨b, o, none⟩) ∧ (∀ b o, b < W.heap.size → w1.frozen? ⟨b, o, none⟩ = W.frozen? ⟨b, o, none⟩) :=
  ⟨fun b o h => hb.cell (p := ⟨b, o, none⟩) h, fun b o h => hb.frozen (p := ⟨b, o, none⟩) h⟩
theorem two_new {w w1 : World} {o o2 : Obj} (hb : Below ((w.alloc o).alloc o2).heap.size ((w.alloc o).alloc o2) w1) : w.heap.size + 1 < w1.heap.size := by have := hb.size; simp at this; omega
theorem below_two {w w1 : World} {o o2 : Obj} (hb : Below ((w.alloc o).alloc o2).heap.size ((w.alloc o).alloc o2) w1) : Below w.heap.size w w1 := below_step (below_alloc (below_alloc (Below.refl _ _) _) _) hb
/-- A wire as what it counts. -/
def okW (l : List Int) (a : Int) : Bool := decide (l.length ≤ 4096) && decide (0 ≤ a) && decide (a ≤ 4096)
def asI (l : List Int) (a : Int) : List Int := if okW l a = true then l else []
def asB (l : List Int) (b : Bool) (a : Int) : Bool := if okW l a = true then b else false
def asA (l : List Int) (a : Int) : Int := if okW l a = true then a else 0
def asO (l : List Int) (a : Int) (o : List Int) : List Int := if okW l a = true then o else []
theorem Sane_val (l : List Int) (b : Bool) (a : Int) (o : List Int) : wire_Sane.f l b a o = some (okW l a) := by
  unfold wire_Sane.f okW
  by_cases h1 : l.length ≤ 4096
  · rw [if_pos (by omega)]
    by_cases h2 : 0 ≤ a
    · rw [if_pos h2]; simp [h1, h2]
    · rw [if_neg h2]; simp [h2]
  · rw [if_neg (by omega)]; simp [h1]
theorem sane_val (l : List Int) (b : Bool) (a : Int) (o : List Int) : wire_sane.f l b a o = some (asI l a, asB l b a, asA l a, asO l a o) := by
  unfold wire_sane.f asI asB asA asO
  rw [Sane_val, Option.bind_some]
  by_cases c : okW l a = true
  · simp only [if_pos c]
  · simp only [if_neg c]
theorem okW_iff (l : List Int) (a : Int) : okW l a = true ↔ l.length ≤ 4096 ∧ 0 ≤ a ∧ a ≤ 4096 := by simp [okW, and_assoc]
theorem asI_len (l : List Int) (a : Int) : (asI l a).length ≤ 4096 := by
  unfold asI
  split
  · rename_i h; exact ((okW_iff l a).1 h).1
  · simp
theorem asA_bd (l : List Int) (a : Int) : 0 ≤ asA l a ∧ asA l a ≤ 4096 := by
  unfold asA
  split
  · rename_i h; exact ((okW_iff l a).1 h).2
  · omega
/-- The two blocks that were just made, behind a call: their cells, none frozen. -/
theorem two_cells {w w1 : World} {a0 a1 a2 a3 b0 b1 b2 b3 : Value} {s t : TypeId} (hb : Below ((w.alloc (.cells #[a0, a1, a2, a3] s)).alloc (.cells #[b0, b1, b2, b3] t)).heap.size ((w.alloc (.cells #[a0, a1, a2, a3] s)).alloc (.cells #[b0, b1, b2, b3] t)) w1) :
    w1.cell? ⟨w.heap.size, 0, none⟩ = some a0 ∧ w1.cell? ⟨w.heap.size, 1, none⟩ = some a1 ∧ w1.cell? ⟨w.heap.size, 2, none⟩ = some a2 ∧ w1.cell? ⟨w.heap.size, 3, none⟩ = some a3 ∧
    w1.cell? ⟨w.heap.size + 1, 0, none⟩ = some b0 ∧ w1.cell? ⟨w.heap.size + 1, 1, none⟩ = some b1 ∧ w1.cell? ⟨w.heap.size + 1, 2, none⟩ = some b2 ∧ w1.cell? ⟨w.heap.size + 1, 3, none⟩ = some b3 ∧
    w1.frozen? ⟨w.heap.size, 0, none⟩ = false ∧ w1.frozen? ⟨w.heap.size, 1, none⟩ = false ∧ w1.frozen? ⟨w.heap.size, 2, none⟩ = false ∧ w1.frozen? ⟨w.heap.size, 3, none⟩ = false ∧
    w1.frozen? ⟨w.heap.size + 1, 0, none⟩ = false ∧ w1.frozen? ⟨w.heap.size + 1, 1, none⟩ = false ∧ w1.frozen? ⟨w.heap.size + 1, 2, none⟩ = false ∧ w1.frozen? ⟨w.heap.size + 1, 3, none⟩ = false ∧ w.heap.size + 1 < w1.heap.size := by
  obtain ⟨hc, hf⟩ := bcell hb
  have hz := two_new hb
  refine ⟨?_, ?_, ?_, ?_, ?_, ?_, ?_, ?_, ?_, ?_, ?_, ?_, ?_, ?_, ?_, ?_, hz⟩ <;> first | (rw [hc _ _ (by simp; try omega)]; simp [go_sem]; done) | (rw [hf _ _ (by simp; try omega)]; simp [go_sem]; done)
theorem set_set (w : World) (b o : Nat) (u v : Value) : (w.setCell ⟨b, o, none⟩ u).setCell ⟨b, o, none⟩ v = w.setCell ⟨b, o, none⟩ v := by
  have h : ((w.setCell ⟨b, o, none⟩ u).setCell ⟨b, o, none⟩ v).heap = (w.setCell ⟨b, o, none⟩ v).heap := by
    apply Array.ext_getElem?
    intro i
    simp only [World.setCell, Array.getElem?_modify]
    by_cases hb : b = i
    · rw [if_pos hb, if_pos hb, if_pos hb]
      cases w.heap[i]? with
      | none => rfl
      | some x => cases x <;> simp
    · rw [if_neg hb, if_neg hb, if_neg hb]
  unfold World.setCell at h ⊢
  simp only at h ⊢
  rw [h]
/-- Bytes that are read, and lie in no block of n or n + 1. -/
def Lies (n : Nat) (P : Nat → Prop) (w : World) (v : Value) (l : List Int) : Prop := Kd.V (Kd.int .u8) 5 w 0 (fun k => (P k ∨ n ≤ k) ∧ k ≠ n ∧ k ≠ n + 1) v l
theorem Lies.below {n : Nat} {P : Nat → Prop} {w w' : World} {v : Value} {l : List Int} (h : Lies n P w v l) (hb : Below w.heap.size w w') : Lies n P w' v l := Kd.V_below h hb
theorem Lies.set {n : Nat} {P : Nat → Prop} {w : World} {v : Value} {l : List Int} (h : Lies n P w v l) (o : Nat) (u : Value) : Lies n P (w.setCell ⟨n, o, none⟩ u) v l := Kd.V_far h (fun k hk => hk.2.1) u
theorem Lies.set1 {n : Nat} {P : Nat → Prop} {w : World} {v : Value} {l : List Int} (h : Lies n P w v l) (o : Nat) (u : Value) : Lies n P (w.setCell ⟨n + 1, o, none⟩ u) v l := Kd.V_far h (fun k hk => hk.2.2) u
theorem Lies.alloc {n : Nat} {P : Nat → Prop} {w : World} {v : Value} {l : List Int} (h : Lies n P w v l) (o : Obj) : Lies n P (w.alloc o) v l := Kd.V_alloc h o
theorem Lies.out {n : Nat} {P : Nat → Prop} {w : World} {v : Value} {l : List Int} {b : Nat} (h : Lies n P w v l) : Kd.V (Kd.int .u8) 5 w b (fun k => P k ∨ n ≤ k) v l := Kd.V_mono h (fun _ hk => hk.1)
theorem Lies.of {P : Nat → Prop} {w : World} {v : Value} {l : List Int} {b : Nat} (h : Kd.V (Kd.int .u8) 5 w b P v l) : Lies w.heap.size P w v l := Kd.V_mono (Kd.V_bound h) (fun k hk => ⟨.inl hk.1, by have := hk.2; omega, by have := hk.2; omega⟩)
theorem Lies.own {n : Nat} {P : Nat → Prop} {w w' : World} {v : Value} {l : List Int} (h : w'.ownsRow w.heap.size 5 1 v l.length (nums .u8 l)) (hn : n + 2 ≤ w.heap.size) : Lies n P w' v l :=
  Kd.V_mono (Kd.R_V (base' := 0) (Kd.R_of_own (enc := Value.int .u8) (h1 := fun _ => rfl) (ok := fun k => w.heap.size ≤ k) (e := 5) (xs := l) h (fun k hk => own_base h k hk))) (fun k hk => ⟨.inr (by omega), by omega, by omega⟩)
theorem Lies.now {n : Nat} {P : Nat → Prop} {w : World} {v : Value} {l : List Int} (h : Lies n P w v l) : ∃ A c, v = .slice A l.length c ∧ l.length ≤ c ∧ Kd.C (Kd.int .u8) w A l.length l := by
  obtain ⟨A, c, rfl, hl, hf⟩ := h
  exact ⟨A, c, rfl, hl, Kd.F_now hf⟩
theorem Lies.mono {n : Nat} {P Q : Nat → Prop} {w : World} {v : Value} {l : List Int} (h : Lies n P w v l) (hq : ∀ k, P k → Q k) : Lies n Q w v l := Kd.V_mono h (fun k hk => ⟨hk.1.imp (hq k) id, hk.2⟩)
/-- sane, behind the two blocks of the call that asks. -/
theorem sane_two (P0 P3 : Nat → Prop) (v0 v3 : Value) (l0 l3 : List Int) (b : Bool) (a : Int) (w : World) (o1 o2 : Obj) (h0 : Kd.V (Kd.int .u8) 5 w w.heap.size P0 v0 l0) (h3 : Kd.V (Kd.int .u8) 5 w w.heap.size P3 v3 l3) :
    Calls Try.prog 28 #[.agg #[v0, .bool b, .int .i64 a, v3]] ((w.alloc o1).alloc o2) fun e w' => Aside0 (∃ A0 c0 A3 c3, e = .returned (.agg #[.slice A0 (asI l0 a).length c0, .bool (asB l0 b a), .int .i64 (asA l0 a), .slice A3 (asO l0 a l3).length c3]) ∧ (asI l0 a).length ≤ c0 ∧ (asO l0 a l3).length ≤ c3 ∧
      Lies w.heap.size (fun k => P0 k ∨ P3 k) w' (.slice A0 (asI l0 a).length c0) (asI l0 a) ∧ Lies w.heap.size (fun k => P0 k ∨ P3 k) w' (.slice A3 (asO l0 a l3).length c3) (asO l0 a l3) ∧ Below ((w.alloc o1).alloc o2).heap.size ((w.alloc o1).alloc o2) w') := by
  have b0 := Kd.V_alloc (Kd.V_alloc (Kd.V_bound h0) o1) o2
  have b3 := Kd.V_alloc (Kd.V_alloc (Kd.V_bound h3) o1) o2
  obtain ⟨A0, c0, rfl, _, _⟩ := h0
  obtain ⟨A3, c3, rfl, _, _⟩ := h3
  refine (wire_sane.calls _ A0 c0 l0 b a _ A3 c3 l3 _ _ _ _ _ b0 b3 (sane_val l0 b a l3)).mono fun e w' h => ?_
  obtain ⟨v0, v3, he, hV0, hV3, hb⟩ := h
  have key : ∀ (v : Value) (l : List Int), Kd.V (Kd.int .u8) 5 w' ((w.alloc o1).alloc o2).heap.size (fun k => ((P0 k ∧ k < w.heap.size) ∨ (P3 k ∧ k < w.heap.size)) ∨ ((w.alloc o1).alloc o2).heap.size ≤ k) v l → Lies w.heap.size (fun k => P0 k ∨ P3 k) w' v l := fun v l h =>
    Kd.V_mono h (fun k hk => by
      simp at hk
      rcases hk with (hk | hk) | hk
      · exact ⟨.inl (.inl hk.1), by omega, by omega⟩
      · exact ⟨.inl (.inr hk.1), by omega, by omega⟩
      · exact ⟨.inr (by omega), by omega, by omega⟩)
  have g0 := key _ _ hV0
  have g3 := key _ _ hV3
  obtain ⟨A0', c0', rfl, hl0, _⟩ := hV0
  obtain ⟨A3', c3', rfl, hl3, _⟩ := hV3
  exact ⟨A0', c0', A3', c3', he, hl0, hl3, g0, g3, hb⟩
/-- What sane leaves of a wire, by names. -/
structure AsIs (l0 : List Int) (b : Bool) (a : Int) (l3 : List Int) (L : List Int) (B : Bool) (N : Int) (O : List Int) : Prop where
  hi : asI l0 a = L
  hb : asB l0 b a = B
  ha : asA l0 a = N
  ho : asO l0 a l3 = O
theorem AsIs.made (l0 : List Int) (b : Bool) (a : Int) (l3 : List Int) : ∃ L B N O, AsIs l0 b a l3 L B N O := ⟨_, _, _, _, rfl, rfl, rfl, rfl⟩
theorem sane_as (P0 P3 : Nat → Prop) (v0 v3 : Value) (l0 l3 : List Int) (b : Bool) (a : Int) (w : World) (o1 o2 : Obj) (h0 : Kd.V (Kd.int .u8) 5 w w.heap.size P0 v0 l0) (h3 : Kd.V (Kd.int .u8) 5 w w.heap.size P3 v3 l3) {L : List Int} {B : Bool} {N : Int} {O : List Int} (hs : AsIs l0 b a l3 L B N O) :
    Calls Try.prog 28 #[.agg #[v0, .bool b, .int .i64 a, v3]] ((w.alloc o1).alloc o2) fun e w' => Aside0 (∃ A0 c0 A3 c3, e = .returned (.agg #[.slice A0 L.length c0, .bool B, .int .i64 N, .slice A3 O.length c3]) ∧ L.length ≤ c0 ∧ O.length ≤ c3 ∧
      Lies w.heap.size (fun k => P0 k ∨ P3 k) w' (.slice A0 L.length c0) L ∧ Lies w.heap.size (fun k => P0 k ∨ P3 k) w' (.slice A3 O.length c3) O ∧ Below ((w.alloc o1).alloc o2).heap.size ((w.alloc o1).alloc o2) w') := by
  obtain ⟨rfl, rfl, rfl, rfl⟩ := hs
  exact sane_two P0 P3 v0 v3 l0 l3 b a w o1 o2 h0 h3
/-- The two blocks of a call, the first holding a wire: the cells, none frozen; nothing older has changed. -/
structure Boxed (w W : World) (v0 v1 v2 v3 u0 u1 u2 u3 : Value) : Prop where
  below : Below w.heap.size w W
  size : w.heap.size + 1 < W.heap.size
  cells : W.cell? ⟨w.heap.size, 0, none⟩ = some v0 ∧ W.cell? ⟨w.heap.size, 1, none⟩ = some v1 ∧ W.cell? ⟨w.heap.size, 2, none⟩ = some v2 ∧ W.cell? ⟨w.heap.size, 3, none⟩ = some v3 ∧
    W.cell? ⟨w.heap.size + 1, 0, none⟩ = some u0 ∧ W.cell? ⟨w.heap.size + 1, 1, none⟩ = some u1 ∧ W.cell? ⟨w.heap.size + 1, 2, none⟩ = some u2 ∧ W.cell? ⟨w.heap.size + 1, 3, none⟩ = some u3 ∧
    W.frozen? ⟨w.heap.size, 0, none⟩ = false ∧ W.frozen? ⟨w.heap.size, 1, none⟩ = false ∧ W.frozen? ⟨w.heap.size, 2, none⟩ = false ∧ W.frozen? ⟨w.heap.size, 3, none⟩ = false ∧
    W.frozen? ⟨w.heap.size + 1, 0, none⟩ = false ∧ W.frozen? ⟨w.heap.size + 1, 1, none⟩ = false ∧ W.frozen? ⟨w.heap.size + 1, 2, none⟩ = false ∧ W.frozen? ⟨w.heap.size + 1, 3, none⟩ = false
theorem boxed_put {w w1 : World} {a0 a1 a2 a3 u0 u1 u2 u3 : Value} {s t : TypeId} (hb : Below ((w.alloc (.cells #[a0, a1, a2, a3] s)).alloc (.cells #[u0, u1, u2, u3] t)).heap.size ((w.alloc (.cells #[a0, a1, a2, a3] s)).alloc (.cells #[u0, u1, u2, u3] t)) w1) (v0 v1 v2 v3 : Value) :
    ∃ W, (((w1.setCell ⟨w.heap.size, 0, none⟩ v0).setCell ⟨w.heap.size, 1, none⟩ v1).setCell ⟨w.heap.size, 2, none⟩ v2).setCell ⟨w.heap.size, 3, none⟩ v3 = W ∧ Boxed w W v0 v1 v2 v3 u0 u1 u2 u3 ∧ (∀ P v l, Lies w.heap.size P w1 v l → Lies w.heap.size P W v l) := by
  obtain ⟨k0, k1, k2, k3, k4, k5, k6, k7, q0, q1, q2, q3, q4, q5, q6, q7, hz⟩ := two_cells hb
  refine ⟨_, rfl, ⟨((((below_two hb).setCell (by simp) _).setCell (by simp) _).setCell (by simp) _).setCell (by simp) _, by simpa [go_sem] using hz, ?_⟩, fun P v l h => (((h.set 0 _).set 1 _).set 2 _).set 3 _⟩
  refine ⟨?_, ?_, ?_, ?_, ?_, ?_, ?_, ?_, ?_, ?_, ?_, ?_, ?_, ?_, ?_, ?_⟩ <;> simp [go_sem, k0, k1, k2, k3, k4, k5, k6, k7, q0, q1, q2, q3, q4, q5, q6, q7]
/-- A call later. -/
theorem Boxed.later {w W W' : World} {v0 v1 v2 v3 u0 u1 u2 u3 : Value} (h : Boxed w W v0 v1 v2 v3 u0 u1 u2 u3) (hb : Below W.heap.size W W') : Boxed w W' v0 v1 v2 v3 u0 u1 u2 u3 := by
  have hz := h.size
  obtain ⟨hc, hf⟩ := bcell hb
  refine ⟨below_step h.below hb, by have := hb.size; omega, ?_⟩
  obtain ⟨c0, c1, c2, c3, c4, c5, c6, c7, f0, f1, f2, f3, f4, f5, f6, f7⟩ := h.cells
  refine ⟨?_, ?_, ?_, ?_, ?_, ?_, ?_, ?_, ?_, ?_, ?_, ?_, ?_, ?_, ?_, ?_⟩ <;> first | (rw [hc _ _ (by omega)]; assumption) | (rw [hf _ _ (by omega)]; assumption)
/-- What a wire's function leaves: the wire, as it lies, beside what else is handed back. -/
def WireIs (w : World) (P : Nat → Prop) (l : List Int) (b : Bool) (a : Int) (o : List Int) (w' : World) (v : Value) : Prop :=
  ∃ v0 v3, v = .agg #[v0, .bool b, .int .i64 a, v3] ∧ Lies w.heap.size P w' v0 l ∧ Lies w.heap.size P w' v3 o ∧ Below w.heap.size w w'
set_option maxHeartbeats 2000000 in
theorem Grant_walk (P0 P3 : Nat → Prop) (v0 v3 : Value) (l0 l3 : List Int) (b : Bool) (a : Int) (w : World) (h0 : Kd.V (Kd.int .u8) 5 w w.heap.size P0 v0 l0) (h3 : Kd.V (Kd.int .u8) 5 w w.heap.size P3 v3 l3) (L : List Int) (B : Bool) (N : Int) (O : List Int) (hs : AsIs l0 b a l3 L B N O) (n : Int) (a' e' : Int)
    (hn : (n < 0 ∧ a' = N ∧ e' = 2) ∨ (0 ≤ n ∧ 4096 - N < n ∧ a' = N ∧ e' = 3) ∨ (0 ≤ n ∧ n ≤ 4096 - N ∧ a' = N + n ∧ e' = 0)) :
    Calls Try.prog 11 #[.agg #[v0, .bool b, .int .i64 a, v3], .int .i64 n] w fun e w' => ∃ v, e = .returned (.tuple #[v, .int .i64 e']) ∧ WireIs w (fun k => P0 k ∨ P3 k) L B a' O w' v := by
  have H0 := Aside0.mk h0
  have H3 := Aside0.mk h3
  clear h0 h3
  have hu27 := Try.underlying27
  have ha : 0 ≤ N ∧ N ≤ 4096 := by have := asA_bd l0 a; rw [hs.ha] at this; exact this
  obtain ⟨ha0, ha1⟩ := ha
  have hl1 : L.length ≤ 4096 := by have := asI_len l0 a; rw [hs.hi] at this; exact this
  rcases hn with ⟨h1, rfl, rfl⟩ | ⟨h1, h2, rfl, rfl⟩ | ⟨h1, h2, rfl, rfl⟩
  · go_enter Try.func11, Try.ntmps11
    go_upto_region 2 with (go_at_call 28; refine (sane_as _ _ _ _ _ _ _ _ _ _ _ H0.out H3.out hs).mono ?_; rintro e w1 ⟨⟨A0, c0, A3, c3, rfl, hc0, hc3, g0, g3, hb⟩⟩; obtain ⟨k0, k1, k2, k3, k4, k5, k6, k7, q0, q1, q2, q3, q4, q5, q6, q7, hz⟩ := two_cells hb; have G0 := Aside0.mk g0; have G3 := Aside0.mk g3; have HB := Aside0.mk hb; have HC0 := Aside0.mk hc0; have HC3 := Aside0.mk hc3; clear g0 g3 hb hc0 hc3)
    obtain ⟨W2, hW2, hbx, hli⟩ := boxed_put HB.out (.slice A0 L.length c0) (.bool B) (.int .i64 a') (.slice A3 O.length c3)
    rw [hW2]
    have G02 := Aside0.mk (hli _ _ _ G0.out)
    have G32 := Aside0.mk (hli _ _ _ G3.out)
    have HX := Aside0.mk hbx
    clear hW2 hbx hli G0 G3 HB k0 k1 k2 k3 k4 k5 k6 k7 q0 q1 q2 q3 q4 q5 q6 q7 hz
    obtain ⟨k0, k1, k2, k3, k4, k5, k6, k7, q0, q1, q2, q3, q4, q5, q6, q7⟩ := HX.out.cells
    have hz := HX.out.size
    go_wp2_with fail
    refine bodyPost_ret (v := .tuple #[.agg #[.slice A0 L.length c0, .bool B, .int .i64 a', .slice A3 O.length c3], .int .i64 2]) (by simp [results, Try.results11, go_sem, k0, k1, k2, k3, k4, k5, k6, k7, q0, q1, q2, q3, q4, q5, q6, q7, hz]) rfl ⟨_, rfl, ⟨_, _, rfl, ((((G02.out).set1 0 _).set1 1 _).set1 2 _).set1 3 _, ((((G32.out).set1 0 _).set1 1 _).set1 2 _).set1 3 _, ((((HX.out.below).setCell (by simp) _).setCell (by simp) _).setCell (by simp) _).setCell (by simp) _⟩⟩
  · go_enter Try.func11, Try.ntmps11
    go_upto_region 2 with (go_at_call 28; refine (sane_as _ _ _ _ _ _ _ _ _ _ _ H0.out H3.out hs).mono ?_; rintro e w1 ⟨⟨A0, c0, A3, c3, rfl, hc0, hc3, g0, g3, hb⟩⟩; obtain ⟨k0, k1, k2, k3, k4, k5, k6, k7, q0, q1, q2, q3, q4, q5, q6, q7, hz⟩ := two_cells hb; have G0 := Aside0.mk g0; have G3 := Aside0.mk g3; have HB := Aside0.mk hb; have HC0 := Aside0.mk hc0; have HC3 := Aside0.mk hc3; clear g0 g3 hb hc0 hc3)
    obtain ⟨W2, hW2, hbx, hli⟩ := boxed_put HB.out (.slice A0 L.length c0) (.bool B) (.int .i64 a') (.slice A3 O.length c3)
    rw [hW2]
    have G02 := Aside0.mk (hli _ _ _ G0.out)
    have G32 := Aside0.mk (hli _ _ _ G3.out)
    have HX := Aside0.mk hbx
    clear hW2 hbx hli G0 G3 HB k0 k1 k2 k3 k4 k5 k6 k7 q0 q1 q2 q3 q4 q5 q6 q7 hz
    obtain ⟨k0, k1, k2, k3, k4, k5, k6, k7, q0, q1, q2, q3, q4, q5, q6, q7⟩ := HX.out.cells
    have hz := HX.out.size
    go_wp2_with fail
    refine bodyPost_ret (v := .tuple #[.agg #[.slice A0 L.length c0, .bool B, .int .i64 a', .slice A3 O.length c3], .int .i64 3]) (by simp [results, Try.results11, go_sem, k0, k1, k2, k3, k4, k5, k6, k7, q0, q1, q2, q3, q4, q5, q6, q7, hz]) rfl ⟨_, rfl, ⟨_, _, rfl, ((((G02.out).set1 0 _).set1 1 _).set1 2 _).set1 3 _, ((((G32.out).set1 0 _).set1 1 _).set1 2 _).set1 3 _, ((((HX.out.below).setCell (by simp) _).setCell (by simp) _).setCell (by simp) _).setCell (by simp) _⟩⟩
  · go_enter Try.func11, Try.ntmps11
    go_upto_region 2 with (go_at_call 28; refine (sane_as _ _ _ _ _ _ _ _ _ _ _ H0.out H3.out hs).mono ?_; rintro e w1 ⟨⟨A0, c0, A3, c3, rfl, hc0, hc3, g0, g3, hb⟩⟩; obtain ⟨k0, k1, k2, k3, k4, k5, k6, k7, q0, q1, q2, q3, q4, q5, q6, q7, hz⟩ := two_cells hb; have G0 := Aside0.mk g0; have G3 := Aside0.mk g3; have HB := Aside0.mk hb; have HC0 := Aside0.mk hc0; have HC3 := Aside0.mk hc3; clear g0 g3 hb hc0 hc3)
    obtain ⟨W2, hW2, hbx, hli⟩ := boxed_put HB.out (.slice A0 L.length c0) (.bool B) (.int .i64 N) (.slice A3 O.length c3)
    rw [hW2]
    have G02 := Aside0.mk (hli _ _ _ G0.out)
    have G32 := Aside0.mk (hli _ _ _ G3.out)
    have HX := Aside0.mk hbx
    clear hW2 hbx hli G0 G3 HB k0 k1 k2 k3 k4 k5 k6 k7 q0 q1 q2 q3 q4 q5 q6 q7 hz
    obtain ⟨k0, k1, k2, k3, k4, k5, k6, k7, q0, q1, q2, q3, q4, q5, q6, q7⟩ := HX.out.cells
    have hz := HX.out.size
    go_wp2_with fail
    refine bodyPost_ret (v := .tuple #[.agg #[.slice A0 L.length c0, .bool B, .int .i64 (N + n), .slice A3 O.length c3], .int .i64 0]) (by simp [results, Try.results11, go_sem, k0, k1, k2, k3, k4, k5, k6, k7, q0, q1, q2, q3, q4, q5, q6, q7, hz]) rfl ⟨_, rfl, ⟨_, _, rfl, (((((G02.out).set 2 _).set1 0 _).set1 1 _).set1 2 _).set1 3 _, (((((G32.out).set 2 _).set1 0 _).set1 1 _).set1 2 _).set1 3 _, (((((HX.out.below).setCell (by simp) _).setCell (by simp) _).setCell (by simp) _).setCell (by simp) _).setCell (by simp) _⟩⟩
theorem WireIs.told {w : World} {P0 P3 : Nat → Prop} {l : List Int} {b : Bool} {a : Int} {o : List Int} {w' : World} {v : Value} (h : WireIs w (fun k => P0 k ∨ P3 k) l b a o w' v) :
    ∃ v0 v3, v = .agg #[v0, .bool b, .int .i64 a, v3] ∧ Kd.V (Kd.int .u8) 5 w' w.heap.size (fun k_ => ((P0 k_ ∨ P3 k_) ∨ w.heap.size ≤ k_)) v0 l ∧ Kd.V (Kd.int .u8) 5 w' w.heap.size (fun k_ => ((P0 k_ ∨ P3 k_) ∨ w.heap.size ≤ k_)) v3 o ∧ Below w.heap.size w w' := by
  obtain ⟨v0, v3, rfl, h0, h3, hb⟩ := h
  exact ⟨v0, v3, rfl, h0.out, h3.out, hb⟩
set_option maxHeartbeats 1000000 in
theorem wire_Grant.calls (P0_0_ : Nat → Prop) (A0_0 : Option Addr) (c0_0 : Nat) (l0_0 : List Int) (a0_1 : Bool) (a0_2 : Int) (P0_3_ : Nat → Prop) (A0_3 : Option Addr) (c0_3 : Nat) (l0_3 : List Int) (a1 : Int) (r1 : List Int) (r2 : Bool) (r3 : Int) (r4 : List Int) (r5 : Int) (w : World) (hs0_0 : Kd.V (Kd.int .u8) 5 w w.heap.size (fun k_ => P0_0_ k_) (.slice A0_0 l0_0.length c0_0) l0_0) (hs0_3 : Kd.V (Kd.int .u8) 5 w w.heap.size (fun k_ => P0_3_ k_) (.slice A0_3 l0_3.length c0_3) l0_3) (h : wire_Grant.f l0_0 a0_1 a0_2 l0_3 a1 = some (r1, r2, r3, r4, r5)) :
    Calls Try.prog 11 #[.agg #[.slice A0_0 l0_0.length c0_0, .bool a0_1, .int .i64 a0_2, .slice A0_3 l0_3.length c0_3], .int .i64 a1] w fun e w' => ∃ v0_ v3_ : Value, e = .returned (.tuple #[.agg #[v0_, .bool r2, .int .i64 r3, v3_], .int .i64 r5]) ∧ Kd.V (Kd.int .u8) 5 w' w.heap.size (fun k_ => ((P0_0_ k_ ∨ P0_3_ k_) ∨ w.heap.size ≤ k_)) v0_ r1 ∧ Kd.V (Kd.int .u8) 5 w' w.heap.size (fun k_ => ((P0_0_ k_ ∨ P0_3_ k_) ∨ w.heap.size ≤ k_)) v3_ r4 ∧ Below w.heap.size w w' := by
  obtain ⟨L, B, N, O, hs⟩ := AsIs.made l0_0 a0_1 a0_2 l0_3
  unfold wire_Grant.f at h
  rw [sane_val, hs.hi, hs.hb, hs.ha, hs.ho, Option.bind_some] at h
  dsimp only at h
  have ha := asA_bd l0_0 a0_2
  have hl := asI_len l0_0 a0_2
  rw [hs.ha] at ha
  rw [hs.hi] at hl
  rw [show wrap64 (4096 - N) = 4096 - N by unfold wrap64; omega] at h
  by_cases c1 : a1 < 0
  · rw [if_pos c1] at h
    simp only [Option.some.injEq, Prod.mk.injEq] at h
    obtain ⟨rfl, rfl, rfl, rfl, rfl⟩ := h
    refine (Grant_walk _ _ _ _ _ _ _ _ w hs0_0 hs0_3 _ _ _ _ hs _ _ _ (.inl ⟨c1, rfl, rfl⟩)).mono fun e w' hq => ?_
    obtain ⟨v, he, hw⟩ := hq
    obtain ⟨v0, v3, rfl, h0, h3, hb⟩ := hw.told
    exact ⟨v0, v3, he, h0, h3, hb⟩
  · rw [if_neg c1] at h
    by_cases c2 : a1 > 4096 - N
    · rw [if_pos c2] at h
      simp only [Option.some.injEq, Prod.mk.injEq] at h
      obtain ⟨rfl, rfl, rfl, rfl, rfl⟩ := h
      refine (Grant_walk _ _ _ _ _ _ _ _ w hs0_0 hs0_3 _ _ _ _ hs _ _ _ (.inr (.inl ⟨by omega, c2, rfl, rfl⟩))).mono fun e w' hq => ?_
      obtain ⟨v, he, hw⟩ := hq
      obtain ⟨v0, v3, rfl, h0, h3, hb⟩ := hw.told
      exact ⟨v0, v3, he, h0, h3, hb⟩
    · rw [if_neg c2, show wrap64 (N + a1) = N + a1 by unfold wrap64; omega] at h
      simp only [Option.some.injEq, Prod.mk.injEq] at h
      obtain ⟨rfl, rfl, rfl, rfl, rfl⟩ := h
      refine (Grant_walk _ _ _ _ _ _ _ _ w hs0_0 hs0_3 _ _ _ _ hs _ _ _ (.inr (.inr ⟨by omega, by omega, rfl, rfl⟩))).mono fun e w' hq => ?_
      obtain ⟨v, he, hw⟩ := hq
      obtain ⟨v0, v3, rfl, h0, h3, hb⟩ := hw.told
      exact ⟨v0, v3, he, h0, h3, hb⟩

end Go.Proofs.Ytocmnggcbpdnjaa.I
