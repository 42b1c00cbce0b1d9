-- Laid by mix.py, a program of this session, with the kit's print.py; walks by hand come out of wip/over.
import Derived.Test.YtneomcnfbnfjbaaShort
import Derived.Test.YtneomcnfbnfjbaaQ0
import Derived.Test.YtneomcnfbnfjbaaQ1
import Derived.Test.YtneomcnfbnfjbaaQ11
namespace Go.Proofs.Ytneomcnfbnfjbaa.Q
open Go.RowKit Go.Proofs.YtneomcnfbnfjbaaW.PrintWords Go.Proofs.YtneomcnfbnfjbaaW.PrintLast Go.Proofs.YtneomcnfbnfjbaaW.PrintMore Go.Proofs.YtneomcnfbnfjbaaW.Sh
attribute [local go_sem] max2_int min2_int max_two min_two max_three min_three max_four min_four   -- for this text's walks alone
set_option linter.unusedVariables false
set_option linter.unusedSimpArgs false

/-! ### pentroughref16_Take: function 21 -/
def pentroughref16_Take.f (k : Nat) (l0_0 : List (List Int)) (a0_1 : Bool) : Option ((List (List Int)) × Bool × List Int × Bool) := (pentroughref16_As.f k l0_0 a0_1).bind fun bt374 => (if (bt374.1.length : Int) = 0 then (some (bt374.1, bt374.2, ([] : List Int), false)) else (if 1 ≤ (bt374.1.length : Int) then (if 0 < (bt374.1.length : Int) then (some ((bt374.1.drop 1), bt374.2, rd_L1 bt374.1 0, true)) else (none)) else (none)))
theorem pentroughref16_Take.mono : ∀ a0 a1 k, LeO (pentroughref16_Take.f k a0 a1) (pentroughref16_Take.f (k + 1) a0 a1) := by
  intro a0 a1 k
  unfold pentroughref16_Take.f
  repeat' first
      | (with_reducible exact pentroughref16_As.mono _ _ _)
      | (with_reducible exact LeO.refl _)
      | (with_reducible exact LeO.none _)
      | (with_reducible refine LeO.ite ?_ ?_)
      | (with_reducible refine LeO.bind ?_ (fun _ => ?_))
      | exact pentroughref16_As.mono _ _ _
      | exact LeO.none _
      | refine LeO.ite ?_ ?_
      | refine LeO.bind ?_ (fun _ => ?_)
def pentroughref16_Take.T4 : Bool × List (List Nat × List Nat) := (true, [([], []), ([0], [0]), ([1], [1]), ([], []), ([3], [3]), ([2, 4], [2, 4]), ([], []), ([6], [6]), ([7], [7]), ([8], [8]), ([5, 0, 1, 2, 3, 4, 5], [5]), ([9, 10, 0, 1, 2, 3, 4, 5, 6, 7, 8, 9, 10], [9]), ([11, 0, 1, 2, 3, 4, 5, 6, 7, 8, 9, 10, 11], [])])
def pentroughref16_Take.B4 : List Nat := [0, 1, 3, 0, 8, 31, 0, 64, 192, 448, 63, 2047, 4095]
theorem pentroughref16_Take.tab4 : rtab .any (opsOf Try.f21 4) = pentroughref16_Take.T4 := by kernel_rfl
theorem pentroughref16_Take.bits4 : waitsOk pentroughref16_Take.T4.2 pentroughref16_Take.B4 = true := by kernel_rfl
set_option maxHeartbeats 8000000 in
set_option maxRecDepth 100000 in
theorem pentroughref16_Take.calls (k : Nat) (P0_0_ : Nat → Prop) (A0_0 : Option Addr) (c0_0 : Nat) (l0_0 : List (List Int)) (a0_1 : Bool) (r1 : List (List Int)) (r2 : Bool) (r3 : List Int) (r4 : Bool) (w : World) (hs0_0 : Kd.V (Kd.slice 3 (Kd.int .i64)) 32 w w.heap.size (fun k_ => P0_0_ k_) (.slice A0_0 l0_0.length c0_0) l0_0) (h : pentroughref16_Take.f k l0_0 a0_1 = some (r1, r2, r3, r4)) :
    Calls Try.prog 21 #[.agg #[.slice A0_0 l0_0.length c0_0, .bool a0_1]] w fun e w' => ∃ v0_ v2_ : Value, e = .returned (.tuple #[.agg #[v0_, .bool r2], v2_, .bool r4]) ∧ Kd.V (Kd.slice 3 (Kd.int .i64)) 32 w' w.heap.size (fun k_ => (P0_0_ k_ ∨ w.heap.size ≤ k_)) v0_ r1 ∧ Kd.V (Kd.int .i64) 3 w' w.heap.size (fun k_ => (P0_0_ k_ ∨ w.heap.size ≤ k_)) v2_ r3 ∧ Below w.heap.size w w' := by
  have hu24 := Try.underlying24
  have HO0_0 := Aside0.mk (show Kd.V (Kd.slice 3 (Kd.int .i64)) 32 w w.heap.size (fun k_ => (P0_0_ k_ ∨ w.heap.size ≤ k_)) (.slice A0_0 l0_0.length c0_0) l0_0 from Kd.V_mono hs0_0 (fun k_ hk => .inl hk))
  have HB := Aside0.mk (Below.refl w.heap.size w)
  have H : ((pentroughref16_As.f k l0_0 a0_1).bind fun bt374 => (if (bt374.1.length : Int) = 0 then (some (bt374.1, bt374.2, ([] : List Int), false)) else (if 1 ≤ (bt374.1.length : Int) then (if 0 < (bt374.1.length : Int) then (some ((bt374.1.drop 1), bt374.2, rd_L1 bt374.1 0, true)) else (none)) else (none)))) = some (r1, r2, r3, r4) := h
  clear h
  replace H := Option.bind_eq_some_iff.mp H
  obtain ⟨⟨t374, t377⟩, A20, H⟩ := H
  replace H : (if (t374.length : Int) = 0 then (some (t374, t377, ([] : List Int), false)) else (if 1 ≤ (t374.length : Int) then (if 0 < (t374.length : Int) then (some ((t374.drop 1), t377, rd_L1 t374 0, true)) else (none)) else (none))) = some (r1, r2, r3, r4) := H
  have A2 := Aside0.mk A20
  clear A20
  by_cases c3 : (t374.length : Int) = 0
  · rw [if_pos c3] at H
    have c3b0 : ((t374.length : Int) == 0) = true := beq_iff_eq.mpr c3
    have c3b1 : ((t374.length : Int) != 0) = false := bne_eq_false_iff_eq.mpr c3
    clear c3
    simp only [Option.some.injEq, Prod.mk.injEq] at H
    obtain ⟨rfl, rfl, rfl, rfl⟩ := H
    go_enter Try.func21, Try.ntmps21
    go_wp2_with (first | ((with_reducible refine gate_dst (N := 1) rfl ?_); refine box_event ?hg (N := 1) ?hd (cs := #[.slice A0_0 l0_0.length c0_0, .bool a0_1]) (t := 24) ?hr ?_; (case hd => rfl); (case hg => rfl); (case hr => first | (go_simp; done) | (go_simp; rfl)); intro gb372 hg w4 hbox hb; replace HO0_0 := vE HO0_0 hg hb; have BK372 := Aside0.mk hbox; have GW372 := gE HB hg; have GE372 := gE HB hg; replace HB := hB HB hb; clear hb hbox hg) | ((with_reducible refine gate_dst (N := 2) rfl ?_); refine box_event ?hg (N := 2) ?hd (cs := #[.slice none 0 0, .bool false]) (t := 24) ?hr ?_; (case hd => rfl); (case hg => rfl); (case hr => first | (go_simp; done) | (go_simp; rfl)); intro gb373 hg w5 hbox hb; replace HO0_0 := vE HO0_0 hg hb; have BK373 := Aside0.mk hbox; have GW373 := gE HB hg; have GE373 := gE HB hg; replace HB := hB HB hb; have NB372_373 := nL BK372 hg; have NB373_372 := nG BK372 hg; replace BK372 := kB BK372 hb; clear hb hbox hg; have hnb6 := NB372_373.out; have hnc6 := NB373_372.out; obtain ⟨hcz7_0, hcz7_1, hfz7_0, hfz7_1⟩ := bc2 BK372) | ((with_reducible refine gate_callee (f := 33) rfl ?_); refine gL (some 7) rfl rfl Try.func33 (by kernel_rfl) rfl #[.agg #[.slice A0_0 l0_0.length c0_0, .bool a0_1]] rfl ?_; (with_reducible refine (pentroughref16_As.calls k (fun k_ => (((P0_0_ k_ ∨ w.heap.size ≤ k_) ∧ k_ ≠ gb372) ∧ k_ ≠ gb373)) _ _ l0_0 a0_1 t374 t377 _ ?side1 A2.out).mono ?_); (case side1 => exact HO0_0.out); rintro e w8 ⟨v375, rfl, ho0, hb⟩; refine ⟨_, rfl, ?_⟩; replace HO0_0 := vB HO0_0 hb; have HO376 := Aside0.mk (Kd.V_lower (Kd.V_mono (ok' := fun k_ => (P0_0_ k_ ∨ w.heap.size ≤ k_) ∧ k_ ≠ gb372 ∧ k_ ≠ gb373) ho0 (fun k_ hk_ => ⟨Or.elim hk_ (fun hs_ => hs_.1.1) (fun hn_ => (.inr (Nat.le_trans (below_size (bb HB)) hn_))), o2 hk_ (fun h => h.1.2) (Kd.freshB (kk BK372) k_), o2 hk_ (fun h => h.2) (Kd.freshB (kk BK373) k_)⟩)) (below_size (bb HB))); replace BK372 := kB BK372 hb; replace BK373 := kB BK373 hb; replace HB := hB HB hb; (try clear hb); (try clear hb2); (try clear hk); (try clear hi); (try clear ho0)) | ((with_reducible refine gate_dst (N := 5) rfl ?_); refine box_event ?hg (N := 5) ?hd (cs := #[.slice none 0 0, .bool false]) (t := 24) ?hr ?_; (case hd => rfl); (case hg => rfl); (case hr => first | (go_simp; done) | (go_simp; rfl)); intro gb378 hg w9 hbox hb; replace HO0_0 := vE HO0_0 hg hb; replace HO376 := vE HO376 hg hb; have BK378 := Aside0.mk hbox; have GW378 := gE HB hg; have GE378 := gE HB hg; replace HB := hB HB hb; have NB372_378 := nL BK372 hg; have NB378_372 := nG BK372 hg; replace BK372 := kB BK372 hb; have NB373_378 := nL BK373 hg; have NB378_373 := nG BK373 hg; replace BK373 := kB BK373 hb; clear hb hbox hg; obtain ⟨Ao10, co10, eo10⟩ := Kd.V_slice HO376.out; subst eo10; have hnb11 := NB378_372.out; have hnc11 := NB372_378.out; have hnb12 := NB378_373.out; have hnc12 := NB373_378.out; obtain ⟨hcz13_0, hcz13_1, hfz13_0, hfz13_1⟩ := bc2 BK378) | ((with_reducible refine gate_store (t := 24) (p := 5) rfl ?_); refine store_event (t := 24) (p := 5) (v := ?vo_w14) (w1 := ((w9.setCell ⟨gb378, 0, none⟩ (.slice Ao10 t374.length co10)).setCell ⟨gb378, 1, none⟩ (.bool t377))) ?hg ?ho ?hn ?hr ?_; (case ho => rfl); (case hg => rfl); (case hn => rfl); (case hr => first | (go_simp; done) | (go_simp; rfl)); intro w14 hw; replace HO0_0 := vS (fun k_ => (P0_0_ k_ ∨ w.heap.size ≤ k_) ∧ k_ ≠ gb372 ∧ k_ ≠ gb373 ∧ k_ ≠ gb378) HO0_0 hw; replace HO376 := vS (fun k_ => (P0_0_ k_ ∨ w.heap.size ≤ k_) ∧ k_ ≠ gb372 ∧ k_ ≠ gb373 ∧ k_ ≠ gb378) HO376 hw; replace BK372 := kS BK372 hw; replace BK373 := kS BK373 hw; replace BK378 := kP2 BK378 hw; replace HB : Aside0 (Below w.heap.size w w14) := ⟨(by rw [hw]; exact (bb HB))⟩; clear hw; obtain ⟨hcz15_0, hcz15_1, hfz15_0, hfz15_1⟩ := bc2 BK378; obtain ⟨hcz16_0, hcz16_1, hfz16_0, hfz16_1⟩ := bc2 BK373) | ((with_reducible refine gate_store (t := 24) (p := 2) rfl ?_); refine store_event (t := 24) (p := 2) (v := ?vo_w17) (w1 := ((w14.setCell ⟨gb373, 0, none⟩ (.slice Ao10 t374.length co10)).setCell ⟨gb373, 1, none⟩ (.bool t377))) ?hg ?ho ?hn ?hr ?_; (case ho => rfl); (case hg => rfl); (case hn => rfl); (case hr => first | (go_simp; done) | (go_simp; rfl)); intro w17 hw; replace HO0_0 := vS (fun k_ => (P0_0_ k_ ∨ w.heap.size ≤ k_) ∧ k_ ≠ gb372 ∧ k_ ≠ gb373 ∧ k_ ≠ gb378) HO0_0 hw; replace HO376 := vS (fun k_ => (P0_0_ k_ ∨ w.heap.size ≤ k_) ∧ k_ ≠ gb372 ∧ k_ ≠ gb373 ∧ k_ ≠ gb378) HO376 hw; replace BK372 := kS BK372 hw; replace BK373 := kP2 BK373 hw; replace BK378 := kS BK378 hw; replace HB : Aside0 (Below w.heap.size w w17) := ⟨(by rw [hw]; exact (bb HB))⟩; clear hw))
    refine bodyPost_ret (results_ctt rfl _ _ gb373 24 #[.slice Ao10 t374.length co10, .bool t377] (0, 0) _ rfl (kk BK373) Try.underlying24 rfl (by kernel_rfl)) rfl ?_
    exact ⟨_, _, by first | rfl | (simp [errW_none, errW_some] <;> rfl) | (simp [*, errW_none, errW_some] <;> rfl), by (with_reducible repeat (first | apply Kd.V_alloc | apply Kd.V_drewN | apply Kd.V_drew)); exact Kd.V_mono HO376.out (fun _ hk => hk.1), Kd.V_mono (Kd.V_nil _ _ _ _ _) (fun k_ hk => by first | exact ⟨(.inr (hk.1)), hk.2⟩ | exact (.inr (hk))), by repeat (first | (with_reducible first | exact HB.out | apply below_alloc | apply pw_below_drewN | apply below_drew1 | refine below_set ?_ GE372.out | refine below_set ?_ GE373.out | refine below_set ?_ GE378.out) | exact HB.out)⟩
  · rw [if_neg c3] at H
    have c3b0 : ((t374.length : Int) == 0) = false := beq_eq_false_iff_ne.mpr c3
    have c3b1 : ((t374.length : Int) != 0) = true := bne_iff_ne.mpr c3
    have c3b2 : ¬ (t374 = []) := fun h_ => c3 (by rw [h_]; rfl)
    by_cases c18 : 1 ≤ (t374.length : Int)
    · rw [if_pos c18] at H
      have c18b0 := eq_true c18
      have c18b1 : decide (1 ≤ (t374.length : Int)) = true := decide_eq_true c18
      clear c18
      obtain ⟨y379, hy379⟩ : ∃ y_ : List (List Int), y_ = (t374.drop 1) := ⟨_, rfl⟩
      replace H : (if 0 < (t374.length : Int) then (some (y379, t377, rd_L1 t374 0, true)) else (none)) = some (r1, r2, r3, r4) := by first | (rw [hy379]; with_reducible exact H) | (have H2_ := (Option.bind_some _ _).symm.trans H; rw [hy379]; with_reducible exact H2_) | (have H2_ := (Option.bind_some _ _).symm.trans H; with_reducible exact H2_) | with_reducible exact H | (rw [hy379]; exact H) | exact H
      have Ny379 := Aside0.mk hy379
      clear hy379
      by_cases c19 : 0 < (t374.length : Int)
      · rw [if_pos c19] at H
        have c19b0 : decide (0 < (t374.length : Int)) = true := decide_eq_true c19
        have c19b1 : decide (0 < t374.length) = true := decide_eq_true (by omega)
        clear c19
        simp only [Option.some.injEq, Prod.mk.injEq] at H
        obtain ⟨rfl, rfl, rfl, rfl⟩ := H
        go_enter Try.func21, Try.ntmps21
        try go_wp2_with (first | ((with_reducible refine gate_dst (N := 1) rfl ?_); refine box_event ?hg (N := 1) ?hd (cs := #[.slice A0_0 l0_0.length c0_0, .bool a0_1]) (t := 24) ?hr ?_; (case hd => rfl); (case hg => rfl); (case hr => first | (go_simp; done) | (go_simp; rfl)); intro gb372 hg w20 hbox hb; replace HO0_0 := vE HO0_0 hg hb; have BK372 := Aside0.mk hbox; have GW372 := gE HB hg; have GE372 := gE HB hg; replace HB := hB HB hb; clear hb hbox hg) | ((with_reducible refine gate_dst (N := 2) rfl ?_); refine box_event ?hg (N := 2) ?hd (cs := #[.slice none 0 0, .bool false]) (t := 24) ?hr ?_; (case hd => rfl); (case hg => rfl); (case hr => first | (go_simp; done) | (go_simp; rfl)); intro gb373 hg w21 hbox hb; replace HO0_0 := vE HO0_0 hg hb; have BK373 := Aside0.mk hbox; have GW373 := gE HB hg; have GE373 := gE HB hg; replace HB := hB HB hb; have NB372_373 := nL BK372 hg; have NB373_372 := nG BK372 hg; replace BK372 := kB BK372 hb; clear hb hbox hg; have hnb22 := NB372_373.out; have hnc22 := NB373_372.out; obtain ⟨hcz23_0, hcz23_1, hfz23_0, hfz23_1⟩ := bc2 BK372) | ((with_reducible refine gate_callee (f := 33) rfl ?_); refine gL (some 7) rfl rfl Try.func33 (by kernel_rfl) rfl #[.agg #[.slice A0_0 l0_0.length c0_0, .bool a0_1]] rfl ?_; (with_reducible refine (pentroughref16_As.calls k (fun k_ => (((P0_0_ k_ ∨ w.heap.size ≤ k_) ∧ k_ ≠ gb372) ∧ k_ ≠ gb373)) _ _ l0_0 a0_1 t374 t377 _ ?side1 A2.out).mono ?_); (case side1 => exact HO0_0.out); rintro e w24 ⟨v375, rfl, ho0, hb⟩; refine ⟨_, rfl, ?_⟩; replace HO0_0 := vB HO0_0 hb; have HO376 := Aside0.mk (Kd.V_lower (Kd.V_mono (ok' := fun k_ => (P0_0_ k_ ∨ w.heap.size ≤ k_) ∧ k_ ≠ gb372 ∧ k_ ≠ gb373) ho0 (fun k_ hk_ => ⟨Or.elim hk_ (fun hs_ => hs_.1.1) (fun hn_ => (.inr (Nat.le_trans (below_size (bb HB)) hn_))), o2 hk_ (fun h => h.1.2) (Kd.freshB (kk BK372) k_), o2 hk_ (fun h => h.2) (Kd.freshB (kk BK373) k_)⟩)) (below_size (bb HB))); replace BK372 := kB BK372 hb; replace BK373 := kB BK373 hb; replace HB := hB HB hb; (try clear hb); (try clear hb2); (try clear hk); (try clear hi); (try clear ho0)) | ((with_reducible refine gate_dst (N := 5) rfl ?_); refine box_event ?hg (N := 5) ?hd (cs := #[.slice none 0 0, .bool false]) (t := 24) ?hr ?_; (case hd => rfl); (case hg => rfl); (case hr => first | (go_simp; done) | (go_simp; rfl)); intro gb378 hg w25 hbox hb; replace HO0_0 := vE HO0_0 hg hb; replace HO376 := vE HO376 hg hb; have BK378 := Aside0.mk hbox; have GW378 := gE HB hg; have GE378 := gE HB hg; replace HB := hB HB hb; have NB372_378 := nL BK372 hg; have NB378_372 := nG BK372 hg; replace BK372 := kB BK372 hb; have NB373_378 := nL BK373 hg; have NB378_373 := nG BK373 hg; replace BK373 := kB BK373 hb; clear hb hbox hg; obtain ⟨Ao26, co26, eo26⟩ := Kd.V_slice HO376.out; subst eo26; have hnb27 := NB378_372.out; have hnc27 := NB372_378.out; have hnb28 := NB378_373.out; have hnc28 := NB373_378.out; obtain ⟨hcz29_0, hcz29_1, hfz29_0, hfz29_1⟩ := bc2 BK378) | ((with_reducible refine gate_store (t := 24) (p := 5) rfl ?_); refine store_event (t := 24) (p := 5) (v := ?vo_w30) (w1 := ((w25.setCell ⟨gb378, 0, none⟩ (.slice Ao26 t374.length co26)).setCell ⟨gb378, 1, none⟩ (.bool t377))) ?hg ?ho ?hn ?hr ?_; (case ho => rfl); (case hg => rfl); (case hn => rfl); (case hr => first | (go_simp; done) | (go_simp; rfl)); intro w30 hw; replace HO0_0 := vS (fun k_ => (P0_0_ k_ ∨ w.heap.size ≤ k_) ∧ k_ ≠ gb372 ∧ k_ ≠ gb373 ∧ k_ ≠ gb378) HO0_0 hw; replace HO376 := vS (fun k_ => (P0_0_ k_ ∨ w.heap.size ≤ k_) ∧ k_ ≠ gb372 ∧ k_ ≠ gb373 ∧ k_ ≠ gb378) HO376 hw; replace BK372 := kS BK372 hw; replace BK373 := kS BK373 hw; replace BK378 := kP2 BK378 hw; replace HB : Aside0 (Below w.heap.size w w30) := ⟨(by rw [hw]; exact (bb HB))⟩; clear hw; obtain ⟨hcz31_0, hcz31_1, hfz31_0, hfz31_1⟩ := bc2 BK378))
        replace HO0_0 := Aside0.mk (Kd.V_drew HO0_0.out)
        replace HO376 := Aside0.mk (Kd.V_drew HO376.out)
        replace BK372 := Aside0.mk (blk_drew BK372.out)
        replace BK373 := Aside0.mk (blk_drew BK373.out)
        replace BK378 := Aside0.mk (blk_drew BK378.out)
        replace HB := Aside0.mk (below_drew1 HB.out)
        have q33 : (1 : Int) ≤ ((t374.length : Int) : Int) := of_decide_eq_true (by first | (with_reducible assumption) | assumption)
        obtain ⟨i033, hi033, _, hsz33, _⟩ := info_parts info32
        have hroom33 : t374.length ≤ co26 := (Kd.V_reads' HO376.out).2.1
        have hC33 : Kd.F (Kd.slice 3 (Kd.int .i64)) _ _ Ao26 t374.length t374 := (Kd.V_at (base := w.heap.size) HO376.out).2.2
        have hcut33 := cut_from (P := Try.prog) 22 32 .i64 Try.underlying22 hi033 1 hsz33 Ao26 t374.length co26 1 (by omega) q33
        have hr33 := Kd.F_cut (m := (1 : Int).toNat) (c := co26) hC33 (by omega) hroom33
        obtain ⟨A33, hA33⟩ : ∃ A1, A1 = (if co26 = (1 : Int).toNat then Ao26 else (Ao26 : Option Addr).map (·.add ((1 : Int).toNat * 1))) := ⟨_, rfl⟩
        obtain ⟨c33, hc33⟩ : ∃ c1, c1 = co26 - (1 : Int).toNat := ⟨_, rfl⟩
        have hy33 : y379.length = t374.length - (1 : Int).toNat := (by rw [Ny379.out, List.length_drop] <;> omega)
        rw [show (t374).drop (1 : Int).toNat = y379 from Ny379.out.symm] at hr33
        replace hr33 : Kd.F (Kd.slice 3 (Kd.int .i64)) _ _ A33 y379.length y379 := (by rw [hA33]; exact hr33)
        rw [← hy33, ← hA33, ← hc33] at hcut33
        have HO383 := Aside0.mk (show Kd.V (Kd.slice 3 (Kd.int .i64)) 32 _ w.heap.size _ (.slice A33 y379.length c33) y379 from Kd.V_mk (by rw [hy33, hc33]; exact Nat.sub_le_sub_right hroom33 _) hr33)
        have HC383 := Aside0.mk (show y379.length ≤ c33 from by rw [hy33, hc33]; exact Nat.sub_le_sub_right hroom33 _)
        clear hr33 hC33 hroom33 hi033 hsz33 hc33
        have KY33 := Aside0.mk hy33
        have KA33 := Aside0.mk hA33
        clear hy33 hA33
        replace q33 := eq_true q33
        have p384 : 0 ≤ (0 : Int) := (by omega)
        have q384 : 0 < (t374.length : Int) := of_decide_eq_true (by first | (with_reducible assumption) | assumption)
        obtain ⟨ad384, A384_0, c384_0, e384, hx384_0, hl384_0, hi384_0⟩ := at_L1 (Kd.V_reads' HO376.out).2.2 0 p384 q384
        cases e384
        obtain ⟨ce384, hce384, hMe384, hcc384⟩ := Kd.V_get HO376.out [] 0 p384 (by first | exact q384 | exact of_decide_eq_true (by first | (with_reducible assumption) | assumption) | (have e_ := (Kd.V_reads' HO376.out).1; omega))
        obtain ⟨ua384_0, uc384_0, rfl, ul384_0, ge384_0⟩ := Kd.FK_slice_open hMe384
        have hv384_0 := hcc384 0 _ rfl
        rw [Nat.add_zero, show ((Kd.slice 3 (Kd.int .i64))).sz = 1 from rfl, Nat.mul_one] at hv384_0
        replace hv384_0 := Option.some.inj (hv384_0.symm.trans hx384_0)
        injection hv384_0 with hva_ hvn_ hvc_
        rw [hva_] at ge384_0
        rw [hvc_] at ul384_0
        have HL384_0 := Aside0.mk (show Kd.V (Kd.int .i64) 3 _ w.heap.size _ _ (rd_L1 t374 0) from Kd.V_mk ul384_0 ge384_0)
        clear hva_ hvn_ hvc_ ge384_0 ul384_0
        clear hcc384 hce384
        have qi384 : (0 < t374.length) = True := eq_true (by omega)
        (try rw [show ((0 : Int)).toNat = 0 from rfl] at hx384_0)
        (try rw [Addr.add_zero'] at hx384_0)
        have HR384_0 := Aside0.mk hi384_0
        have HC384_0 := Aside0.mk hl384_0
        clear hi384_0 hl384_0
        replace p384 := eq_true p384
        replace q384 := eq_true q384
        refine start_ (n := 13) (S := fun w' => w'.cell? ⟨gb378, 0, none⟩ = some (.slice (some ad384) t374.length co26) ∧ w'.cell? ⟨gb378, 1, none⟩ = some (.bool t377) ∧ w'.cell? ad384 = some (.slice A384_0 (rd_L1 t374 0).length c384_0)) (ds := []) #[false, false, false, false, false, false, false, false, false, false, false, false, false] (by kernel_rfl) rfl rfl ⟨cx BK378 0, cx BK378 1, hx384_0⟩ (fun hHeld => ?_); refine with_tabW pentroughref16_Take.tab4 pentroughref16_Take.bits4 (fun HT_ HW_ => ?_)
        generalize w30.drew = w32 at HO0_0 HO376 BK372 BK373 BK378 HB HL384_0 HO383 HR384_0 hx384_0 hHeld ⊢
        refine pure_ (i := 0) (N := some 13) (v := ?_) (a' := ?_) #[true, false, false, false, false, false, false, false, false, false, false, false, false] rfl rfl (any_of HT_.out (by kernel_rfl)) (fun _ _ _ h => h) (Or.inl ⟨by rfl, ?_⟩) ?_ ?_
        rotate_left
        · intro w'
          go_simp
          with_reducible rfl
        rotate_left
        · simp only [Act.put, List.setIfInBounds_toArray, List.set_cons_zero, List.set_cons_succ, i64_w, i32_w]
          rfl
        refine pure_ (i := 3) (N := some 16) (v := ?_) (a' := ?_) #[true, false, false, true, false, false, false, false, false, false, false, false, false] rfl rfl (any_of HT_.out (by kernel_rfl)) (fun _ _ _ h => h) (Or.inl ⟨by rfl, ?_⟩) ?_ ?_
        rotate_left
        · intro w'
          go_simp
          with_reducible rfl
        rotate_left
        · simp only [Act.put, List.setIfInBounds_toArray, List.set_cons_zero, List.set_cons_succ, i64_w, i32_w]
          rfl
        refine pure_ (i := 6) (N := some 19) (v := ?_) (a' := ?_) #[true, false, false, true, false, false, true, false, false, false, false, false, false] rfl rfl (any_of HT_.out (by kernel_rfl)) (fun _ _ _ h => h) (Or.inl ⟨by rfl, ?_⟩) ?_ ?_
        rotate_left
        · intro w'
          go_simp
          with_reducible rfl
        rotate_left
        · simp only [Act.put, List.setIfInBounds_toArray, List.set_cons_zero, List.set_cons_succ, i64_w, i32_w]
          rfl
        refine take_ (i := 1) (N := some 14) (v := ?_) (a' := ?_) #[true, true, false, true, false, false, true, false, false, false, false, false, false] rfl rfl (take_ofW HT_.out HW_.out (by kernel_rfl)) (fun _ _ _ h => h) (Or.inl ⟨by rfl, ?_⟩) hHeld ?_ ?_
        rotate_left
        · rintro w' ⟨s0, s1, s2⟩
          go_simp
          with_reducible rfl
        rotate_left
        · simp only [Act.put, List.setIfInBounds_toArray, List.set_cons_zero, List.set_cons_succ, i64_w, i32_w]
          rfl
        refine pure_ (i := 2) (N := some 15) (v := ?_) (a' := ?_) #[true, true, true, true, false, false, true, false, false, false, false, false, false] rfl rfl (any_of HT_.out (by kernel_rfl)) (fun _ _ _ h => h) (Or.inl ⟨by rfl, ?_⟩) ?_ ?_
        rotate_left
        · intro w'
          go_simp
          with_reducible rfl
        rotate_left
        · simp only [Act.put, List.setIfInBounds_toArray, List.set_cons_zero, List.set_cons_succ, i64_w, i32_w]
          rfl
        refine take_ (i := 4) (N := some 17) (v := ?_) (a' := ?_) #[true, true, true, true, true, false, true, false, false, false, false, false, false] rfl rfl (take_ofW HT_.out HW_.out (by kernel_rfl)) (fun _ _ _ h => h) (Or.inl ⟨by rfl, ?_⟩) hHeld ?_ ?_
        rotate_left
        · rintro w' ⟨s0, s1, s2⟩
          go_simp
          with_reducible rfl
        rotate_left
        · simp only [Act.put, List.setIfInBounds_toArray, List.set_cons_zero, List.set_cons_succ, i64_w, i32_w]
          rfl
        refine pure_ (i := 5) (N := some 18) (v := ?_) (a' := ?_) #[true, true, true, true, true, true, true, false, false, false, false, false, false] rfl rfl (any_of HT_.out (by kernel_rfl)) (fun _ _ _ h => h) (Or.inl ⟨by rfl, ?_⟩) ?_ ?_
        rotate_left
        · intro w'
          go_simp
          with_reducible rfl
        rotate_left
        · simp only [Act.put, List.setIfInBounds_toArray, List.set_cons_zero, List.set_cons_succ, i64_w, i32_w]
          rfl
        refine take_ (i := 7) (N := some 20) (v := ?_) (a' := ?_) #[true, true, true, true, true, true, true, true, false, false, false, false, false] rfl rfl (take_ofW HT_.out HW_.out (by kernel_rfl)) (fun _ _ _ h => h) (Or.inl ⟨by rfl, ?_⟩) hHeld ?_ ?_
        rotate_left
        · rintro w' ⟨s0, s1, s2⟩
          go_simp
          with_reducible rfl
        rotate_left
        · simp only [Act.put, List.setIfInBounds_toArray, List.set_cons_zero, List.set_cons_succ, i64_w, i32_w]
          rfl
        refine pure_ (i := 8) (N := some 21) (v := ?_) (a' := ?_) #[true, true, true, true, true, true, true, true, true, false, false, false, false] rfl rfl (any_of HT_.out (by kernel_rfl)) (fun _ _ _ h => h) (Or.inl ⟨by rfl, ?_⟩) ?_ ?_
        rotate_left
        · intro w'
          go_simp
          with_reducible rfl
        rotate_left
        · simp only [Act.put, List.setIfInBounds_toArray, List.set_cons_zero, List.set_cons_succ, i64_w, i32_w]
          rfl
        refine take_ (i := 9) (N := some 22) (v := ?_) (a' := ?_) #[true, true, true, true, true, true, true, true, true, true, false, false, false] rfl rfl (take_ofW HT_.out HW_.out (by kernel_rfl)) (fun _ _ _ h => h) (Or.inl ⟨by rfl, ?_⟩) hHeld ?_ ?_
        rotate_left
        · rintro w' ⟨s0, s1, s2⟩
          go_simp
          with_reducible rfl
        rotate_left
        · simp only [Act.put, List.setIfInBounds_toArray, List.set_cons_zero, List.set_cons_succ, i64_w, i32_w]
          rfl
        refine one_ (i := 10) (N := none) #[true, true, true, true, true, true, true, true, true, true, true, false, false] rfl rfl (one_of HT_.out (by kernel_rfl)) (by decide) (fun K hK => ?_)
        have hs34 : w32.cell? ⟨gb373, 0, none⟩ = some (.slice none 0 0) := cx BK373 0
        have hfs34 := blk_frozen BK373.out 0
        have hns34_0 := NB372_373.out
        have hns34_2 := NB378_373.out
        have hms34_0 := NB373_372.out
        have hms34_2 := NB373_378.out
        have hs35 : w32.cell? ⟨gb373, 1, none⟩ = some (.bool false) := cx BK373 1
        have hfs35 := blk_frozen BK373.out 1
        have hns35_0 := NB372_373.out
        have hns35_2 := NB378_373.out
        have hms35_0 := NB373_372.out
        have hms35_2 := NB373_378.out
        refine skip_ (w1 := ?_) (by rfl) rfl ?_ ?_
        rotate_left
        · go_simp
          rfl
        refine hK.out _ _ ⟨((cell_far (p := ⟨gb373, _, none⟩) NB378_373.out _).trans (((cell_far (p := ⟨gb373, _, none⟩) NB378_373.out _).trans (hHeld.1)))), ((cell_far (p := ⟨gb373, _, none⟩) NB378_373.out _).trans (((cell_far (p := ⟨gb373, _, none⟩) NB378_373.out _).trans (hHeld.2.1)))), ((cell_far (p := ⟨gb373, _, none⟩) (by first | exact Kd.own_blk (Kd.V_away HO376.out (fun _ hk => hk.2.2.1) (Int.lt_of_le_of_lt (of_eq_true p384) (of_eq_true q384))) | (rw [add_block]; exact Kd.own_blk (Kd.V_away HO376.out (fun _ hk => hk.2.2.1) (Int.lt_of_le_of_lt (of_eq_true p384) (of_eq_true q384)))) | (show (Addr.add _ _).block ≠ _; rw [add_block]; exact Kd.own_blk (Kd.V_away HO376.out (fun _ hk => hk.2.2.1) (Int.lt_of_le_of_lt (of_eq_true p384) (of_eq_true q384)))) | (dsimp only; exact Kd.own_blk (Kd.V_away HO376.out (fun _ hk => hk.2.2.1) (Int.lt_of_le_of_lt (of_eq_true p384) (of_eq_true q384))))) _).trans (((cell_far (p := ⟨gb373, _, none⟩) (by first | exact Kd.own_blk (Kd.V_away HO376.out (fun _ hk => hk.2.2.1) (Int.lt_of_le_of_lt (of_eq_true p384) (of_eq_true q384))) | (rw [add_block]; exact Kd.own_blk (Kd.V_away HO376.out (fun _ hk => hk.2.2.1) (Int.lt_of_le_of_lt (of_eq_true p384) (of_eq_true q384)))) | (show (Addr.add _ _).block ≠ _; rw [add_block]; exact Kd.own_blk (Kd.V_away HO376.out (fun _ hk => hk.2.2.1) (Int.lt_of_le_of_lt (of_eq_true p384) (of_eq_true q384)))) | (dsimp only; exact Kd.own_blk (Kd.V_away HO376.out (fun _ hk => hk.2.2.1) (Int.lt_of_le_of_lt (of_eq_true p384) (of_eq_true q384))))) _).trans (hHeld.2.2))))⟩ (fun hHeld => ?_)
        clear hK K
        refine pure_ (i := 11) (N := some 3) (v := ?_) (a' := ?_) #[true, true, true, true, true, true, true, true, true, true, true, true, false] rfl rfl (any_of HT_.out (by kernel_rfl)) (fun _ _ _ h => h) (Or.inl ⟨by rfl, ?_⟩) ?_ ?_
        rotate_left
        · intro w'
          go_simp
          with_reducible rfl
        rotate_left
        · simp only [Act.put, List.setIfInBounds_toArray, List.set_cons_zero, List.set_cons_succ, i64_w, i32_w]
          rfl
        refine pure_ (i := 12) (N := some 4) (v := ?_) (a' := ?_) #[true, true, true, true, true, true, true, true, true, true, true, true, true] rfl rfl (any_of HT_.out (by kernel_rfl)) (fun _ _ _ h => h) (Or.inl ⟨by rfl, ?_⟩) ?_ ?_
        rotate_left
        · intro w'
          go_simp
          with_reducible rfl
        rotate_left
        · simp only [Act.put, List.setIfInBounds_toArray, List.set_cons_zero, List.set_cons_succ, i64_w, i32_w]
          rfl
        refine done_ (done_of HT_.out (by kernel_rfl)) ?_
        try go_wp2
        refine bodyPost_ret (results_ctt rfl _ _ gb373 24 #[.slice A33 y379.length c33, .bool t377] (0, 0) _ rfl (by (with_reducible repeat (first | refine blk_drewN ?_ _ | refine blk_drew ?_ | refine blk_alloc ?_ _)); refine blk_put (cs := #[.slice A33 y379.length c33, .bool false]) ?_ 1 _ rfl; (with_reducible repeat (first | refine blk_drewN ?_ _ | refine blk_drew ?_ | refine blk_alloc ?_ _)); refine blk_put (cs := #[.slice none 0 0, .bool false]) ?_ 0 _ rfl; (with_reducible repeat (first | refine blk_drewN ?_ _ | refine blk_drew ?_ | refine blk_alloc ?_ _)); exact BK373.out) Try.underlying24 rfl (by kernel_rfl)) rfl ?_
        exact ⟨_, _, by first | rfl | (simp [errW_none, errW_some] <;> rfl) | (simp [*, errW_none, errW_some] <;> rfl), by (with_reducible repeat (first | apply Kd.V_alloc | apply Kd.V_drewN | apply Kd.V_drew)); exact Kd.V_mono (Kd.V_far (p := ⟨gb373, 1, none⟩) (Kd.V_far (p := ⟨gb373, 0, none⟩) (Kd.V_mono HO383.out (fun k_ hk => (⟨hk, hk.2.2.1⟩ : _ ∧ k_ ≠ gb373))) (fun _ hk => hk.2) (.slice A33 y379.length c33)) (fun _ hk => hk.2) (.bool t377)) (fun _ hk => hk.1.1), by (with_reducible repeat (first | apply Kd.V_alloc | apply Kd.V_drewN | apply Kd.V_drew)); exact Kd.V_mono (Kd.V_far (p := ⟨gb373, 1, none⟩) (Kd.V_far (p := ⟨gb373, 0, none⟩) (Kd.V_mono HL384_0.out (fun k_ hk => (⟨hk, hk.2.2.1⟩ : _ ∧ k_ ≠ gb373))) (fun _ hk => hk.2) (.slice A33 y379.length c33)) (fun _ hk => hk.2) (.bool t377)) (fun _ hk => hk.1.1), by repeat (first | (with_reducible first | exact HB.out | apply below_alloc | apply pw_below_drewN | apply below_drew1 | refine below_set ?_ GE372.out | refine below_set ?_ GE373.out | refine below_set ?_ GE378.out) | exact HB.out)⟩
      · rw [if_neg c19] at H
        exact absurd H (by simp)
    · rw [if_neg c18] at H
      exact absurd H (by simp)

/-! ### pentroughref16_Close: function 23 -/
def pentroughref16_Close.f (k : Nat) (l0_0 : List (List Int)) (a0_1 : Bool) : Option ((List (List Int)) × Bool) := (pentroughref16_As.f k l0_0 a0_1).bind fun bt387 => (some (bt387.1, true))
theorem pentroughref16_Close.mono : ∀ a0 a1 k, LeO (pentroughref16_Close.f k a0 a1) (pentroughref16_Close.f (k + 1) a0 a1) := by
  intro a0 a1 k
  unfold pentroughref16_Close.f
  repeat' first
      | (with_reducible exact pentroughref16_As.mono _ _ _)
      | (with_reducible exact LeO.refl _)
      | (with_reducible exact LeO.none _)
      | (with_reducible refine LeO.ite ?_ ?_)
      | (with_reducible refine LeO.bind ?_ (fun _ => ?_))
      | exact pentroughref16_As.mono _ _ _
      | exact LeO.none _
      | refine LeO.ite ?_ ?_
      | refine LeO.bind ?_ (fun _ => ?_)
set_option maxHeartbeats 8000000 in
set_option maxRecDepth 100000 in
theorem pentroughref16_Close.calls (k : Nat) (P0_0_ : Nat → Prop) (A0_0 : Option Addr) (c0_0 : Nat) (l0_0 : List (List Int)) (a0_1 : Bool) (r1 : List (List Int)) (r2 : Bool) (w : World) (hs0_0 : Kd.V (Kd.slice 3 (Kd.int .i64)) 32 w w.heap.size (fun k_ => P0_0_ k_) (.slice A0_0 l0_0.length c0_0) l0_0) (h : pentroughref16_Close.f k l0_0 a0_1 = some (r1, r2)) :
    Calls Try.prog 23 #[.agg #[.slice A0_0 l0_0.length c0_0, .bool a0_1]] w fun e w' => ∃ v0_ : Value, e = .returned (.agg #[v0_, .bool r2]) ∧ Kd.V (Kd.slice 3 (Kd.int .i64)) 32 w' w.heap.size (fun k_ => (P0_0_ k_ ∨ w.heap.size ≤ k_)) v0_ r1 ∧ Below w.heap.size w w' := by
  have hfld0 : ∀ (a b : Value) (w : World), (Instr.field 24 (.agg #[a, b]) 0).run Try.prog w = .ok a w := fun _ _ _ => by kernel_rfl
  have hu24 := Try.underlying24
  have HO0_0 := Aside0.mk (show Kd.V (Kd.slice 3 (Kd.int .i64)) 32 w w.heap.size (fun k_ => (P0_0_ k_ ∨ w.heap.size ≤ k_)) (.slice A0_0 l0_0.length c0_0) l0_0 from Kd.V_mono hs0_0 (fun k_ hk => .inl hk))
  have HB := Aside0.mk (Below.refl w.heap.size w)
  have H : ((pentroughref16_As.f k l0_0 a0_1).bind fun bt387 => (some (bt387.1, true))) = some (r1, r2) := h
  clear h
  replace H := Option.bind_eq_some_iff.mp H
  obtain ⟨⟨t387, t390⟩, A20, H⟩ := H
  replace H : (some (t387, true)) = some (r1, r2) := H
  have A2 := Aside0.mk A20
  clear A20
  simp only [Option.some.injEq, Prod.mk.injEq] at H
  obtain ⟨rfl, rfl⟩ := H
  go_enter Try.func23, Try.ntmps23
  go_wp2_with (first | ((with_reducible refine gate_dst (N := 1) rfl ?_); refine box_event ?hg (N := 1) ?hd (cs := #[.slice A0_0 l0_0.length c0_0, .bool a0_1]) (t := 24) ?hr ?_; (case hd => rfl); (case hg => rfl); (case hr => first | (go_simp; done) | (go_simp; rfl)); intro gb385 hg w3 hbox hb; replace HO0_0 := vE HO0_0 hg hb; have BK385 := Aside0.mk hbox; have GW385 := gE HB hg; have GE385 := gE HB hg; replace HB := hB HB hb; clear hb hbox hg) | ((with_reducible refine gate_dst (N := 2) rfl ?_); refine box_event ?hg (N := 2) ?hd (cs := #[.slice none 0 0, .bool false]) (t := 24) ?hr ?_; (case hd => rfl); (case hg => rfl); (case hr => first | (go_simp; done) | (go_simp; rfl)); intro gb386 hg w4 hbox hb; replace HO0_0 := vE HO0_0 hg hb; have BK386 := Aside0.mk hbox; have GW386 := gE HB hg; have GE386 := gE HB hg; replace HB := hB HB hb; have NB385_386 := nL BK385 hg; have NB386_385 := nG BK385 hg; replace BK385 := kB BK385 hb; clear hb hbox hg; have hnb5 := NB385_386.out; have hnc5 := NB386_385.out; obtain ⟨hcz6_0, hcz6_1, hfz6_0, hfz6_1⟩ := bc2 BK385) | ((with_reducible refine gate_callee (f := 33) rfl ?_); refine gL (some 4) rfl rfl Try.func33 (by kernel_rfl) rfl #[.agg #[.slice A0_0 l0_0.length c0_0, .bool a0_1]] rfl ?_; (with_reducible refine (pentroughref16_As.calls k (fun k_ => (((P0_0_ k_ ∨ w.heap.size ≤ k_) ∧ k_ ≠ gb385) ∧ k_ ≠ gb386)) _ _ l0_0 a0_1 t387 t390 _ ?side1 A2.out).mono ?_); (case side1 => exact HO0_0.out); rintro e w7 ⟨v388, rfl, ho0, hb⟩; refine ⟨_, rfl, ?_⟩; replace HO0_0 := vB HO0_0 hb; have HO389 := Aside0.mk (Kd.V_lower (Kd.V_mono (ok' := fun k_ => (P0_0_ k_ ∨ w.heap.size ≤ k_) ∧ k_ ≠ gb385 ∧ k_ ≠ gb386) ho0 (fun k_ hk_ => ⟨Or.elim hk_ (fun hs_ => hs_.1.1) (fun hn_ => (.inr (Nat.le_trans (below_size (bb HB)) hn_))), o2 hk_ (fun h => h.1.2) (Kd.freshB (kk BK385) k_), o2 hk_ (fun h => h.2) (Kd.freshB (kk BK386) k_)⟩)) (below_size (bb HB))); replace BK385 := kB BK385 hb; replace BK386 := kB BK386 hb; replace HB := hB HB hb; (try clear hb); (try clear hb2); (try clear hk); (try clear hi); (try clear ho0); obtain ⟨Ao8, co8, eo8⟩ := Kd.V_slice HO389.out; subst eo8; obtain ⟨hcz9_0, hcz9_1, hfz9_0, hfz9_1⟩ := bc2 BK386) | ((with_reducible refine gate_store (t := 24) (p := 2) rfl ?_); refine store_event (t := 24) (p := 2) (v := ?vo_w10) (w1 := ((w7.setCell ⟨gb386, 0, none⟩ (.slice Ao8 t387.length co8)).setCell ⟨gb386, 1, none⟩ (.bool true))) ?hg ?ho ?hn ?hr ?_; (case ho => rfl); (case hg => rfl); (case hn => rfl); (case hr => first | (go_simp; done) | (go_simp; rfl)); intro w10 hw; replace HO0_0 := vS (fun k_ => (P0_0_ k_ ∨ w.heap.size ≤ k_) ∧ k_ ≠ gb385 ∧ k_ ≠ gb386) HO0_0 hw; replace HO389 := vS (fun k_ => (P0_0_ k_ ∨ w.heap.size ≤ k_) ∧ k_ ≠ gb385 ∧ k_ ≠ gb386) HO389 hw; replace BK385 := kS BK385 hw; replace BK386 := kP2 BK386 hw; replace HB : Aside0 (Below w.heap.size w w10) := ⟨(by rw [hw]; exact (bb HB))⟩; clear hw))
  refine bodyPost_ret (results_cell_row rfl _ _ gb386 24 #[.slice Ao8 t387.length co8, .bool true] (0, 0) _ rfl (kk BK386) Try.underlying24 rfl (by kernel_rfl)) rfl ?_
  exact ⟨_, by first | rfl | (simp [errW_none, errW_some] <;> rfl) | (simp [*, errW_none, errW_some] <;> rfl), by (with_reducible repeat (first | apply Kd.V_alloc | apply Kd.V_drewN | apply Kd.V_drew)); exact Kd.V_mono HO389.out (fun _ hk => hk.1), by repeat (first | (with_reducible first | exact HB.out | apply below_alloc | apply pw_below_drewN | apply below_drew1 | refine below_set ?_ GE385.out | refine below_set ?_ GE386.out) | exact HB.out)⟩

/-! ### chans_Spent: function 24 -/
def chans_Spent.f (k : Nat) (l0_0 : List (List Int)) (a0_1 : Bool) : Option (Bool) := (chans_sane.f k l0_0 a0_1).bind fun bt392 => (if bt392.2 = true then (some ((bt392.1.length : Int) == 0)) else (some false))
theorem chans_Spent.mono : ∀ a0 a1 k, LeO (chans_Spent.f k a0 a1) (chans_Spent.f (k + 1) a0 a1) := by
  intro a0 a1 k
  unfold chans_Spent.f
  repeat' first
      | (with_reducible exact chans_sane.mono _ _ _)
      | (with_reducible exact LeO.refl _)
      | (with_reducible exact LeO.none _)
      | (with_reducible refine LeO.ite ?_ ?_)
      | (with_reducible refine LeO.bind ?_ (fun _ => ?_))
      | exact chans_sane.mono _ _ _
      | exact LeO.none _
      | refine LeO.ite ?_ ?_
      | refine LeO.bind ?_ (fun _ => ?_)
theorem Spent_val (l : List (List Int)) (b : Bool) (hl : l.length ≤ 9223372036854775807) (k : Nat) (hk : l.length < k) : chans_Spent.f k l b = some (asC l b && decide ((asL l).length = 0)) := by
  unfold chans_Spent.f
  rw [sane_val l b hl k hk, Option.bind_some]
  by_cases c : asC l b = true
  · rw [if_pos c, c]; simp [Bool.beq_eq_decide_eq]
  · rw [if_neg c, Bool.eq_false_iff.mpr c]; rfl
set_option maxHeartbeats 1000000 in
theorem Spent_walk (A : Option Addr) (c : Nat) (l : List (List Int)) (b : Bool) (w : World) (hr : Kd.C (Kd.slice 3 (Kd.int .i64)) w A l.length l) (hc : l.length ≤ c) :
    Calls Try.prog 24 #[.agg #[.slice A l.length c, .bool b]] w fun e w' => e = .returned (.bool (asC l b && decide ((asL l).length = 0))) ∧ Below w.heap.size w w' := by
  have HR := Aside0.mk (Kd.C_alloc hr (.cells #[.slice A l.length c, .bool b] 28))
  clear hr
  by_cases h : asC l b = true
  · by_cases z : (asL l).length = 0
    · have HE : Aside0 ((asC l b && decide ((asL l).length = 0)) = true) := ⟨by rw [h, decide_eq_true z]; rfl⟩
      have z1 : (((asL l).length : Int) == 0) = true := by rw [z]; rfl
      clear z
      go_enter Try.func24, Try.ntmps24
      go_wp2_with (go_at_call 30; refine (sane_walk _ _ _ _ _ HR.out hc).mono ?_; rintro e w1 ⟨⟨A1, c1, rfl, hc1, hA, hb⟩⟩; obtain ⟨k0, k1, q0, q1, hz⟩ := one_cells hb; have HB := Aside0.mk hb; clear hb hA)
      go_ret
      exact ⟨by rw [HE.out]; first | rfl | (simp; done), (((below_one HB.out).setCell (by simp) _).setCell (by simp) _)⟩
    · have HE : Aside0 ((asC l b && decide ((asL l).length = 0)) = false) := ⟨by rw [h, decide_eq_false z]; rfl⟩
      have z1 : (((asL l).length : Int) == 0) = false := beq_eq_false_iff_ne.mpr (by omega)
      clear z
      go_enter Try.func24, Try.ntmps24
      go_wp2_with (go_at_call 30; refine (sane_walk _ _ _ _ _ HR.out hc).mono ?_; rintro e w1 ⟨⟨A1, c1, rfl, hc1, hA, hb⟩⟩; obtain ⟨k0, k1, q0, q1, hz⟩ := one_cells hb; have HB := Aside0.mk hb; clear hb hA)
      go_ret
      exact ⟨by rw [HE.out]; first | rfl | (simp; done), (((below_one HB.out).setCell (by simp) _).setCell (by simp) _)⟩
  · have h' := Bool.eq_false_iff.mpr h
    have HE : Aside0 ((asC l b && decide ((asL l).length = 0)) = false) := ⟨by rw [h']; rfl⟩
    clear h
    go_enter Try.func24, Try.ntmps24
    go_wp2_with (go_at_call 30; refine (sane_walk _ _ _ _ _ HR.out hc).mono ?_; rintro e w1 ⟨⟨A1, c1, rfl, hc1, hA, hb⟩⟩; obtain ⟨k0, k1, q0, q1, hz⟩ := one_cells hb; have HB := Aside0.mk hb; clear hb hA)
    go_ret
    exact ⟨by rw [HE.out]; first | rfl | (simp; done), (((below_one HB.out).setCell (by simp) _).setCell (by simp) _)⟩
theorem chans_Spent.calls (k : Nat) (A0_0 : Option Addr) (c0_0 : Nat) (l0_0 : List (List Int)) (a0_1 : Bool) (r : Bool) (w : World) (hr0_0 : Kd.C (Kd.slice 3 (Kd.int .i64)) w A0_0 l0_0.length l0_0) (hc0_0 : l0_0.length ≤ c0_0) (h : chans_Spent.f k l0_0 a0_1 = some r) :
    Calls Try.prog 24 #[.agg #[.slice A0_0 l0_0.length c0_0, .bool a0_1]] w fun e w' => e = .returned (.bool r) ∧ Below w.heap.size w w' := by
  rw [told_of (chans_Spent.mono l0_0 a0_1) h (fun k hk => Spent_val l0_0 a0_1 hr0_0.2.1 k hk)]
  exact Spent_walk A0_0 c0_0 l0_0 a0_1 w hr0_0 hc0_0

end Go.Proofs.Ytneomcnfbnfjbaa.Q
