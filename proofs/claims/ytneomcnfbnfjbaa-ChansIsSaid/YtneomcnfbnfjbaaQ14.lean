-- Laid by mix.py, a program of this session, with the kit's print.py; walks by hand come out of wip/over.
import Derived.Test.YtneomcnfbnfjbaaShort
import Derived.Test.YtneomcnfbnfjbaaQ0
import Derived.Test.YtneomcnfbnfjbaaQ11
namespace Go.Proofs.Ytneomcnfbnfjbaa.Q
open Go.RowKit Go.Proofs.YtneomcnfbnfjbaaW.PrintWords Go.Proofs.YtneomcnfbnfjbaaW.PrintLast Go.Proofs.YtneomcnfbnfjbaaW.PrintMore Go.Proofs.YtneomcnfbnfjbaaW.Sh
attribute [local go_sem] max2_int min2_int max_two min_two max_three min_three max_four min_four   -- for this text's walks alone
set_option linter.unusedVariables false
set_option linter.unusedSimpArgs false

/-! ### pentroughref16_Spent: function 25 -/
def pentroughref16_Spent.f (k : Nat) (l0_0 : List (List Int)) (a0_1 : Bool) : Option (Bool) := (pentroughref16_As.f k l0_0 a0_1).bind fun bt397 => (if bt397.2 = true then (some ((bt397.1.length : Int) == 0)) else (some false))
theorem pentroughref16_Spent.mono : ∀ a0 a1 k, LeO (pentroughref16_Spent.f k a0 a1) (pentroughref16_Spent.f (k + 1) a0 a1) := by
  intro a0 a1 k
  unfold pentroughref16_Spent.f
  repeat' first
      | (with_reducible exact pentroughref16_As.mono _ _ _)
      | (with_reducible exact LeO.refl _)
      | (with_reducible exact LeO.none _)
      | (with_reducible refine LeO.ite ?_ ?_)
      | (with_reducible refine LeO.bind ?_ (fun _ => ?_))
      | exact pentroughref16_As.mono _ _ _
      | exact LeO.none _
      | refine LeO.ite ?_ ?_
      | refine LeO.bind ?_ (fun _ => ?_)
set_option maxHeartbeats 8000000 in
set_option maxRecDepth 100000 in
theorem pentroughref16_Spent.calls (k : Nat) (A0_0 : Option Addr) (c0_0 : Nat) (l0_0 : List (List Int)) (a0_1 : Bool) (r : Bool) (w : World) (hr0_0 : Kd.C (Kd.slice 3 (Kd.int .i64)) w A0_0 l0_0.length l0_0) (hc0_0 : l0_0.length ≤ c0_0) (h : pentroughref16_Spent.f k l0_0 a0_1 = some r) :
    Calls Try.prog 25 #[.agg #[.slice A0_0 l0_0.length c0_0, .bool a0_1]] w fun e w' => e = .returned (.bool r) ∧ Below w.heap.size w w' := by
  have hu24 := Try.underlying24
  have HR0_0 := Aside0.mk hr0_0
  have HC0_0 := Aside0.mk hc0_0
  clear hr0_0 hc0_0
  have HB := Aside0.mk (Below.refl w.heap.size w)
  have H : ((pentroughref16_As.f k l0_0 a0_1).bind fun bt397 => (if bt397.2 = true then (some ((bt397.1.length : Int) == 0)) else (some false))) = some r := h
  clear h
  obtain ⟨⟨t397, t400⟩, A2, H⟩ := ob H
  (try dsimp only at H)
  by_cases c3 : t400 = true
  · subst c3
    rw [if_pos rfl] at H
    obtain rfl := Option.some.inj H
    go_enter Try.func25, Try.ntmps25
    go_wp2_with (first | ((with_reducible refine gate_dst (N := 1) rfl ?_); (try (refine gate_guard (by rfl) ?_; dsimp only)); refine box_event ?hg (N := 1) ?hd (cs := #[.slice A0_0 l0_0.length c0_0, .bool a0_1]) (t := 24) ?hr ?_; (case hd => rfl); (case hg => rfl); (case hr => first | (go_simp; done) | (go_simp; rfl)); intro gb396 hg w4 hbox hb; have BK396 := Aside0.mk hbox; have GW396 := gE HB hg; have GE396 := gE HB hg; replace HB := hB HB hb; clear hb hbox hg; obtain ⟨hcz5_0, hcz5_1, hfz5_0, hfz5_1⟩ := bc2 BK396) | ((with_reducible refine gate_callee (f := 33) rfl ?_); refine gL (some 5) rfl rfl Try.func33 (by kernel_rfl) rfl #[.agg #[.slice A0_0 l0_0.length c0_0, .bool a0_1]] rfl ?_; (with_reducible refine (pentroughref16_As.calls k (fun k_ => k_ < w.heap.size) _ _ l0_0 a0_1 t397 true _ ?side1 A2.out).mono ?_); (case side1 => exact Kd.V_mk HC0_0.out (Kd.F_below (Kd.C_F (Kd.heap_slice 3 (Kd.heap_int .i64)) HR0_0.out) (bb HB))); rintro e w6 ⟨v398, rfl, ho0, hb⟩; refine ⟨_, rfl, ?_⟩; have HO399 := Aside0.mk (Kd.V_lower (Kd.V_mono (ok' := fun k_ => k_ ≠ gb396) ho0 (fun k_ hk_ => o2 hk_ (gw GW396) (Kd.freshB (kk BK396) k_))) (below_size (bb HB))); replace BK396 := kB BK396 hb; replace HB := hB HB hb; (try clear hb); (try clear hb2); (try clear hk); (try clear hi); (try clear ho0)) | ((with_reducible refine gate_dst (N := 3) rfl ?_); (try (refine gate_guard (by rfl) ?_; dsimp only)); refine box_event ?hg (N := 3) ?hd (cs := #[.slice none 0 0, .bool false]) (t := 24) ?hr ?_; (case hd => rfl); (case hg => rfl); (case hr => first | (go_simp; done) | (go_simp; rfl)); intro gb401 hg w7 hbox hb; replace HO399 := vE HO399 hg hb; have BK401 := Aside0.mk hbox; have GW401 := gE HB hg; have GE401 := gE HB hg; replace HB := hB HB hb; have NB396_401 := nL BK396 hg; have NB401_396 := nG BK396 hg; replace BK396 := kB BK396 hb; clear hb hbox hg; obtain ⟨Ao8, co8, eo8⟩ := Kd.V_slice HO399.out; subst eo8; have hnb9 := NB401_396.out; have hnc9 := NB396_401.out; obtain ⟨hcz10_0, hcz10_1, hfz10_0, hfz10_1⟩ := bc2 BK401))
    go_ret
    exact ⟨by first | rfl | (simp [errW_none, errW_some] <;> rfl) | (simp [*, errW_none, errW_some] <;> rfl), by repeat (first | (with_reducible first | exact HB.out | apply below_alloc | apply pw_below_drewN | apply below_drew1 | refine below_set ?_ GE396.out | refine below_set ?_ GE401.out) | exact HB.out)⟩
  · replace c3 := Bool.eq_false_iff.mpr c3
    subst c3
    rw [if_neg nf] at H
    obtain rfl := Option.some.inj H
    go_enter Try.func25, Try.ntmps25
    go_wp2_with (first | ((with_reducible refine gate_dst (N := 1) rfl ?_); (try (refine gate_guard (by rfl) ?_; dsimp only)); refine box_event ?hg (N := 1) ?hd (cs := #[.slice A0_0 l0_0.length c0_0, .bool a0_1]) (t := 24) ?hr ?_; (case hd => rfl); (case hg => rfl); (case hr => first | (go_simp; done) | (go_simp; rfl)); intro gb396 hg w11 hbox hb; have BK396 := Aside0.mk hbox; have GW396 := gE HB hg; have GE396 := gE HB hg; replace HB := hB HB hb; clear hb hbox hg; obtain ⟨hcz12_0, hcz12_1, hfz12_0, hfz12_1⟩ := bc2 BK396) | ((with_reducible refine gate_callee (f := 33) rfl ?_); refine gL (some 5) rfl rfl Try.func33 (by kernel_rfl) rfl #[.agg #[.slice A0_0 l0_0.length c0_0, .bool a0_1]] rfl ?_; (with_reducible refine (pentroughref16_As.calls k (fun k_ => k_ < w.heap.size) _ _ l0_0 a0_1 t397 false _ ?side1 A2.out).mono ?_); (case side1 => exact Kd.V_mk HC0_0.out (Kd.F_below (Kd.C_F (Kd.heap_slice 3 (Kd.heap_int .i64)) HR0_0.out) (bb HB))); rintro e w13 ⟨v398, rfl, ho0, hb⟩; refine ⟨_, rfl, ?_⟩; have HO399 := Aside0.mk (Kd.V_lower (Kd.V_mono (ok' := fun k_ => k_ ≠ gb396) ho0 (fun k_ hk_ => o2 hk_ (gw GW396) (Kd.freshB (kk BK396) k_))) (below_size (bb HB))); replace BK396 := kB BK396 hb; replace HB := hB HB hb; (try clear hb); (try clear hb2); (try clear hk); (try clear hi); (try clear ho0)) | ((with_reducible refine gate_dst (N := 3) rfl ?_); (try (refine gate_guard (by rfl) ?_; dsimp only)); refine box_event ?hg (N := 3) ?hd (cs := #[.slice none 0 0, .bool false]) (t := 24) ?hr ?_; (case hd => rfl); (case hg => rfl); (case hr => first | (go_simp; done) | (go_simp; rfl)); intro gb401 hg w14 hbox hb; replace HO399 := vE HO399 hg hb; have BK401 := Aside0.mk hbox; have GW401 := gE HB hg; have GE401 := gE HB hg; replace HB := hB HB hb; have NB396_401 := nL BK396 hg; have NB401_396 := nG BK396 hg; replace BK396 := kB BK396 hb; clear hb hbox hg; obtain ⟨Ao15, co15, eo15⟩ := Kd.V_slice HO399.out; subst eo15; have hnb16 := NB401_396.out; have hnc16 := NB396_401.out; obtain ⟨hcz17_0, hcz17_1, hfz17_0, hfz17_1⟩ := bc2 BK401))
    go_ret
    exact ⟨by first | rfl | (simp [errW_none, errW_some] <;> rfl) | (simp [*, errW_none, errW_some] <;> rfl), by repeat (first | (with_reducible first | exact HB.out | apply below_alloc | apply pw_below_drewN | apply below_drew1 | refine below_set ?_ GE396.out | refine below_set ?_ GE401.out) | exact HB.out)⟩

/-! ### pentroughref16_Count: function 26 -/
def pentroughref16_Count.l0 : Nat → Int → Int → List (List Int) → Bool → Option (Int)
  | 0, _, _, _, _ => none
  | k + 1, x4, x5, x408000, x408001 => if x5 < (x408000.length : Int) then (if 0 ≤ x5 then (pentroughref16_Count.l0 k (wrap64 (x4 + ((rd_L1 x408000 x5).length : Int))) (wrap64 (x5 + 1)) x408000 x408001) else (none)) else (some x4)
def pentroughref16_Count.f (k : Nat) (l0_0 : List (List Int)) (a0_1 : Bool) : Option (Int) := (pentroughref16_As.f k l0_0 a0_1).bind fun bt403 => (pentroughref16_Count.l0 k 0 0 bt403.1 bt403.2)
theorem pentroughref16_Count.mono_l : ∀ k, (∀ y0 y1 y2 y3, LeO (pentroughref16_Count.l0 k y0 y1 y2 y3) (pentroughref16_Count.l0 (k + 1) y0 y1 y2 y3))
  | 0 => fun _ _ _ _ r h => by simp [pentroughref16_Count.l0] at h
  | k + 1 => by
    have ih0 := pentroughref16_Count.mono_l k
    · intro y0 y1 y2 y3
      unfold pentroughref16_Count.l0
      repeat' first
      | (with_reducible exact ih0 _ _ _ _)
      | (with_reducible exact pentroughref16_As.mono _ _ _)
      | (with_reducible exact LeO.refl _)
      | (with_reducible exact LeO.none _)
      | (with_reducible refine LeO.ite ?_ ?_)
      | (with_reducible refine LeO.bind ?_ (fun _ => ?_))
      | exact ih0 _ _ _ _
      | exact pentroughref16_As.mono _ _ _
      | exact LeO.none _
      | refine LeO.ite ?_ ?_
      | refine LeO.bind ?_ (fun _ => ?_)
theorem pentroughref16_Count.mono : ∀ a0 a1 k, LeO (pentroughref16_Count.f k a0 a1) (pentroughref16_Count.f (k + 1) a0 a1) := by
  intro a0 a1 k
  have ih0 := pentroughref16_Count.mono_l k
  unfold pentroughref16_Count.f
  repeat' first
      | (with_reducible exact ih0 _ _ _ _)
      | (with_reducible exact pentroughref16_As.mono _ _ _)
      | (with_reducible exact LeO.refl _)
      | (with_reducible exact LeO.none _)
      | (with_reducible refine LeO.ite ?_ ?_)
      | (with_reducible refine LeO.bind ?_ (fun _ => ?_))
      | exact ih0 _ _ _ _
      | exact pentroughref16_As.mono _ _ _
      | exact LeO.none _
      | refine LeO.ite ?_ ?_
      | refine LeO.bind ?_ (fun _ => ?_)
set_option maxHeartbeats 8000000 in
set_option maxRecDepth 100000 in
theorem pentroughref16_Count.calls (k : Nat) (A0_0 : Option Addr) (c0_0 : Nat) (l0_0 : List (List Int)) (a0_1 : Bool) (r : Int) (w : World) (hr0_0 : Kd.C (Kd.slice 3 (Kd.int .i64)) w A0_0 l0_0.length l0_0) (hc0_0 : l0_0.length ≤ c0_0) (h : pentroughref16_Count.f k l0_0 a0_1 = some r) :
    Calls Try.prog 26 #[.agg #[.slice A0_0 l0_0.length c0_0, .bool a0_1]] w fun e w' => e = .returned (.int .i64 r) ∧ Below w.heap.size w w' := by
  have hu24 := Try.underlying24
  have HR0_0 := Aside0.mk hr0_0
  have HC0_0 := Aside0.mk hc0_0
  clear hr0_0 hc0_0
  have HB := Aside0.mk (Below.refl w.heap.size w)
  have H : ((pentroughref16_As.f k l0_0 a0_1).bind fun bt403 => (pentroughref16_Count.l0 k 0 0 bt403.1 bt403.2)) = some r := h
  clear h
  obtain ⟨⟨t403, t406⟩, A2, H⟩ := ob H
  (try dsimp only at H)
  have H' := Aside0.mk H
  clear H
  go_enter Try.func26, Try.ntmps26
  go_wp2_with (first | ((with_reducible refine gate_dst (N := 1) rfl ?_); refine box_event ?hg (N := 1) ?hd (cs := #[.slice A0_0 l0_0.length c0_0, .bool a0_1]) (t := 24) ?hr ?_; (case hd => rfl); (case hg => rfl); (case hr => first | (go_simp; done) | (go_simp; rfl)); intro gb402 hg w3 hbox hb; have BK402 := Aside0.mk hbox; have GW402 := gE HB hg; have GE402 := gE HB hg; replace HB := hB HB hb; clear hb hbox hg; obtain ⟨hcz4_0, hcz4_1, hfz4_0, hfz4_1⟩ := bc2 BK402) | ((with_reducible refine gate_callee (f := 33) rfl ?_); refine gL (some 7) rfl rfl Try.func33 (by kernel_rfl) rfl #[.agg #[.slice A0_0 l0_0.length c0_0, .bool a0_1]] rfl ?_; (with_reducible refine (pentroughref16_As.calls k (fun k_ => k_ < w.heap.size) _ _ l0_0 a0_1 t403 t406 _ ?side1 A2.out).mono ?_); (case side1 => exact Kd.V_mk HC0_0.out (Kd.F_below (Kd.C_F (Kd.heap_slice 3 (Kd.heap_int .i64)) HR0_0.out) (bb HB))); rintro e w5 ⟨v404, rfl, ho0, hb⟩; refine ⟨_, rfl, ?_⟩; have HO405 := Aside0.mk (Kd.V_lower (Kd.V_mono (ok' := fun k_ => k_ ≠ gb402) ho0 (fun k_ hk_ => o2 hk_ (gw GW402) (Kd.freshB (kk BK402) k_))) (below_size (bb HB))); replace BK402 := kB BK402 hb; replace HB := hB HB hb; (try clear hb); (try clear hb2); (try clear hk); (try clear hi); (try clear ho0)) | ((with_reducible refine gate_dst (N := 3) rfl ?_); refine box_event ?hg (N := 3) ?hd (cs := #[.slice none 0 0, .bool false]) (t := 24) ?hr ?_; (case hd => rfl); (case hg => rfl); (case hr => first | (go_simp; done) | (go_simp; rfl)); intro gb407 hg w6 hbox hb; replace HO405 := vE HO405 hg hb; have BK407 := Aside0.mk hbox; have GW407 := gE HB hg; have GE407 := gE HB hg; replace HB := hB HB hb; have NB402_407 := nL BK402 hg; have NB407_402 := nG BK402 hg; replace BK402 := kB BK402 hb; clear hb hbox hg; obtain ⟨Ao7, co7, eo7⟩ := Kd.V_slice HO405.out; subst eo7; have hnb8 := NB407_402.out; have hnc8 := NB402_407.out; obtain ⟨hcz9_0, hcz9_1, hfz9_0, hfz9_1⟩ := bc2 BK407))
  go_loopg [4, 5] k (fun kq v4 v5 w' => ∃ (x4_1 : Int) (x5_1 : Int), v4 = .int .i64 x4_1 ∧ v5 = .int .i64 x5_1 ∧ Aside0 (pentroughref16_Count.l0 kq x4_1 x5_1 t403 t406 = some r) ∧ Aside0 (kq ≤ k) ∧ Aside0 (Kd.V (Kd.slice 3 (Kd.int .i64)) 32 w' w.heap.size (fun k_ => k_ ≠ gb402 ∧ k_ ≠ gb407) (.slice Ao7 t403.length co7) t403) ∧ Aside0 (w'.heap[gb402]? = some (.cells #[(.slice A0_0 l0_0.length c0_0), .bool a0_1] 24 (0, 0))) ∧ Aside0 (w'.heap[gb407]? = some (.cells #[(.slice Ao7 t403.length co7), .bool t406] 24 (0, 0))) ∧ Aside0 (Below w.heap.size w w'))
  case atStart => exact ⟨(0), (0), (by first | rfl | (simp; done) | (simp [*]; done)), (by first | rfl | (simp; done) | (simp [*]; done)), H', ⟨Nat.le_refl _⟩, ⟨vX HO405⟩, ⟨kX BK402⟩, ⟨by (with_reducible repeat (first | refine blk_drewN ?_ _ | refine blk_drew ?_ | refine blk_alloc ?_ _)); refine blk_put (cs := #[.slice Ao7 t403.length co7, .bool false]) ?_ 1 _ rfl; (with_reducible repeat (first | refine blk_drewN ?_ _ | refine blk_drew ?_ | refine blk_alloc ?_ _)); refine blk_put (cs := #[.slice none 0 0, .bool false]) ?_ 0 _ rfl; (with_reducible repeat (first | refine blk_drewN ?_ _ | refine blk_drew ?_ | refine blk_alloc ?_ _)); exact BK407.out⟩, ⟨bb HB⟩⟩
  case round =>
    clear H'
    try clear c2
    try clear p2
    try clear c3
    try clear c8
    try clear hcz4_0
    try clear hcz4_1
    try clear hcz9_0
    try clear hcz9_1
    try clear hfz4_0
    try clear hfz4_1
    try clear hfz9_0
    try clear hfz9_1
    obtain ⟨x4_1, x5_1, rfl, rfl, HA, HK1, HO_408000, BK402, BK407, HB⟩ := hrel
    cases gk with
    | zero => exact absurd HA.out (by simp [pentroughref16_Count.l0])
    | succ k1 =>
      have H := HA.out
      clear HA
      simp only [pentroughref16_Count.l0] at H
      by_cases c10 : x5_1 < (t403.length : Int)
      · rw [if_pos c10] at H
        have c10b0 : decide (x5_1 < (t403.length : Int)) = true := decide_eq_true c10
        clear c10
        by_cases c11 : 0 ≤ x5_1
        · rw [if_pos c11] at H
          have c11b0 : decide (0 ≤ x5_1) = true := decide_eq_true c11
          clear c11
          have H' := Aside0.mk H
          clear H
          have hnb12 := NB407_402.out
          have hnc12 := NB402_407.out
          obtain ⟨hcz13_0, hcz13_1, hfz13_0, hfz13_1⟩ := bc2 BK407
          have p408 : 0 ≤ (x5_1 : Int) := of_decide_eq_true (by first | (with_reducible assumption) | assumption)
          have q408 : x5_1 < (t403.length : Int) := of_decide_eq_true (by first | (with_reducible assumption) | assumption)
          obtain ⟨ad408, A408_0, c408_0, e408, hx408_0, hl408_0, hi408_0⟩ := at_L1 (Kd.V_reads' HO_408000.out).2.2 x5_1 p408 q408
          cases e408
          obtain ⟨ce408, hce408, hMe408, hcc408⟩ := Kd.V_get HO_408000.out [] x5_1 p408 (by first | exact q408 | exact of_decide_eq_true (by first | (with_reducible assumption) | assumption) | (have e_ := (Kd.V_reads' HO_408000.out).1; omega))
          obtain ⟨ua408_0, uc408_0, rfl, ul408_0, ge408_0⟩ := Kd.FK_slice_open hMe408
          have hv408_0 := hcc408 0 _ rfl
          rw [Nat.add_zero, show ((Kd.slice 3 (Kd.int .i64))).sz = 1 from rfl, Nat.mul_one] at hv408_0
          replace hv408_0 := Option.some.inj (hv408_0.symm.trans hx408_0)
          injection hv408_0 with hva_ hvn_ hvc_
          rw [hva_] at ge408_0
          rw [hvc_] at ul408_0
          have HL408_0 := Aside0.mk (show Kd.V (Kd.int .i64) 3 _ w.heap.size _ _ (rd_L1 t403 x5_1) from Kd.V_mk ul408_0 ge408_0)
          clear hva_ hvn_ hvc_ ge408_0 ul408_0
          clear hcc408 hce408
          have HR408_0 := Aside0.mk hi408_0
          have HC408_0 := Aside0.mk hl408_0
          clear hi408_0 hl408_0
          replace p408 := eq_true p408
          replace q408 := eq_true q408
          go_wp2
          go_roundg k1
          case measure => have := HK1.out; omega
          case rel => exact ⟨(wrap64 (x4_1 + ((rd_L1 t403 x5_1).length : Int))), (wrap64 (x5_1 + 1)), (by first | rfl | (simp; done) | (simp [*]; done)), (by first | rfl | (simp; done) | (simp [*]; done)), H', ⟨by have := HK1.out; omega⟩, ⟨vM HO_408000⟩, ⟨kk BK402⟩, ⟨kk BK407⟩, ⟨bb HB⟩⟩
        · rw [if_neg c11] at H
          exact absurd H (by simp)
      · rw [if_neg c10] at H
        have c10b0 : decide (x5_1 < (t403.length : Int)) = false := decide_eq_false c10
        clear c10
        obtain rfl := Option.some.inj H
        have hnb14 := NB407_402.out
        have hnc14 := NB402_407.out
        obtain ⟨hcz15_0, hcz15_1, hfz15_0, hfz15_1⟩ := bc2 BK407
        go_wp2
        go_ret
        exact ⟨by first | rfl | (simp [errW_none, errW_some] <;> rfl) | (simp [*, errW_none, errW_some] <;> rfl), by repeat (first | (with_reducible first | exact HB.out | apply below_alloc | apply pw_below_drewN | apply below_drew1 | refine below_set ?_ GE402.out | refine below_set ?_ GE407.out) | exact HB.out)⟩

end Go.Proofs.Ytneomcnfbnfjbaa.Q
