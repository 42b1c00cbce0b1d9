-- Laid by mix.py, a program of this session, with the kit's print.py; walks by hand come out of wip/over.
import Derived.Test.YtneomcnfbnfjbaaShort
import Derived.Test.YtneomcnfbnfjbaaQ0
import Derived.Test.YtneomcnfbnfjbaaQ1
import Derived.Test.YtneomcnfbnfjbaaQ2
import Derived.Test.YtneomcnfbnfjbaaQ3
namespace Go.Proofs.Ytneomcnfbnfjbaa.Q
open Go.RowKit Go.Proofs.YtneomcnfbnfjbaaW.PrintWords Go.Proofs.YtneomcnfbnfjbaaW.PrintLast Go.Proofs.YtneomcnfbnfjbaaW.PrintMore Go.Proofs.YtneomcnfbnfjbaaW.Sh
attribute [local go_sem] max2_int min2_int max_two min_two max_three min_three max_four min_four   -- for this text's walks alone
set_option linter.unusedVariables false
set_option linter.unusedSimpArgs false

/-! ### pentroughlaw16_awake: function 9 -/
def pentroughlaw16_awake.f  : Option (Bool) := some true
theorem C_lit (w : World) (xs : List Int) (h : xs.length ≤ 9223372036854775807) : Kd.C (Kd.int .i64) (w.alloc (.cells (nums .i64 xs).toArray 3)) (some ⟨w.heap.size, 0, none⟩) xs.length xs := by
  obtain ⟨A, c, e, hr⟩ := own_reads (own_lit w w.heap.size 3 .i64 xs (Nat.le_refl _) h)
  injection e with e1 e2 e3
  subst e1
  exact Kd.C_of_reads (d := (0 : Int)) (h1 := fun _ => rfl) hr
theorem C_lit1 (w : World) (o : Obj) (x : Int) : Kd.C (Kd.int .i64) ((w.alloc o).alloc (.cells #[.int .i64 x] 3)) (some ⟨w.heap.size + 1, 0, none⟩) 1 [x] := by
  have h := C_lit (w.alloc o) [x] (by simp)
  simpa [nums] using h
theorem C_lit2 (w : World) (x y : Int) : Kd.C (Kd.int .i64) (w.alloc (.cells #[.int .i64 x, .int .i64 y] 3)) (some ⟨w.heap.size, 0, none⟩) 2 [x, y] := by
  have h := C_lit w [x, y] (by simp)
  simpa [nums] using h
theorem put_N (A : Option Addr) (n c : Nat) (l : List (List Int)) (b : Bool) (A1 : Option Addr) (m cx : Nat) (x : List Int) (nr : Nat) (r1 : List (List Int)) (r2 r3 : Bool) (w : World) (hn : l.length = n) (hm : x.length = m) (hnr : r1.length = nr) (hC : Kd.C (Kd.slice 3 (Kd.int .i64)) w A n l) (hc : n ≤ c) (hX : Kd.C (Kd.int .i64) w A1 m x) (hcx : m ≤ cx) (hR : putS l b x = (r1, r2, r3)) :
    Calls Try.prog 13 #[.agg #[.slice A n c, .bool b], .slice A1 m cx] w fun e w' => Aside0 (∃ A' c', e = .returned (.tuple #[.agg #[.slice A' nr c', .bool r2], .bool r3]) ∧ nr ≤ c' ∧ Kd.C (Kd.slice 3 (Kd.int .i64)) w' A' nr r1 ∧ Below w.heap.size w w') := by
  subst hn
  subst hm
  subst hnr
  exact put_C A c l b A1 cx x r1 r2 r3 w hC hc hX hcx hR
theorem take_N (A : Option Addr) (n c : Nat) (l : List (List Int)) (b : Bool) (n1 : Nat) (r1 : List (List Int)) (r2 : Bool) (n3 : Nat) (r3 : List Int) (r4 : Bool) (w : World) (hn : l.length = n) (hn1 : r1.length = n1) (hn3 : r3.length = n3) (hC : Kd.C (Kd.slice 3 (Kd.int .i64)) w A n l) (hc : n ≤ c) (hR : takeS l b = (r1, r2, r3, r4)) :
    Calls Try.prog 14 #[.agg #[.slice A n c, .bool b]] w fun e w' => Aside0 (∃ A' c' A2 c2, e = .returned (.tuple #[.agg #[.slice A' n1 c', .bool r2], .slice A2 n3 c2, .bool r4]) ∧ n1 ≤ c' ∧ Kd.C (Kd.slice 3 (Kd.int .i64)) w' A' n1 r1 ∧ n3 ≤ c2 ∧ Kd.C (Kd.int .i64) w' A2 n3 r3 ∧ Below w.heap.size w w') := by
  subst hn
  subst hn1
  subst hn3
  exact take_C A c l b r1 r2 r3 r4 w hC hc hR
theorem count_N (A : Option Addr) (n c : Nat) (l : List (List Int)) (b : Bool) (w : World) (r : Int) (hn : l.length = n) (hC : Kd.C (Kd.slice 3 (Kd.int .i64)) w A n l) (hc : n ≤ c) (hr : cnt (asL l) = r) :
    Calls Try.prog 17 #[.agg #[.slice A n c, .bool b]] w fun e w' => e = .returned (.int .i64 r) ∧ Aside0 (Below w.heap.size w w') := by
  subst hn
  subst hr
  exact Count_walk A c l b w hC hc
theorem sane_N (A : Option Addr) (n c : Nat) (l : List (List Int)) (b : Bool) (w : World) (r : Bool) (hn : l.length = n) (hC : Kd.C (Kd.slice 3 (Kd.int .i64)) w A n l) (hc : n ≤ c) (hr : saneB l = r) :
    Calls Try.prog 11 #[.agg #[.slice A n c, .bool b]] w fun e w' => e = .returned (.bool r) ∧ Aside0 (Below w.heap.size w w') := by
  subst hn
  subst hr
  exact (sane_on A c l b w hC hc).mono fun _ _ ⟨he, hb⟩ => ⟨he, ⟨hb⟩⟩
set_option maxRecDepth 100000 in
set_option maxHeartbeats 1000000 in
theorem awake_walk (w : World) : Calls Try.prog 9 #[] w fun e w' => e = .returned (.bool true) ∧ Aside0 (Below w.heap.size w w') := by
  have hu28 := Try.underlying28
  go_enter Try.func9, Try.ntmps9
  go_wp2_with fail
  refine (put_N none 0 0 [] false _ 2 2 [1, 2] 1 [[1, 2]] false true _ rfl rfl rfl (Kd.C_nil _ _) (Nat.le_refl _) (C_lit2 w 1 2) (Nat.le_refl _) (by decide)).mono ?_
  rintro e w1 ⟨⟨A1, c1, rfl, hc1, hC1, hb1⟩⟩
  have HB1 := Aside0.mk (below_one hb1)
  have HC1 := Aside0.mk hC1
  clear hb1 hC1
  go_wp2_with fail
  refine (put_N A1 1 c1 [[1, 2]] false _ 1 1 [3] 2 [[1, 2], [3]] false true _ rfl rfl rfl (Kd.C_alloc (Kd.C_alloc HC1.out _) _) hc1 (C_lit1 w1 _ 3) (Nat.le_refl _) (by decide)).mono ?_
  rintro e w2 ⟨⟨A2, c2, rfl, hc2, hC2, hb2⟩⟩
  have HB2 := Aside0.mk (below_step HB1.out (below_two hb2))
  have HC2 := Aside0.mk hC2
  clear hb2 hC2 HC1 hc1 HB1
  go_wp2_with fail
  refine (put_N A2 2 c2 [[1, 2], [3]] false _ 1 1 [4] 2 [[1, 2], [3]] false false _ rfl rfl rfl (Kd.C_alloc (Kd.C_alloc HC2.out _) _) hc2 (C_lit1 w2 _ 4) (Nat.le_refl _) (by decide)).mono ?_
  rintro e w3 ⟨⟨A3, c3, rfl, hc3, hC3, hb3⟩⟩
  obtain ⟨hcl, _⟩ := bcell hb3
  have k0 : w3.cell? ⟨w2.heap.size, 0, none⟩ = some (.slice A2 2 c2) := by rw [hcl _ _ (by simp; omega)]; simp [go_sem]
  have k1 : w3.cell? ⟨w2.heap.size, 1, none⟩ = some (.bool false) := by rw [hcl _ _ (by simp; omega)]; simp [go_sem]
  have hz := two_new hb3
  have HB3 := Aside0.mk (below_step HB2.out (below_two hb3))
  have HC3 := Aside0.mk (Kd.C_below HC2.out (below_two hb3))
  have j0 : ∀ o, (w3.alloc o).cell? ⟨w2.heap.size, 0, none⟩ = some (.slice A2 2 c2) := fun o => (World.cell?_alloc_lt w3 o _ (by simp; omega)).trans k0
  have j1 : ∀ o, (w3.alloc o).cell? ⟨w2.heap.size, 1, none⟩ = some (.bool false) := fun o => (World.cell?_alloc_lt w3 o _ (by simp; omega)).trans k1
  clear hb3 hC3 hc3 hcl HB2 HC2 k0 k1
  go_wp2_with fail
  refine (take_N A2 2 c2 [[1, 2], [3]] false 1 [[3]] false 2 [1, 2] true _ rfl rfl rfl (Kd.C_alloc HC3.out _) hc2 (by decide)).mono ?_
  rintro e w4 ⟨⟨A4, c4, A5, c5, rfl, hc4, hC4, hc5, hC5, hb4⟩⟩
  obtain ⟨hcl, _⟩ := bcell hb4
  have m0 : w4.cell? ⟨w2.heap.size, 0, none⟩ = some (.slice A2 2 c2) := by rw [hcl _ _ (by simp; omega)]; exact j0 _
  have m1 : w4.cell? ⟨w2.heap.size, 1, none⟩ = some (.bool false) := by rw [hcl _ _ (by simp; omega)]; exact j1 _
  have hz4 := one_new hb4
  have HB4 := Aside0.mk (below_step HB3.out (below_one hb4))
  have HC4 := Aside0.mk (Kd.C_below HC3.out (below_one hb4))
  obtain ⟨ad, rfl, hx0⟩ := Kd.at_int hC5 0 (by decide) (by decide)
  have hx1 := Kd.foot_int hC5 1 (by decide) (by decide)
  have x0 : w4.cell? ad = some (.int .i64 1) := by simpa [Addr.add, rd] using hx0
  have x1 : w4.cell? ⟨ad.block, ad.off + 1, none⟩ = some (.int .i64 2) := by simpa [Addr.add, rd] using hx1
  have n0 : ∀ o, (w4.alloc o).cell? ⟨w2.heap.size, 0, none⟩ = some (.slice A2 2 c2) := fun o => (World.cell?_alloc_lt w4 o _ (by simp; omega)).trans m0
  have n1 : ∀ o, (w4.alloc o).cell? ⟨w2.heap.size, 1, none⟩ = some (.bool false) := fun o => (World.cell?_alloc_lt w4 o _ (by simp; omega)).trans m1
  have y0 : ∀ o, (w4.alloc o).cell? ad = some (.int .i64 1) := fun o => (World.cell?_alloc_lt w4 o _ (World.block_lt_of_cell? w4 _ x0)).trans x0
  have y1 : ∀ o, (w4.alloc o).cell? ⟨ad.block, ad.off + 1, none⟩ = some (.int .i64 2) := fun o => (World.cell?_alloc_lt w4 o _ (World.block_lt_of_cell? w4 _ x1)).trans x1
  clear hb4 hC4 hC5 hc4 hcl hx0 hx1 j0 j1 HB3 HC3 m0 m1 x0 x1
  go_wp2_with fail
  refine (count_N A2 2 c2 [[1, 2], [3]] false _ 3 rfl (Kd.C_alloc HC4.out _) hc2 (by decide)).mono ?_
  rintro e w5 ⟨rfl, hb5⟩
  have p0 := ((bcell hb5.out).1 w2.heap.size 0 (by simp; omega)).trans (n0 _)
  have p1 := ((bcell hb5.out).1 w2.heap.size 1 (by simp; omega)).trans (n1 _)
  have HB5 := Aside0.mk (below_step HB4.out (below_one hb5.out))
  have HC5 := Aside0.mk (Kd.C_below (Kd.C_alloc HC4.out (.cells #[.slice A4 1 c4, .bool false] 28)) hb5.out)
  clear hb5 n0 n1 y0 y1 HB4 HC4
  go_wp2_with fail
  refine (sane_N A2 2 c2 [[1, 2], [3]] false _ true rfl HC5.out hc2 (by decide)).mono ?_
  rintro e w6 ⟨rfl, hb6⟩
  have HB6 := Aside0.mk (below_step HB5.out hb6.out)
  clear hb6 HB5 HC5 p0 p1
  go_wp2_with fail
  go_ret
  exact ⟨rfl, HB6⟩
theorem pentroughlaw16_awake.calls  (r : Bool) (w : World) (h : pentroughlaw16_awake.f  = some r) :
    Calls Try.prog 9 #[] w fun e w' => e = .returned (.bool r) ∧ Below w.heap.size w w' := by
  have hr : r = true := by
    unfold pentroughlaw16_awake.f at h
    simpa using h.symm
  subst hr
  exact (awake_walk w).mono fun _ _ ⟨he, hb⟩ => ⟨he, hb.out⟩

/-! ### pentroughref16_Few: function 10 -/
def pentroughref16_Few.l0 : Nat → Int → List (List Int) → Bool → Option (Bool)
  | 0, _, _, _ => none
  | k + 1, x3, x143000, x143001 => if x3 < (x143000.length : Int) then (if 0 ≤ x3 then (if ((rd_L1 x143000 x3).length : Int) > 20 then (some false) else (pentroughref16_Few.l0 k (wrap64 (x3 + 1)) x143000 x143001)) else (none)) else (some (decide ((x143000.length : Int) ≤ 6)))
def pentroughref16_Few.f (k : Nat) (l0_0 : List (List Int)) (a0_1 : Bool) : Option (Bool) := pentroughref16_Few.l0 k 0 l0_0 a0_1
theorem pentroughref16_Few.mono_l : ∀ k, (∀ y0 y1 y2, LeO (pentroughref16_Few.l0 k y0 y1 y2) (pentroughref16_Few.l0 (k + 1) y0 y1 y2))
  | 0 => fun _ _ _ r h => by simp [pentroughref16_Few.l0] at h
  | k + 1 => by
    have ih0 := pentroughref16_Few.mono_l k
    · intro y0 y1 y2
      unfold pentroughref16_Few.l0
      repeat' first
      | (with_reducible exact ih0 _ _ _)
      | (with_reducible exact LeO.refl _)
      | (with_reducible exact LeO.none _)
      | (with_reducible refine LeO.ite ?_ ?_)
      | (with_reducible refine LeO.bind ?_ (fun _ => ?_))
      | exact ih0 _ _ _
      | exact LeO.none _
      | refine LeO.ite ?_ ?_
      | refine LeO.bind ?_ (fun _ => ?_)
theorem pentroughref16_Few.mono : ∀ a0 a1 k, LeO (pentroughref16_Few.f k a0 a1) (pentroughref16_Few.f (k + 1) a0 a1) := by
  intro a0 a1 k
  have ih0 := pentroughref16_Few.mono_l k
  unfold pentroughref16_Few.f
  repeat' first
      | (with_reducible exact ih0 _ _ _)
      | (with_reducible exact LeO.refl _)
      | (with_reducible exact LeO.none _)
      | (with_reducible refine LeO.ite ?_ ?_)
      | (with_reducible refine LeO.bind ?_ (fun _ => ?_))
      | exact ih0 _ _ _
      | exact LeO.none _
      | refine LeO.ite ?_ ?_
      | refine LeO.bind ?_ (fun _ => ?_)
set_option maxHeartbeats 8000000 in
set_option maxRecDepth 100000 in
theorem pentroughref16_Few.calls (k : Nat) (A0_0 : Option Addr) (c0_0 : Nat) (l0_0 : List (List Int)) (a0_1 : Bool) (r : Bool) (w : World) (hr0_0 : Kd.C (Kd.slice 3 (Kd.int .i64)) w A0_0 l0_0.length l0_0) (hc0_0 : l0_0.length ≤ c0_0) (h : pentroughref16_Few.f k l0_0 a0_1 = some r) :
    Calls Try.prog 10 #[.agg #[.slice A0_0 l0_0.length c0_0, .bool a0_1]] w fun e w' => e = .returned (.bool r) ∧ Below w.heap.size w w' := by
  have hu24 := Try.underlying24
  have HR0_0 := Aside0.mk hr0_0
  have HC0_0 := Aside0.mk hc0_0
  clear hr0_0 hc0_0
  have HB := Aside0.mk (Below.refl w.heap.size w)
  have H : (pentroughref16_Few.l0 k 0 l0_0 a0_1) = some r := h
  clear h
  have H' := Aside0.mk H
  clear H
  go_enter Try.func10, Try.ntmps10
  go_wp2_with (first | ((with_reducible refine gate_dst (N := 1) rfl ?_); refine box_event ?hg (N := 1) ?hd (cs := #[.slice A0_0 l0_0.length c0_0, .bool a0_1]) (t := 24) ?hr ?_; (case hd => rfl); (case hg => rfl); (case hr => first | (go_simp; done) | (go_simp; rfl)); intro gb142 hg w2 hbox hb; have BK142 := Aside0.mk hbox; have GW142 := gE HB hg; have GE142 := gE HB hg; replace HB := hB HB hb; clear hb hbox hg))
  go_loopg [3] k (fun kq v3 w' => ∃ (x3_1 : Int), v3 = .int .i64 x3_1 ∧ Aside0 (pentroughref16_Few.l0 kq x3_1 l0_0 a0_1 = some r) ∧ Aside0 (kq ≤ k) ∧ Aside0 (w'.heap[gb142]? = some (.cells #[(.slice A0_0 l0_0.length c0_0), .bool a0_1] 24 (0, 0))) ∧ Aside0 (Below w.heap.size w w'))
  case atStart => exact ⟨(0), (by first | rfl | (simp; done) | (simp [*]; done)), H', ⟨Nat.le_refl _⟩, ⟨kk BK142⟩, ⟨bb HB⟩⟩
  case round =>
    clear H'
    try clear c1
    try clear p2
    obtain ⟨x3_1, rfl, HA, HK1, BK142, HB⟩ := hrel
    cases gk with
    | zero => exact absurd HA.out (by simp [pentroughref16_Few.l0])
    | succ k1 =>
      have H := HA.out
      clear HA
      simp only [pentroughref16_Few.l0] at H
      by_cases c3 : x3_1 < (l0_0.length : Int)
      · rw [if_pos c3] at H
        have c3b0 : decide (x3_1 < (l0_0.length : Int)) = true := decide_eq_true c3
        clear c3
        by_cases c4 : 0 ≤ x3_1
        · rw [if_pos c4] at H
          have c4b0 : decide (0 ≤ x3_1) = true := decide_eq_true c4
          clear c4
          by_cases c5 : ((rd_L1 l0_0 x3_1).length : Int) > 20
          · rw [if_pos c5] at H
            have c5b0 : decide (20 < ((rd_L1 l0_0 x3_1).length : Int)) = true := decide_eq_true c5
            have c5b1 : decide (20 < (rd_L1 l0_0 x3_1).length) = true := decide_eq_true (by omega)
            clear c5
            obtain rfl := Option.some.inj H
            obtain ⟨hcz6_0, hcz6_1, hfz6_0, hfz6_1⟩ := bc2 BK142
            have p143 : 0 ≤ (x3_1 : Int) := of_decide_eq_true (by first | (with_reducible assumption) | assumption)
            have q143 : x3_1 < (l0_0.length : Int) := of_decide_eq_true (by first | (with_reducible assumption) | assumption)
            obtain ⟨ad143, A143_0, c143_0, e143, hx143_0, hl143_0, hi143_0⟩ := at_L1 HR0_0.out x3_1 p143 q143
            cases e143
            replace hx143_0 := (HB.out.cell (World.block_lt_of_cell? w _ hx143_0)).trans hx143_0
            have HR143_0 := Aside0.mk hi143_0
            have HC143_0 := Aside0.mk hl143_0
            clear hi143_0 hl143_0
            replace p143 := eq_true p143
            replace q143 := eq_true q143
            go_wp2
            go_ret
            exact ⟨by first | rfl | (simp [errW_none, errW_some] <;> rfl) | (simp [*, errW_none, errW_some] <;> rfl), by repeat (first | (with_reducible first | exact HB.out | apply below_alloc | apply pw_below_drewN | apply below_drew1 | refine below_set ?_ GE142.out) | exact HB.out)⟩
          · rw [if_neg c5] at H
            have c5b0 : decide (20 < ((rd_L1 l0_0 x3_1).length : Int)) = false := decide_eq_false c5
            have c5b1 : decide (20 < (rd_L1 l0_0 x3_1).length) = false := decide_eq_false (by omega)
            clear c5
            have H' := Aside0.mk H
            clear H
            obtain ⟨hcz7_0, hcz7_1, hfz7_0, hfz7_1⟩ := bc2 BK142
            have p143 : 0 ≤ (x3_1 : Int) := of_decide_eq_true (by first | (with_reducible assumption) | assumption)
            have q143 : x3_1 < (l0_0.length : Int) := of_decide_eq_true (by first | (with_reducible assumption) | assumption)
            obtain ⟨ad143, A143_0, c143_0, e143, hx143_0, hl143_0, hi143_0⟩ := at_L1 HR0_0.out x3_1 p143 q143
            cases e143
            replace hx143_0 := (HB.out.cell (World.block_lt_of_cell? w _ hx143_0)).trans hx143_0
            have HR143_0 := Aside0.mk hi143_0
            have HC143_0 := Aside0.mk hl143_0
            clear hi143_0 hl143_0
            replace p143 := eq_true p143
            replace q143 := eq_true q143
            go_wp2
            go_roundg k1
            case measure => have := HK1.out; omega
            case rel => exact ⟨(wrap64 (x3_1 + 1)), (by first | rfl | (simp; done) | (simp [*]; done)), H', ⟨by have := HK1.out; omega⟩, ⟨kk BK142⟩, ⟨bb HB⟩⟩
        · rw [if_neg c4] at H
          exact absurd H (by simp)
      · rw [if_neg c3] at H
        have c3b0 : decide (x3_1 < (l0_0.length : Int)) = false := decide_eq_false c3
        clear c3
        obtain rfl := Option.some.inj H
        obtain ⟨hcz8_0, hcz8_1, hfz8_0, hfz8_1⟩ := bc2 BK142
        go_wp2
        go_ret
        exact ⟨by first | rfl | (simp [errW_none, errW_some] <;> rfl) | (simp [*, errW_none, errW_some] <;> rfl), by repeat (first | (with_reducible first | exact HB.out | apply below_alloc | apply pw_below_drewN | apply below_drew1 | refine below_set ?_ GE142.out) | exact HB.out)⟩

/-! ### pentroughlaw16_ours: function 12 -/
def pentroughlaw16_ours.f (l0_0 : List (List Int)) (a0_1 : Bool) : Option ((List (List Int)) × Bool) := some (l0_0, a0_1)
set_option maxHeartbeats 8000000 in
set_option maxRecDepth 100000 in
theorem pentroughlaw16_ours.calls (P0_0_ : Nat → Prop) (A0_0 : Option Addr) (c0_0 : Nat) (l0_0 : List (List Int)) (a0_1 : Bool) (r1 : List (List Int)) (r2 : Bool) (w : World) (hs0_0 : Kd.V (Kd.slice 3 (Kd.int .i64)) 32 w w.heap.size (fun k_ => P0_0_ k_) (.slice A0_0 l0_0.length c0_0) l0_0) (h : pentroughlaw16_ours.f l0_0 a0_1 = some (r1, r2)) :
    Calls Try.prog 12 #[.agg #[.slice A0_0 l0_0.length c0_0, .bool a0_1]] w fun e w' => ∃ v0_ : Value, e = .returned (.agg #[v0_, .bool r2]) ∧ Kd.V (Kd.slice 3 (Kd.int .i64)) 32 w' w.heap.size (fun k_ => (P0_0_ k_ ∨ w.heap.size ≤ k_)) v0_ r1 ∧ Below w.heap.size w w' := by
  have hu24 := Try.underlying24
  have hu28 := Try.underlying28
  have HO0_0 := Aside0.mk (show Kd.V (Kd.slice 3 (Kd.int .i64)) 32 w w.heap.size (fun k_ => (P0_0_ k_ ∨ w.heap.size ≤ k_)) (.slice A0_0 l0_0.length c0_0) l0_0 from Kd.V_mono hs0_0 (fun k_ hk => .inl hk))
  have HB := Aside0.mk (Below.refl w.heap.size w)
  have H : (some (l0_0, a0_1)) = some (r1, r2) := h
  clear h
  simp only [Option.some.injEq, Prod.mk.injEq] at H
  obtain ⟨rfl, rfl⟩ := H
  go_enter Try.func12, Try.ntmps12
  go_wp2_with (first | ((with_reducible refine gate_dst (N := 1) rfl ?_); refine box_event ?hg (N := 1) ?hd (cs := #[.slice A0_0 l0_0.length c0_0, .bool a0_1]) (t := 24) ?hr ?_; (case hd => rfl); (case hg => rfl); (case hr => first | (go_simp; done) | (go_simp; rfl)); intro gb144 hg w2 hbox hb; replace HO0_0 := vE HO0_0 hg hb; have BK144 := Aside0.mk hbox; have GW144 := gE HB hg; have GE144 := gE HB hg; replace HB := hB HB hb; clear hb hbox hg) | ((with_reducible refine gate_dst (N := 2) rfl ?_); refine box_event ?hg (N := 2) ?hd (cs := #[.slice none 0 0, .bool false]) (t := 28) ?hr ?_; (case hd => rfl); (case hg => rfl); (case hr => first | (go_simp; done) | (go_simp; rfl)); intro gb145 hg w3 hbox hb; replace HO0_0 := vE HO0_0 hg hb; have BK145 := Aside0.mk hbox; have GW145 := gE HB hg; have GE145 := gE HB hg; replace HB := hB HB hb; have NB144_145 := nL BK144 hg; have NB145_144 := nG BK144 hg; replace BK144 := kB BK144 hb; clear hb hbox hg; have hnb4 := NB144_145.out; have hnc4 := NB145_144.out; obtain ⟨hcz5_0, hcz5_1, hfz5_0, hfz5_1⟩ := bc2 BK144; obtain ⟨hcz6_0, hcz6_1, hfz6_0, hfz6_1⟩ := bc2 BK145))
  refine bodyPost_ret (results_cell_row rfl _ _ gb145 28 #[.slice A0_0 l0_0.length c0_0, .bool a0_1] (0, 0) _ rfl (by (with_reducible repeat (first | refine blk_drewN ?_ _ | refine blk_drew ?_ | refine blk_alloc ?_ _)); refine blk_put (cs := #[.slice A0_0 l0_0.length c0_0, .bool false]) ?_ 1 _ rfl; (with_reducible repeat (first | refine blk_drewN ?_ _ | refine blk_drew ?_ | refine blk_alloc ?_ _)); refine blk_put (cs := #[.slice none 0 0, .bool false]) ?_ 0 _ rfl; (with_reducible repeat (first | refine blk_drewN ?_ _ | refine blk_drew ?_ | refine blk_alloc ?_ _)); exact BK145.out) Try.underlying28 rfl (by kernel_rfl)) rfl ?_
  exact ⟨_, by first | rfl | (simp [errW_none, errW_some] <;> rfl) | (simp [*, errW_none, errW_some] <;> rfl), by (with_reducible repeat (first | apply Kd.V_alloc | apply Kd.V_drewN | apply Kd.V_drew)); exact Kd.V_mono (Kd.V_far (p := ⟨gb145, 1, none⟩) (Kd.V_far (p := ⟨gb145, 0, none⟩) (Kd.V_mono HO0_0.out (fun k_ hk => (⟨hk, hk.2⟩ : _ ∧ k_ ≠ gb145))) (fun _ hk => hk.2) (.slice A0_0 l0_0.length c0_0)) (fun _ hk => hk.2) (.bool a0_1)) (fun _ hk => hk.1.1.1), by repeat (first | (with_reducible first | exact HB.out | apply below_alloc | apply pw_below_drewN | apply below_drew1 | refine below_set ?_ GE144.out | refine below_set ?_ GE145.out) | exact HB.out)⟩

end Go.Proofs.Ytneomcnfbnfjbaa.Q
