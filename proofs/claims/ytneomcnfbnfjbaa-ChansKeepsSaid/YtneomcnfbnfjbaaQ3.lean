-- Laid by mix.py, a program of this session, with the kit's print.py; walks by hand come out of wip/over.
import Derived.Test.YtneomcnfbnfjbaaQ0
import Derived.Test.YtneomcnfbnfjbaaQ1
namespace Go.Proofs.Ytneomcnfbnfjbaa.Q
open Go.RowKit Go.Proofs.YtneomcnfbnfjbaaW.PrintWords Go.Proofs.YtneomcnfbnfjbaaW.PrintLast Go.Proofs.YtneomcnfbnfjbaaW.PrintMore
attribute [local go_sem] max2_int min2_int max_two min_two max_three min_three max_four min_four   -- for this text's walks alone
set_option linter.unusedVariables false
set_option linter.unusedSimpArgs false

/-! ### chans_Take: function 14 -/
def chans_Take.f (k : Nat) (l0_0 : List (List Int)) (a0_1 : Bool) : Option ((List (List Int)) × Bool × List Int × Bool) := (chans_sane.f k l0_0 a0_1).bind fun bt125 => (if (bt125.1.length : Int) = 0 then (some (bt125.1, bt125.2, ([] : List Int), false)) else (if 0 < (bt125.1.length : Int) then (if 1 ≤ (bt125.1.length : Int) then (some ((bt125.1.drop 1), bt125.2, rd_L1 bt125.1 0, true)) else (none)) else (none)))
theorem chans_Take.mono : ∀ a0 a1 k, LeO (chans_Take.f k a0 a1) (chans_Take.f (k + 1) a0 a1) := by
  intro a0 a1 k
  unfold chans_Take.f
  repeat' first
      | (with_reducible exact chans_sane.mono _ _ _)
      | (with_reducible exact LeO.refl _)
      | (with_reducible exact LeO.none _)
      | (with_reducible refine LeO.ite ?_ ?_)
      | (with_reducible refine LeO.bind ?_ (fun _ => ?_))
      | exact chans_sane.mono _ _ _
      | exact LeO.none _
      | refine LeO.ite ?_ ?_
      | refine LeO.bind ?_ (fun _ => ?_)
def takeS (l : List (List Int)) (b : Bool) : List (List Int) × Bool × List Int × Bool := match asL l with
  | [] => ([], asC l b, [], false)
  | x :: t => (t, asC l b, x, true)
theorem Take_val (l : List (List Int)) (b : Bool) (hl : l.length ≤ 9223372036854775807) (k : Nat) (hk : l.length < k) : chans_Take.f k l b = some (takeS l b) := by
  unfold chans_Take.f takeS
  rw [sane_val l b hl k hk, Option.bind_some]
  cases asL l with
  | nil => rfl
  | cons x t =>
    simp only [List.length_cons]
    rw [if_neg (by omega), if_pos (by omega), if_pos (by omega)]
    rfl
set_option maxHeartbeats 1000000 in
theorem Take_none (P : Nat → Prop) (A : Option Addr) (c : Nat) (l : List (List Int)) (b : Bool) (w : World) (hV : Kd.V (Kd.slice 3 (Kd.int .i64)) 32 w w.heap.size P (.slice A l.length c) l) (hL : asL l = []) :
    Calls Try.prog 14 #[.agg #[.slice A l.length c, .bool b]] w fun e w' => Aside0 (∃ A' c', e = .returned (.tuple #[.agg #[.slice A' 0 c', .bool (asC l b)], .slice none 0 0, .bool false]) ∧ Below w.heap.size w w') := by
  have HV := Aside0.mk (V_two hV (.cells #[.slice A l.length c, .bool b] 28) (.cells #[.slice none 0 0, .bool false] 28))
  have HL := Aside0.mk hL
  clear hV hL
  have hu28 := Try.underlying28
  go_enter Try.func14, Try.ntmps14
  go_wp2_with (go_at_call 30; refine (sane_V _ _ _ _ _ _ _ _ HV.out HL.out rfl).mono ?_; rintro e w1 ⟨⟨A1, c1, rfl, hc1, hA, hb⟩⟩; obtain ⟨k0, k1, k2, k3, q0, q1, q2, q3, hz⟩ := two_cells hb; have HB := Aside0.mk hb; clear hb hA hc1)
  exact bodyPost_ret (v := .tuple #[.agg #[.slice A1 0 c1, .bool (asC l b)], .slice none 0 0, .bool false]) (by simp [results, Try.results14, go_sem, k0, k1, k2, k3, hz]) rfl ⟨A1, c1, rfl, ((((below_two HB.out).setCell (by simp) _).setCell (by simp) _).setCell (by simp) _).setCell (by simp) _⟩
set_option maxHeartbeats 2000000 in
theorem Take_some (P : Nat → Prop) (A : Option Addr) (c : Nat) (l : List (List Int)) (b : Bool) (x : List Int) (t : List (List Int)) (w : World) (hV : Kd.V (Kd.slice 3 (Kd.int .i64)) 32 w w.heap.size P (.slice A l.length c) l) (hL : asL l = x :: t) :
    Calls Try.prog 14 #[.agg #[.slice A l.length c, .bool b]] w fun e w' => Aside0 (∃ A' c' A2 c2, e = .returned (.tuple #[.agg #[.slice A' t.length c', .bool (asC l b)], .slice A2 x.length c2, .bool true]) ∧ t.length ≤ c' ∧ x.length ≤ c2 ∧ Kd.F (Kd.slice 3 (Kd.int .i64)) w' P A' t.length t ∧ Kd.F (Kd.int .i64) w' P A2 x.length x ∧ Below w.heap.size w w') := by
  have HV := Aside0.mk (V_two hV (.cells #[.slice A l.length c, .bool b] 28) (.cells #[.slice none 0 0, .bool false] 28))
  have HL := Aside0.mk hL
  clear hV hL
  have hu28 := Try.underlying28
  have hss := set_set
  obtain ⟨i32, hi32, _, hsz32, _⟩ := info_parts info32
  go_enter Try.func14, Try.ntmps14
  go_wp2_with fail
  refine (sane_V _ _ _ _ _ _ _ _ HV.out HL.out rfl).mono ?_
  rintro e w1 ⟨⟨A1, c1, rfl, hc1, hF, hb⟩⟩
  obtain ⟨k0, k1, k2, k3, q0, q1, q2, q3, hz⟩ := two_cells hb
  have HB := Aside0.mk hb
  clear hb
  obtain ⟨ad, rfl⟩ : ∃ ad, A1 = some ad := by obtain ⟨ad, e, _⟩ := (Kd.F_now hF).2.2 (by simp); exact ⟨ad, e⟩
  obtain ⟨cs, _, hK, hcell⟩ := Kd.V_get (Kd.V_mk (e := 32) (base := 0) hc1 hF) ([] : List Int) 0 (by decide) (by simp)
  obtain ⟨A2, c2, rfl, hc2, hF2⟩ := Kd.FK_slice_open hK
  have hx : w1.cell? ad = some (.slice A2 x.length c2) := by have := hcell 0 _ rfl; simpa [Addr.add, List.getD] using this
  have had : ad.block < w.heap.size := (Kd.F_in hF rfl (by simp) (by decide)).2
  have hx2 : ∀ u v, ((w1.setCell ⟨w.heap.size, 0, none⟩ u).setCell ⟨w.heap.size, 1, none⟩ v).cell? ad = some (.slice A2 x.length c2) := fun u v => by
    rw [World.cell?_setCell_other _ _ _ _ (fun e => by rw [← e] at had; simp at had), World.cell?_setCell_other _ _ _ _ (fun e => by rw [← e] at had; simp at had)]
    exact hx
  have hcut := cut_from (P := Try.prog) 22 32 .i64 Try.underlying22 hi32 1 hsz32 (some ad) (x :: t).length c1 1 (by decide) (by simp only [List.length_cons]; omega)
  have HT := Aside0.mk (Kd.F_cut hF (m := 1) (by simp) hc1)
  have HX := Aside0.mk hF2
  have hlen : (x :: t).length = t.length + 1 := rfl
  have hc1' : t.length ≤ c1 - 1 := by rw [hlen] at hc1; omega
  have h1c : 1 ≤ c1 := by rw [hlen] at hc1; omega
  obtain ⟨A3, hA3⟩ : ∃ A3, (if c1 = (1 : Int).toNat then some ad else (some ad).map (·.add ((1 : Int).toNat * 1))) = A3 := ⟨_, rfl⟩
  rw [hA3] at hcut
  have HT3 : Aside0 (Kd.F (Kd.slice 3 (Kd.int .i64)) w1 (fun k => P k ∧ k < w.heap.size) A3 t.length t) := ⟨by rw [← hA3]; exact HT.out⟩
  have HC1 := Aside0.mk hc1'
  have HC2 := Aside0.mk hc2
  simp only [hlen, Nat.add_sub_cancel, Int.toNat_one] at hcut
  clear hF hK hcell hF2 HT hA3 hc1' hc2 hi32 hsz32 hc1 hlen had hx
  go_wp2
  exact bodyPost_ret (v := .tuple #[.agg #[.slice A3 t.length (c1 - 1), .bool (asC l b)], .slice A2 x.length c2, .bool true]) (by simp [results, Try.results14, go_sem, k0, k1, k2, k3, hz]) rfl ⟨A3, c1 - 1, A2, c2, rfl, HC1.out, HC2.out, Kd.F_mono (F_low HT3.out ((((((Below.refl _ _).setCell (by simp) _).setCell (by simp) _).setCell (by simp) _).setCell (by simp) _).setCell (by simp) _)) (fun _ hk => hk.1), Kd.F_mono (F_low HX.out ((((((Below.refl _ _).setCell (by simp) _).setCell (by simp) _).setCell (by simp) _).setCell (by simp) _).setCell (by simp) _)) (fun _ hk => hk.1), (((((below_two HB.out).setCell (by simp) _).setCell (by simp) _).setCell (by simp) _).setCell (by simp) _).setCell (by simp) _⟩
theorem chans_Take.calls (k : Nat) (P0_0_ : Nat → Prop) (A0_0 : Option Addr) (c0_0 : Nat) (l0_0 : List (List Int)) (a0_1 : Bool) (r1 : List (List Int)) (r2 : Bool) (r3 : List Int) (r4 : Bool) (w : World) (hs0_0 : Kd.V (Kd.slice 3 (Kd.int .i64)) 32 w w.heap.size (fun k_ => P0_0_ k_) (.slice A0_0 l0_0.length c0_0) l0_0) (h : chans_Take.f k l0_0 a0_1 = some (r1, r2, r3, r4)) :
    Calls Try.prog 14 #[.agg #[.slice A0_0 l0_0.length c0_0, .bool a0_1]] w fun e w' => ∃ v0_ v2_ : Value, e = .returned (.tuple #[.agg #[v0_, .bool r2], v2_, .bool r4]) ∧ Kd.V (Kd.slice 3 (Kd.int .i64)) 32 w' w.heap.size (fun k_ => (P0_0_ k_ ∨ w.heap.size ≤ k_)) v0_ r1 ∧ Kd.V (Kd.int .i64) 3 w' w.heap.size (fun k_ => (P0_0_ k_ ∨ w.heap.size ≤ k_)) v2_ r3 ∧ Below w.heap.size w w' := by
  have hC := Kd.F_now (Kd.V_F hs0_0)
  have e1 := told_of (chans_Take.mono l0_0 a0_1) h (fun k hk => Take_val l0_0 a0_1 hC.2.1 k hk)
  unfold takeS at e1
  cases hE : asL l0_0 with
  | nil =>
    rw [hE] at e1
    simp only [Prod.mk.injEq] at e1
    obtain ⟨rfl, rfl, rfl, rfl⟩ := e1
    refine (Take_none _ A0_0 c0_0 l0_0 a0_1 w hs0_0 hE).mono fun e w' h => ?_
    obtain ⟨A', c', he, hb⟩ := h.out
    exact ⟨_, _, he, Kd.V_mk (xs := []) (Nat.zero_le _) (Kd.F_imp (Kd.F_nil (Kd.slice 3 (Kd.int .i64)) w' _) (fun W' _ => ⟨rfl, by simp, fun hn => absurd hn (by simp)⟩)), Kd.V_nil _ _ _ _ _, hb⟩
  | cons x t =>
    rw [hE] at e1
    simp only [Prod.mk.injEq] at e1
    obtain ⟨rfl, rfl, rfl, rfl⟩ := e1
    refine (Take_some _ A0_0 c0_0 l0_0 a0_1 r3 r1 w hs0_0 hE).mono fun e w' h => ?_
    obtain ⟨A', c', A2, c2, he, hc', hc2, hF, hF2, hb⟩ := h.out
    exact ⟨_, _, he, Kd.V_mono (Kd.V_mk hc' hF) (fun _ hk => .inl hk), Kd.V_mono (Kd.V_mk hc2 hF2) (fun _ hk => .inl hk), hb⟩
theorem take_C (A : Option Addr) (c : Nat) (l : List (List Int)) (b : Bool) (r1 : List (List Int)) (r2 : Bool) (r3 : List Int) (r4 : Bool) (w : World) (hC : Kd.C (Kd.slice 3 (Kd.int .i64)) w A l.length l) (hc : l.length ≤ c) (hR : takeS l b = (r1, r2, r3, r4)) :
    Calls Try.prog 14 #[.agg #[.slice A l.length c, .bool b]] w fun e w' => Aside0 (∃ A' c' A2 c2, e = .returned (.tuple #[.agg #[.slice A' r1.length c', .bool r2], .slice A2 r3.length c2, .bool r4]) ∧ r1.length ≤ c' ∧ Kd.C (Kd.slice 3 (Kd.int .i64)) w' A' r1.length r1 ∧ r3.length ≤ c2 ∧ Kd.C (Kd.int .i64) w' A2 r3.length r3 ∧ Below w.heap.size w w') := by
  have h := chans_Take.calls (l.length + 1) _ A c l b r1 r2 r3 r4 w (Kd.V_mk hc (Kd.C_F (Kd.heap_slice 3 (Kd.heap_int .i64)) hC)) (by rw [Take_val l b hC.2.1 _ (by omega), hR])
  refine h.mono fun e w' hh => ?_
  obtain ⟨v, v2, he, hV, hV2, hb⟩ := hh
  obtain ⟨A', c', rfl, hc', hF⟩ := hV
  obtain ⟨A2, c2, rfl, hc2, hF2⟩ := hV2
  exact ⟨A', c', A2, c2, he, hc', Kd.F_now hF, hc2, Kd.F_now hF2, hb⟩

/-! ### chans_Count: function 17 -/
def chans_Count.l0 : Nat → Int → List (List Int) → Int → Int → Option (Int)
  | 0, _, _, _, _ => none
  | k + 1, x3, x8, x9, x10 => if x10 < x9 then (if 0 ≤ x10 then (if x10 < (x8.length : Int) then (chans_Count.l0 k (wrap64 (x3 + ((rd_L1 x8 x10).length : Int))) x8 x9 (wrap64 (x10 + 1))) else (none)) else (none)) else (some x3)
def chans_Count.f (k : Nat) (l0_0 : List (List Int)) (a0_1 : Bool) : Option (Int) := (chans_sane.f k l0_0 a0_1).bind fun bt136 => (chans_Count.l0 k 0 bt136.1 (bt136.1.length : Int) 0)
theorem chans_Count.mono_l : ∀ k, (∀ y0 y1 y2 y3, LeO (chans_Count.l0 k y0 y1 y2 y3) (chans_Count.l0 (k + 1) y0 y1 y2 y3))
  | 0 => fun _ _ _ _ r h => by simp [chans_Count.l0] at h
  | k + 1 => by
    have ih0 := chans_Count.mono_l k
    · intro y0 y1 y2 y3
      unfold chans_Count.l0
      repeat' first
      | (with_reducible exact ih0 _ _ _ _)
      | (with_reducible exact chans_sane.mono _ _ _)
      | (with_reducible exact LeO.refl _)
      | (with_reducible exact LeO.none _)
      | (with_reducible refine LeO.ite ?_ ?_)
      | (with_reducible refine LeO.bind ?_ (fun _ => ?_))
      | exact ih0 _ _ _ _
      | exact chans_sane.mono _ _ _
      | exact LeO.none _
      | refine LeO.ite ?_ ?_
      | refine LeO.bind ?_ (fun _ => ?_)
theorem chans_Count.mono : ∀ a0 a1 k, LeO (chans_Count.f k a0 a1) (chans_Count.f (k + 1) a0 a1) := by
  intro a0 a1 k
  have ih0 := chans_Count.mono_l k
  unfold chans_Count.f
  repeat' first
      | (with_reducible exact ih0 _ _ _ _)
      | (with_reducible exact chans_sane.mono _ _ _)
      | (with_reducible exact LeO.refl _)
      | (with_reducible exact LeO.none _)
      | (with_reducible refine LeO.ite ?_ ?_)
      | (with_reducible refine LeO.bind ?_ (fun _ => ?_))
      | exact ih0 _ _ _ _
      | exact chans_sane.mono _ _ _
      | exact LeO.none _
      | refine LeO.ite ?_ ?_
      | refine LeO.bind ?_ (fun _ => ?_)
def cnt (l : List (List Int)) : Int := (l.map fun x => (x.length : Int)).sum
theorem cnt_le (l : List (List Int)) (h : saneB l = true) : 0 ≤ cnt l ∧ cnt l ≤ 16 := by
  simp only [saneB, Bool.and_eq_true, decide_eq_true_eq, List.all_eq_true] at h
  obtain ⟨h1, h2⟩ := h
  match l, h1, h2 with
  | [], _, _ => exact ⟨by decide, by decide⟩
  | [x], _, h2 =>
    have := (fitsB_iff x).1 (h2 x (by simp))
    simp [cnt]; omega
  | [x, y], _, h2 =>
    have := (fitsB_iff x).1 (h2 x (by simp))
    have := (fitsB_iff y).1 (h2 y (by simp))
    simp [cnt]; omega
theorem cnt_nonneg : ∀ l : List (List Int), 0 ≤ cnt l
  | [] => by simp [cnt]
  | x :: t => by
    have := cnt_nonneg t
    have e : cnt (x :: t) = x.length + cnt t := by simp [cnt]
    omega
theorem asL_sane (l : List (List Int)) : saneB (asL l) = true := by
  unfold asL
  split
  · assumption
  · rfl
theorem Count_loop : ∀ (t : List (List Int)) (done : List (List Int)) (acc : Int) (k : Nat), (done ++ t).length ≤ 2 → t.length < k → 0 ≤ acc → acc + cnt t ≤ 100 → (∀ x ∈ t, x.length ≤ 8) → chans_Count.l0 k acc (done ++ t) ((done ++ t).length : Int) (done.length : Int) = some (acc + cnt t)
  | [], done, acc, k, _, hk, _, _, _ => by
    obtain ⟨k, rfl⟩ : ∃ j, k = j + 1 := ⟨k - 1, by omega⟩
    rw [chans_Count.l0, if_neg (by simp)]
    simp [cnt]
  | x :: t, done, acc, k, h2, hk, h0, hb, h8 => by
    obtain ⟨k, rfl⟩ : ∃ j, k = j + 1 := ⟨k - 1, by omega⟩
    have hx := h8 x (by simp)
    have hc : cnt (x :: t) = x.length + cnt t := by simp [cnt]
    have hn : 0 ≤ cnt t := cnt_nonneg t
    have hl : (done ++ x :: t).length = done.length + t.length + 1 := by simp; omega
    have e1 : rd_L1 (done ++ x :: t) (done.length : Int) = x := by rw [rd_L1_getD]; simp
    have e2 : wrap64 (acc + (x.length : Int)) = acc + x.length := by unfold wrap64; omega
    have e3 : wrap64 ((done.length : Int) + 1) = ((done ++ [x]).length : Int) := by simp; unfold wrap64; rw [hl] at h2; omega
    rw [chans_Count.l0, if_pos (by rw [hl]; omega), if_pos (by omega), if_pos (by rw [hl]; omega), e1, e2, e3]
    have e4 : done ++ x :: t = (done ++ [x]) ++ t := by simp
    rw [e4] at h2 ⊢
    rw [Count_loop t (done ++ [x]) (acc + x.length) k h2 (by simp at hk; omega) (by omega) (by rw [hc] at hb; omega) (fun z hz => h8 z (by simp [hz])), hc]
    congr 1; omega
theorem Count_val (l : List (List Int)) (b : Bool) (hl : l.length ≤ 9223372036854775807) (k : Nat) (hk : l.length + 2 < k) : chans_Count.f k l b = some (cnt (asL l)) := by
  unfold chans_Count.f
  rw [sane_val l b hl k (by omega), Option.bind_some]
  have hs := asL_sane l
  have h2 := asL_len l
  have h16 := cnt_le _ hs
  have := Count_loop (asL l) [] 0 k (by simpa using h2) (by omega) (by decide) (by omega) (fun x hx => by
    simp only [saneB, Bool.and_eq_true, List.all_eq_true] at hs
    exact ((fitsB_iff x).1 (hs.2 x hx)).2)
  simpa using this
theorem cnt_take (L : List (List Int)) (h : saneB L = true) (i : Nat) (hi : i < L.length) : cnt (L.take (i + 1)) = cnt (L.take i) + (L[i].length : Int) ∧ 0 ≤ cnt (L.take i) ∧ cnt (L.take i) ≤ 16 ∧ L[i].length ≤ 8 := by
  have e : cnt (L.take (i + 1)) = cnt (L.take i) + (L[i].length : Int) := by
    unfold cnt
    rw [List.take_succ_eq_append_getElem hi, List.map_append, List.sum_append]
    simp only [List.map_cons, List.map_nil, List.sum_cons, List.sum_nil]
    omega
  have hs := h
  simp only [saneB, Bool.and_eq_true, decide_eq_true_eq, List.all_eq_true] at hs
  refine ⟨e, cnt_nonneg _, ?_, ((fitsB_iff _).1 (hs.2 L[i] (List.getElem_mem hi))).2⟩
  have : saneB (L.take i) = true := by
    simp only [saneB, Bool.and_eq_true, decide_eq_true_eq, List.all_eq_true]
    exact ⟨by rw [List.length_take]; omega, fun x hx => hs.2 x (List.mem_of_mem_take hx)⟩
  exact (cnt_le _ this).2
set_option maxHeartbeats 2000000 in
theorem Count_walk (A : Option Addr) (c : Nat) (l : List (List Int)) (b : Bool) (w : World) (hr : Kd.C (Kd.slice 3 (Kd.int .i64)) w A l.length l) (hc : l.length ≤ c) :
    Calls Try.prog 17 #[.agg #[.slice A l.length c, .bool b]] w fun e w' => e = .returned (.int .i64 (cnt (asL l))) ∧ Aside0 (Below w.heap.size w w') := by
  have HV := Aside0.mk (Kd.V_mk (e := 32) (base := (w.alloc (.cells #[.slice A l.length c, .bool b] 28)).heap.size) hc (Kd.C_F (Kd.heap_slice 3 (Kd.heap_int .i64)) (Kd.C_alloc hr (.cells #[.slice A l.length c, .bool b] 28))))
  have hS := asL_sane l
  have h2 := asL_len l
  obtain ⟨L, hL⟩ : ∃ L, asL l = L := ⟨_, rfl⟩
  rw [hL] at hS h2 ⊢
  have HL := Aside0.mk hL
  have HS := Aside0.mk hS
  have hu28 := Try.underlying28
  clear hL hS hr
  have hfd := field0
  go_enter Try.func17, Try.ntmps17
  go_wp2_with (go_at_call 30; refine (sane_V _ _ _ _ _ _ _ _ HV.out HL.out rfl).mono ?_; rintro e w1 ⟨⟨A1, c1, rfl, hc1, hF, hb⟩⟩; have HC := Aside0.mk (Kd.F_now hF); have HB := Aside0.mk (below_one hb); clear hb hF)
  go_loopg [3, 10] L.length (fun kq v3 v10 w' => ∃ (i : Nat) (a : Int), v10 = .int .i64 i ∧ v3 = .int .i64 a ∧ Aside0 (i + kq = L.length) ∧ Aside0 (a = cnt (L.take i)) ∧ Aside0 (w1 = w'))
  case atStart => exact ⟨0, 0, rfl, rfl, ⟨by omega⟩, ⟨by simp [cnt]⟩, ⟨rfl⟩⟩
  case round =>
    obtain ⟨i, a, rfl, rfl, HI, HA, ⟨rfl⟩⟩ := hrel
    have hi := HI.out
    by_cases c6 : i < L.length
    · obtain ⟨ad, A2, c2, rfl, hx, hc2, _⟩ := at_L1 HC.out i (by omega) (by omega)
      rw [Int.toNat_natCast] at hx
      have e := rd_L1_getD L i
      rw [List.getD_eq_getElem?_getD, List.getElem?_eq_getElem c6, Option.getD_some] at e
      rw [e] at hx hc2
      obtain ⟨e1, e2, e3, e4⟩ := cnt_take L HS.out i c6
      rw [← HA.out] at e1 e2 e3
      have HE := Aside0.mk e1
      generalize L[i] = x at *
      clear e e1
      cases gk with
      | zero => omega
      | succ g1 =>
        go_wp2
        go_roundg g1
        case measure => exact Nat.lt_succ_self _
        case rel => exact ⟨i + 1, _, by go_num, rfl, ⟨by omega⟩, ⟨HE.out.symm⟩, ⟨rfl⟩⟩
    · have HE : Aside0 (a = cnt L) := ⟨by rw [HA.out, List.take_of_length_le (by omega)]⟩
      clear HA
      go_wp2
      go_ret
      exact ⟨by rw [← HE.out]; rfl, HB⟩
theorem chans_Count.calls (k : Nat) (A0_0 : Option Addr) (c0_0 : Nat) (l0_0 : List (List Int)) (a0_1 : Bool) (r : Int) (w : World) (hr0_0 : Kd.C (Kd.slice 3 (Kd.int .i64)) w A0_0 l0_0.length l0_0) (hc0_0 : l0_0.length ≤ c0_0) (h : chans_Count.f k l0_0 a0_1 = some r) :
    Calls Try.prog 17 #[.agg #[.slice A0_0 l0_0.length c0_0, .bool a0_1]] w fun e w' => e = .returned (.int .i64 r) ∧ Below w.heap.size w w' := by
  rw [told_of (chans_Count.mono l0_0 a0_1) h (fun k hk => Count_val l0_0 a0_1 hr0_0.2.1 k hk)]
  exact (Count_walk A0_0 c0_0 l0_0 a0_1 w hr0_0 hc0_0).mono fun _ _ ⟨he, hb⟩ => ⟨he, hb.out⟩

end Go.Proofs.Ytneomcnfbnfjbaa.Q
