-- Laid by mix.py, a program of this session, with the kit's print.py; walks by hand come out of wip/over.
import Derived.Test.YtocmnggcbpdnjaaShort
import Derived.Test.YtocmnggcbpdnjaaI0
import Derived.Test.YtocmnggcbpdnjaaI1
import Derived.Test.YtocmnggcbpdnjaaI2
namespace Go.Proofs.Ytocmnggcbpdnjaa.I
open Go.RowKit Go.Proofs.YtocmnggcbpdnjaaW.PrintWords Go.Proofs.YtocmnggcbpdnjaaW.PrintLast Go.Proofs.YtocmnggcbpdnjaaW.PrintMore Go.Proofs.YtocmnggcbpdnjaaW.Sh
attribute [local go_sem] max2_int min2_int max_two min_two max_three min_three max_four min_four   -- for this text's walks alone
set_option linter.unusedVariables false
set_option linter.unusedSimpArgs false

/-! ### wire_Arrive: function 13 -/
def wire_Arrive.f (l0_0 : List Int) (a0_1 : Bool) (a0_2 : Int) (l0_3 : List Int) (l1 : List Int) : Option (List Int × Bool × Int × List Int × Int) := (wire_sane.f l0_0 a0_1 a0_2 l0_3).bind fun bt148 => (if bt148.2.1 = true then (some (bt148.1, bt148.2.1, bt148.2.2.1, bt148.2.2.2, 2)) else (if (l1.length : Int) > (wrap64 (4096 - (bt148.1.length : Int))) then (some (bt148.1, bt148.2.1, bt148.2.2.1, bt148.2.2.2, 3)) else ((some (([] : List Int) : List Int)).bind fun y157 => (if y157.length + bt148.1.length < 140737488355328 then ((some (y157 ++ bt148.1 : List Int)).bind fun y160 => (if y160.length + l1.length < 140737488355328 then (some ((y160 ++ l1), bt148.2.1, bt148.2.2.1, bt148.2.2.2, 0)) else (none))) else (none)))))
set_option maxHeartbeats 2000000 in
theorem Arrive_walk (P0 P3 : Nat → Prop) (v0 v3 : Value) (l0 l3 : List Int) (b : Bool) (a : Int) (w : World) (h0 : Kd.V (Kd.int .u8) 5 w w.heap.size P0 v0 l0) (h3 : Kd.V (Kd.int .u8) 5 w w.heap.size P3 v3 l3) (L : List Int) (B : Bool) (N : Int) (O : List Int) (hs : AsIs l0 b a l3 L B N O) (A1 : Option Addr) (c1 : Nat) (l1 : List Int) (hr1 : Kd.C (Kd.int .u8) w A1 l1.length l1) (hc1 : l1.length ≤ c1) (l' : List Int) (e' : Int)
    (hn : (B = true ∧ l' = L ∧ e' = 2) ∨ (B = false ∧ 4096 - (L.length : Int) < l1.length ∧ l' = L ∧ e' = 3) ∨ (B = false ∧ (l1.length : Int) ≤ 4096 - (L.length : Int) ∧ l' = L ++ l1 ∧ e' = 0)) :
    Calls Try.prog 13 #[.agg #[v0, .bool b, .int .i64 a, v3], .slice A1 l1.length c1] w fun e w' => ∃ v, e = .returned (.tuple #[v, .int .i64 e']) ∧ WireIs w (fun k => P0 k ∨ P3 k) l' B N O w' v := by
  have HR := Aside0.mk hr1
  clear hr1
  have H0 := Aside0.mk h0
  have H3 := Aside0.mk h3
  clear h0 h3
  have hu27 := Try.underlying27
  have ha : 0 ≤ N ∧ N ≤ 4096 := by have := asA_bd l0 a; rw [hs.ha] at this; exact this
  obtain ⟨ha0, ha1⟩ := ha
  have hl1 : L.length ≤ 4096 := by have := asI_len l0 a; rw [hs.hi] at this; exact this
  rcases hn with ⟨rfl, rfl, rfl⟩ | ⟨rfl, h2, rfl, rfl⟩ | ⟨rfl, h2, rfl, rfl⟩
  · go_enter Try.func13, Try.ntmps13
    go_upto_region 2 with (go_at_call 28; refine (sane_as _ _ _ _ _ _ _ _ _ _ _ H0.out H3.out hs).mono ?_; rintro e w1 ⟨⟨A0, c0, A3, c3, rfl, hc0, hc3, g0, g3, hb⟩⟩; obtain ⟨k0, k1, k2, k3, k4, k5, k6, k7, q0, q1, q2, q3, q4, q5, q6, q7, hz⟩ := two_cells hb; have G0 := Aside0.mk g0; have G3 := Aside0.mk g3; have HB := Aside0.mk hb; have HC0 := Aside0.mk hc0; have HC3 := Aside0.mk hc3; clear g0 g3 hb hc0 hc3)
    obtain ⟨W2, hW2, hbx, hli⟩ := boxed_put HB.out (.slice A0 l'.length c0) (.bool true) (.int .i64 N) (.slice A3 O.length c3)
    rw [hW2]
    have G02 := Aside0.mk (hli _ _ _ G0.out)
    have G32 := Aside0.mk (hli _ _ _ G3.out)
    have HX := Aside0.mk hbx
    clear hW2 hbx hli G0 G3 HB k0 k1 k2 k3 k4 k5 k6 k7 q0 q1 q2 q3 q4 q5 q6 q7 hz
    obtain ⟨k0, k1, k2, k3, k4, k5, k6, k7, q0, q1, q2, q3, q4, q5, q6, q7⟩ := HX.out.cells
    have hz := HX.out.size
    go_wp2_with fail
    refine bodyPost_ret (v := .tuple #[.agg #[.slice A0 l'.length c0, .bool true, .int .i64 N, .slice A3 O.length c3], .int .i64 2]) (by simp [results, Try.results13, go_sem, k0, k1, k2, k3, k4, k5, k6, k7, q0, q1, q2, q3, q4, q5, q6, q7, hz]) rfl ⟨_, rfl, ⟨_, _, rfl, ((((G02.out).set1 0 _).set1 1 _).set1 2 _).set1 3 _, ((((G32.out).set1 0 _).set1 1 _).set1 2 _).set1 3 _, ((((HX.out.below).setCell (by simp) _).setCell (by simp) _).setCell (by simp) _).setCell (by simp) _⟩⟩
  · go_enter Try.func13, Try.ntmps13
    go_upto_region 2 with (go_at_call 28; refine (sane_as _ _ _ _ _ _ _ _ _ _ _ H0.out H3.out hs).mono ?_; rintro e w1 ⟨⟨A0, c0, A3, c3, rfl, hc0, hc3, g0, g3, hb⟩⟩; obtain ⟨k0, k1, k2, k3, k4, k5, k6, k7, q0, q1, q2, q3, q4, q5, q6, q7, hz⟩ := two_cells hb; have G0 := Aside0.mk g0; have G3 := Aside0.mk g3; have HB := Aside0.mk hb; have HC0 := Aside0.mk hc0; have HC3 := Aside0.mk hc3; clear g0 g3 hb hc0 hc3)
    obtain ⟨W2, hW2, hbx, hli⟩ := boxed_put HB.out (.slice A0 l'.length c0) (.bool false) (.int .i64 N) (.slice A3 O.length c3)
    rw [hW2]
    have G02 := Aside0.mk (hli _ _ _ G0.out)
    have G32 := Aside0.mk (hli _ _ _ G3.out)
    have HX := Aside0.mk hbx
    clear hW2 hbx hli G0 G3 HB k0 k1 k2 k3 k4 k5 k6 k7 q0 q1 q2 q3 q4 q5 q6 q7 hz
    obtain ⟨k0, k1, k2, k3, k4, k5, k6, k7, q0, q1, q2, q3, q4, q5, q6, q7⟩ := HX.out.cells
    have hz := HX.out.size
    go_wp2_with fail
    refine bodyPost_ret (v := .tuple #[.agg #[.slice A0 l'.length c0, .bool false, .int .i64 N, .slice A3 O.length c3], .int .i64 3]) (by simp [results, Try.results13, go_sem, k0, k1, k2, k3, k4, k5, k6, k7, q0, q1, q2, q3, q4, q5, q6, q7, hz]) rfl ⟨_, rfl, ⟨_, _, rfl, ((((G02.out).set1 0 _).set1 1 _).set1 2 _).set1 3 _, ((((G32.out).set1 0 _).set1 1 _).set1 2 _).set1 3 _, ((((HX.out.below).setCell (by simp) _).setCell (by simp) _).setCell (by simp) _).setCell (by simp) _⟩⟩
  · go_enter Try.func13, Try.ntmps13
    go_upto_region 2 with (go_at_call 28; refine (sane_as _ _ _ _ _ _ _ _ _ _ _ H0.out H3.out hs).mono ?_; rintro e w1 ⟨⟨A0, c0, A3, c3, rfl, hc0, hc3, g0, g3, hb⟩⟩; obtain ⟨k0, k1, k2, k3, k4, k5, k6, k7, q0, q1, q2, q3, q4, q5, q6, q7, hz⟩ := two_cells hb; have G0 := Aside0.mk g0; have G3 := Aside0.mk g3; have HB := Aside0.mk hb; have HC0 := Aside0.mk hc0; have HC3 := Aside0.mk hc3; clear g0 g3 hb hc0 hc3)
    obtain ⟨W2, hW2, hbx, hli⟩ := boxed_put HB.out (.slice A0 L.length c0) (.bool false) (.int .i64 N) (.slice A3 O.length c3)
    rw [hW2]
    have G02 := Aside0.mk (hli _ _ _ G0.out)
    have G32 := Aside0.mk (hli _ _ _ G3.out)
    have HX := Aside0.mk hbx
    clear hW2 hbx hli G0 G3 HB k0 k1 k2 k3 k4 k5 k6 k7 q0 q1 q2 q3 q4 q5 q6 q7 hz
    obtain ⟨k0, k1, k2, k3, k4, k5, k6, k7, q0, q1, q2, q3, q4, q5, q6, q7⟩ := HX.out.cells
    have hz := HX.out.size
    go_wp2_with (go_at_call 29; refine (Cat.concat_two _ _ A0 c0 L A1 c1 l1 _ (by simp [go_sem]) (by simp [go_sem]) ((reads_lies G02.out).below (below_alloc (Below.refl _ _) _)) ((reads_C HR.out).below (below_alloc HX.out.below _)) (by omega)).mono ?_; rintro e w3 ⟨⟨v, rfl, ho, hb⟩⟩; obtain ⟨A5, c5, rfl⟩ := own_slice ho; have HO := Aside0.mk ho; have hb3 := below_step (below_alloc (Below.refl W2.heap.size W2) _) hb; have HX3 := Aside0.mk (HX.out.later hb3); have HG3 := Aside0.mk (G32.out.below hb3); clear ho hb hb3; clear k0 k1 k2 k3 k4 k5 k6 k7 q0 q1 q2 q3 q4 q5 q6 q7 hz; obtain ⟨k0, k1, k2, k3, k4, k5, k6, k7, q0, q1, q2, q3, q4, q5, q6, q7⟩ := HX3.out.cells; have hz3 := HX3.out.size)
    refine bodyPost_ret (v := .tuple #[.agg #[.slice A5 (L ++ l1).length c5, .bool false, .int .i64 N, .slice A3 O.length c3], .int .i64 0]) (by simp [results, Try.results13, go_sem, k0, k1, k2, k3, k4, k5, k6, k7, q0, q1, q2, q3, q4, q5, q6, q7, hz3]) rfl ⟨_, rfl, ⟨_, _, rfl, ((((((Lies.own HO.out (by have := HX.out.size; simp; omega))).set 0 _).set1 0 _).set1 1 _).set1 2 _).set1 3 _, (((((HG3.out).set 0 _).set1 0 _).set1 1 _).set1 2 _).set1 3 _, (((((HX3.out.below).setCell (by simp) _).setCell (by simp) _).setCell (by simp) _).setCell (by simp) _).setCell (by simp) _⟩⟩
set_option maxHeartbeats 1000000 in
theorem wire_Arrive.calls (P0_0_ : Nat → Prop) (A0_0 : Option Addr) (c0_0 : Nat) (l0_0 : List Int) (a0_1 : Bool) (a0_2 : Int) (P0_3_ : Nat → Prop) (A0_3 : Option Addr) (c0_3 : Nat) (l0_3 : List Int) (A1 : Option Addr) (c1 : Nat) (l1 : List Int) (r1 : List Int) (r2 : Bool) (r3 : Int) (r4 : List Int) (r5 : Int) (w : World) (hs0_0 : Kd.V (Kd.int .u8) 5 w w.heap.size (fun k_ => P0_0_ k_) (.slice A0_0 l0_0.length c0_0) l0_0) (hs0_3 : Kd.V (Kd.int .u8) 5 w w.heap.size (fun k_ => P0_3_ k_) (.slice A0_3 l0_3.length c0_3) l0_3) (hr1 : Kd.C (Kd.int .u8) w A1 l1.length l1) (hc1 : l1.length ≤ c1) (h : wire_Arrive.f l0_0 a0_1 a0_2 l0_3 l1 = some (r1, r2, r3, r4, r5)) :
    Calls Try.prog 13 #[.agg #[.slice A0_0 l0_0.length c0_0, .bool a0_1, .int .i64 a0_2, .slice A0_3 l0_3.length c0_3], .slice A1 l1.length c1] w fun e w' => ∃ v0_ v3_ : Value, e = .returned (.tuple #[.agg #[v0_, .bool r2, .int .i64 r3, v3_], .int .i64 r5]) ∧ Kd.V (Kd.int .u8) 5 w' w.heap.size (fun k_ => ((P0_0_ k_ ∨ P0_3_ k_) ∨ w.heap.size ≤ k_)) v0_ r1 ∧ Kd.V (Kd.int .u8) 5 w' w.heap.size (fun k_ => ((P0_0_ k_ ∨ P0_3_ k_) ∨ w.heap.size ≤ k_)) v3_ r4 ∧ Below w.heap.size w w' := by
  obtain ⟨L, B, N, O, hs⟩ := AsIs.made l0_0 a0_1 a0_2 l0_3
  unfold wire_Arrive.f at h
  rw [sane_val, hs.hi, hs.hb, hs.ha, hs.ho, Option.bind_some] at h
  dsimp only at h
  have ha := asA_bd l0_0 a0_2
  have hl := asI_len l0_0 a0_2
  rw [hs.ha] at ha
  rw [hs.hi] at hl
  rw [show wrap64 (4096 - (L.length : Int)) = 4096 - (L.length : Int) by unfold wrap64; omega] at h
  by_cases c1 : B = true
  · rw [if_pos c1] at h
    simp only [Option.some.injEq, Prod.mk.injEq] at h
    obtain ⟨rfl, rfl, rfl, rfl, rfl⟩ := h
    refine (Arrive_walk _ _ _ _ _ _ _ _ w hs0_0 hs0_3 _ _ _ _ hs _ _ l1 hr1 hc1 _ _ (.inl ⟨c1, rfl, rfl⟩)).mono fun e w' hq => ?_
    obtain ⟨v, he, hw⟩ := hq
    obtain ⟨v0, v3, rfl, h0, h3, hb⟩ := hw.told
    exact ⟨v0, v3, he, h0, h3, hb⟩
  · rw [if_neg c1] at h
    by_cases c2 : (l1.length : Int) > 4096 - (L.length : Int)
    · rw [if_pos c2] at h
      simp only [Option.some.injEq, Prod.mk.injEq] at h
      obtain ⟨rfl, rfl, rfl, rfl, rfl⟩ := h
      refine (Arrive_walk _ _ _ _ _ _ _ _ w hs0_0 hs0_3 _ _ _ _ hs _ _ l1 hr1 hc1 _ _ (.inr (.inl ⟨Bool.eq_false_iff.mpr c1, c2, rfl, rfl⟩))).mono fun e w' hq => ?_
      obtain ⟨v, he, hw⟩ := hq
      obtain ⟨v0, v3, rfl, h0, h3, hb⟩ := hw.told
      exact ⟨v0, v3, he, h0, h3, hb⟩
    · rw [if_neg c2] at h
      simp only [Option.bind_some, List.nil_append, List.length_nil, Nat.zero_add] at h
      rw [if_pos (by omega), if_pos (by omega)] at h
      simp only [Option.some.injEq, Prod.mk.injEq] at h
      obtain ⟨rfl, rfl, rfl, rfl, rfl⟩ := h
      refine (Arrive_walk _ _ _ _ _ _ _ _ w hs0_0 hs0_3 _ _ _ _ hs _ _ l1 hr1 hc1 _ _ (.inr (.inr ⟨Bool.eq_false_iff.mpr c1, by omega, rfl, rfl⟩))).mono fun e w' hq => ?_
      obtain ⟨v, he, hw⟩ := hq
      obtain ⟨v0, v3, rfl, h0, h3, hb⟩ := hw.told
      exact ⟨v0, v3, he, h0, h3, hb⟩

/-! ### wire_Read: function 17 -/
def wire_Read.f (l0_0 : List Int) (a0_1 : Bool) (a0_2 : Int) (l0_3 : List Int) (a1 : Int) : Option (List Int × Bool × Int × List Int × List Int) := (wire_sane.f l0_0 a0_1 a0_2 l0_3).bind fun bt168 => (if a1 < 1 then (some (bt168.1, bt168.2.1, bt168.2.2.1, bt168.2.2.2, ([] : List Int))) else (if a1 > (bt168.1.length : Int) then (if 0 ≤ (bt168.1.length : Int) then (if (bt168.1.length : Int) ≤ (bt168.1.length : Int) then (some ((bt168.1.drop ((bt168.1.length : Int) : Int).toNat), bt168.2.1, bt168.2.2.1, bt168.2.2.2, (bt168.1.take ((bt168.1.length : Int) : Int).toNat))) else (none)) else (none)) else (if 0 ≤ a1 then (if a1 ≤ (bt168.1.length : Int) then (some ((bt168.1.drop (a1 : Int).toNat), bt168.2.1, bt168.2.2.1, bt168.2.2.2, (bt168.1.take (a1 : Int).toNat))) else (none)) else (none))))
theorem lies_cut {n : Nat} {P : Nat → Prop} {w : World} {A : Option Addr} {c : Nat} {l : List Int} (h : Lies n P w (.slice A l.length c) l) (hc : l.length ≤ c) (k : Nat) (hk : k ≤ l.length) :
    ∃ A', (∀ W : World, (Instr.slice 25 (.slice A l.length c) (some (.int .i64 (k : Int))) none none).run Try.prog W = .ok (.slice A' (l.length - k) (c - k)) W) ∧ Lies n P w (.slice A' (l.length - k) (c - k)) (l.drop k) := by
  obtain ⟨i5, hi5, hz5, hsz5, hby5⟩ := info_parts info5
  have h1 := cut_from (P := Try.prog) 25 5 .i64 Try.underlying25 hi5 1 hsz5 A l.length c (k : Int) (by omega) (by omega)
  simp only [Int.toNat_natCast] at h1
  obtain ⟨A', c', e, _, hF⟩ := h
  injection e with e1 e2 e3
  subst e1
  refine ⟨_, h1, ?_⟩
  have h2 := Kd.F_cut hF hk hc
  have h3 := Kd.V_mk (e := 5) (base := 0) (c := c - k) (by rw [List.length_drop]; omega) h2
  rw [List.length_drop] at h3
  exact h3
theorem clone_take {n : Nat} {P : Nat → Prop} {w : World} {A : Option Addr} {c : Nat} {l : List Int} (h : Lies n P w (.slice A l.length c) l) (k : Nat) (hk : k ≤ l.length) (hm : l.length ≤ 4096) :
    Calls Try.prog 30 #[.slice A k c] w fun e w' => Aside0 (∃ A' c', e = .returned (.slice A' k c') ∧ w'.ownsRow w.heap.size 5 1 (.slice A' k c') (l.take k).length (nums .u8 (l.take k)) ∧ Below w.heap.size w w') := by
  have hl : (l.take k).length = k := by rw [List.length_take]; omega
  obtain ⟨A', c', e, _, hC⟩ := h.now
  injection e with e1 e2 e3
  subst e1
  have h1 := Cat.clone_on A c (l.take k) w (reads_C (Kd.C_take hC hk)) (by omega)
  rw [hl] at h1 ⊢
  refine h1.mono fun e w' ⟨v, he, ho, hb⟩ => ?_
  obtain ⟨A5, c5, rfl⟩ := own_slice ho
  exact ⟨A5, c5, he, ho, hb⟩
/-- What Read leaves: the wire and the bytes. -/
def ReadIs (w : World) (P : Nat → Prop) (l : List Int) (b : Bool) (a : Int) (o d : List Int) (w' : World) (v u : Value) : Prop := WireIs w P l b a o w' v ∧ Lies w.heap.size P w' u d
set_option maxHeartbeats 4000000 in
theorem Read_mid (P0 P3 : Nat → Prop) (v0 v3 : Value) (l0 l3 : List Int) (b : Bool) (a : Int) (w : World) (h0 : Kd.V (Kd.int .u8) 5 w w.heap.size P0 v0 l0) (h3 : Kd.V (Kd.int .u8) 5 w w.heap.size P3 v3 l3) (L : List Int) (B : Bool) (N : Int) (O : List Int) (hs : AsIs l0 b a l3 L B N O) (n : Int) (k : Nat) (hk : n = (k : Int)) (h1 : 0 < k) (h2 : k ≤ L.length) :
    Calls Try.prog 17 #[.agg #[v0, .bool b, .int .i64 a, v3], .int .i64 n] w fun e w' => ∃ v u, e = .returned (.tuple #[v, u]) ∧ ReadIs w (fun k => P0 k ∨ P3 k) (L.drop k) B N O (L.take k) w' v u := by
  have H0 := Aside0.mk h0
  have H3 := Aside0.mk h3
  clear h0 h3
  have hu27 := Try.underlying27
  have ha : 0 ≤ N ∧ N ≤ 4096 := by have := asA_bd l0 a; rw [hs.ha] at this; exact this
  obtain ⟨ha0, ha1⟩ := ha
  have hl1 : L.length ≤ 4096 := by have := asI_len l0 a; rw [hs.hi] at this; exact this
  obtain ⟨i5, hi5, _, _, _⟩ := info_parts info5
  subst hk
  have h3 : ¬ (L.length : Int) < (k : Int) := by omega
  have h4 : (0 : Int) < (k : Int) := by omega
  go_enter Try.func17, Try.ntmps17
  go_upto_region 2 with (go_at_call 28; refine (sane_as _ _ _ _ _ _ _ _ _ _ _ H0.out H3.out hs).mono ?_; rintro e w1 ⟨⟨A0, c0, A3, c3, rfl, hc0, hc3, g0, g3, hb⟩⟩; obtain ⟨k0, k1, k2, k3, k4, k5, k6, k7, q0, q1, q2, q3, q4, q5, q6, q7, hz⟩ := two_cells hb; have G0 := Aside0.mk g0; have G3 := Aside0.mk g3; have HB := Aside0.mk hb; have HC0 := Aside0.mk hc0; have HC3 := Aside0.mk hc3; clear g0 g3 hb hc0 hc3)
  obtain ⟨W2, hW2, hbx, hli⟩ := boxed_put HB.out (.slice A0 L.length c0) (.bool B) (.int .i64 N) (.slice A3 O.length c3)
  rw [hW2]
  have G02 := Aside0.mk (hli _ _ _ G0.out)
  have G32 := Aside0.mk (hli _ _ _ G3.out)
  have HX := Aside0.mk hbx
  clear hW2 hbx hli G0 G3 HB k0 k1 k2 k3 k4 k5 k6 k7 q0 q1 q2 q3 q4 q5 q6 q7 hz
  obtain ⟨k0, k1, k2, k3, k4, k5, k6, k7, q0, q1, q2, q3, q4, q5, q6, q7⟩ := HX.out.cells
  have hz := HX.out.size
  obtain ⟨A4, hcut, hl4⟩ := lies_cut G02.out HC0.out k (by omega)
  have HL4 := Aside0.mk hl4
  have hsl := cut_to (P := Try.prog) 25 5 .i64 Try.underlying25 hi5 A0 L.length c0 (k : Int) (by omega) (by omega) HC0.out
  simp only [Int.toNat_natCast, Int.toNat_zero, Int.natCast_zero] at hsl hcut
  clear hl4
  go_wp2_with (go_at_call 30; refine (clone_take G02.out k (by omega) hl1).mono ?_; rintro e w3 ⟨⟨A5, c5, rfl, ho, hb⟩⟩; have HO := Aside0.mk ho; have HX3 := Aside0.mk (HX.out.later hb); have HG3 := Aside0.mk (G32.out.below hb); have HL5 := Aside0.mk (HL4.out.below hb); clear ho hb; clear k0 k1 k2 k3 k4 k5 k6 k7 q0 q1 q2 q3 q4 q5 q6 q7 hz; obtain ⟨k0, k1, k2, k3, k4, k5, k6, k7, q0, q1, q2, q3, q4, q5, q6, q7⟩ := HX3.out.cells; have hz3 := HX3.out.size)
  have hown := Lies.own (P := fun k => P0 k ∨ P3 k) (n := w.heap.size) HO.out (by have := HX.out.size; omega)
  refine bodyPost_ret (v := .tuple #[.agg #[.slice A4 (L.length - k) (c0 - k), .bool B, .int .i64 N, .slice A3 O.length c3], .slice A5 k c5]) (by simp [results, Try.results17, go_sem, k0, k1, k2, k3, k4, k5, k6, k7, q0, q1, q2, q3, q4, q5, q6, q7, hz3]) rfl ⟨_, _, rfl, ⟨_, _, rfl, (((((HL5.out).set 0 _).set1 0 _).set1 1 _).set1 2 _).set1 3 _, (((((HG3.out).set 0 _).set1 0 _).set1 1 _).set1 2 _).set1 3 _, (((((HX3.out.below).setCell (by simp) _).setCell (by simp) _).setCell (by simp) _).setCell (by simp) _).setCell (by simp) _⟩, (((((hown).set 0 _).set1 0 _).set1 1 _).set1 2 _).set1 3 _⟩
set_option maxHeartbeats 4000000 in
theorem Read_all (P0 P3 : Nat → Prop) (v0 v3 : Value) (l0 l3 : List Int) (b : Bool) (a : Int) (w : World) (h0 : Kd.V (Kd.int .u8) 5 w w.heap.size P0 v0 l0) (h3 : Kd.V (Kd.int .u8) 5 w w.heap.size P3 v3 l3) (L : List Int) (B : Bool) (N : Int) (O : List Int) (hs : AsIs l0 b a l3 L B N O) (n : Int) (h1 : (L.length : Int) < n) (h4 : (0 : Int) < (L.length : Int)) :
    Calls Try.prog 17 #[.agg #[v0, .bool b, .int .i64 a, v3], .int .i64 n] w fun e w' => ∃ v u, e = .returned (.tuple #[v, u]) ∧ ReadIs w (fun k => P0 k ∨ P3 k) (L.drop L.length) B N O (L.take L.length) w' v u := by
  have H0 := Aside0.mk h0
  have H3 := Aside0.mk h3
  clear h0 h3
  have hu27 := Try.underlying27
  have ha : 0 ≤ N ∧ N ≤ 4096 := by have := asA_bd l0 a; rw [hs.ha] at this; exact this
  obtain ⟨ha0, ha1⟩ := ha
  have hl1 : L.length ≤ 4096 := by have := asI_len l0 a; rw [hs.hi] at this; exact this
  obtain ⟨i5, hi5, _, _, _⟩ := info_parts info5
  go_enter Try.func17, Try.ntmps17
  go_upto_region 2 with (go_at_call 28; refine (sane_as _ _ _ _ _ _ _ _ _ _ _ H0.out H3.out hs).mono ?_; rintro e w1 ⟨⟨A0, c0, A3, c3, rfl, hc0, hc3, g0, g3, hb⟩⟩; obtain ⟨k0, k1, k2, k3, k4, k5, k6, k7, q0, q1, q2, q3, q4, q5, q6, q7, hz⟩ := two_cells hb; have G0 := Aside0.mk g0; have G3 := Aside0.mk g3; have HB := Aside0.mk hb; have HC0 := Aside0.mk hc0; have HC3 := Aside0.mk hc3; clear g0 g3 hb hc0 hc3)
  obtain ⟨W2, hW2, hbx, hli⟩ := boxed_put HB.out (.slice A0 L.length c0) (.bool B) (.int .i64 N) (.slice A3 O.length c3)
  rw [hW2]
  have G02 := Aside0.mk (hli _ _ _ G0.out)
  have G32 := Aside0.mk (hli _ _ _ G3.out)
  have HX := Aside0.mk hbx
  clear hW2 hbx hli G0 G3 HB k0 k1 k2 k3 k4 k5 k6 k7 q0 q1 q2 q3 q4 q5 q6 q7 hz
  obtain ⟨k0, k1, k2, k3, k4, k5, k6, k7, q0, q1, q2, q3, q4, q5, q6, q7⟩ := HX.out.cells
  have hz := HX.out.size
  obtain ⟨A4, hcut, hl4⟩ := lies_cut G02.out HC0.out L.length (by omega)
  have HL4 := Aside0.mk hl4
  have hsl := cut_to (P := Try.prog) 25 5 .i64 Try.underlying25 hi5 A0 L.length c0 (L.length : Int) (by omega) (by omega) HC0.out
  simp only [Int.toNat_natCast, Int.toNat_zero, Int.natCast_zero] at hsl hcut
  clear hl4
  go_wp2_with (go_at_call 30; refine (clone_take G02.out L.length (by omega) hl1).mono ?_; rintro e w3 ⟨⟨A5, c5, rfl, ho, hb⟩⟩; have HO := Aside0.mk ho; have HX3 := Aside0.mk (HX.out.later hb); have HG3 := Aside0.mk (G32.out.below hb); have HL5 := Aside0.mk (HL4.out.below hb); clear ho hb; clear k0 k1 k2 k3 k4 k5 k6 k7 q0 q1 q2 q3 q4 q5 q6 q7 hz; obtain ⟨k0, k1, k2, k3, k4, k5, k6, k7, q0, q1, q2, q3, q4, q5, q6, q7⟩ := HX3.out.cells; have hz3 := HX3.out.size)
  have hown := Lies.own (P := fun k => P0 k ∨ P3 k) (n := w.heap.size) HO.out (by have := HX.out.size; omega)
  refine bodyPost_ret (v := .tuple #[.agg #[.slice A4 (L.length - L.length) (c0 - L.length), .bool B, .int .i64 N, .slice A3 O.length c3], .slice A5 L.length c5]) (by simp [results, Try.results17, go_sem, k0, k1, k2, k3, k4, k5, k6, k7, q0, q1, q2, q3, q4, q5, q6, q7, hz3]) rfl ⟨_, _, rfl, ⟨_, _, rfl, (((((HL5.out).set 0 _).set1 0 _).set1 1 _).set1 2 _).set1 3 _, (((((HG3.out).set 0 _).set1 0 _).set1 1 _).set1 2 _).set1 3 _, (((((HX3.out.below).setCell (by simp) _).setCell (by simp) _).setCell (by simp) _).setCell (by simp) _).setCell (by simp) _⟩, (((((hown).set 0 _).set1 0 _).set1 1 _).set1 2 _).set1 3 _⟩
set_option maxHeartbeats 4000000 in
theorem Read_zero (P0 P3 : Nat → Prop) (v0 v3 : Value) (l0 l3 : List Int) (b : Bool) (a : Int) (w : World) (h0 : Kd.V (Kd.int .u8) 5 w w.heap.size P0 v0 l0) (h3 : Kd.V (Kd.int .u8) 5 w w.heap.size P3 v3 l3) (L : List Int) (B : Bool) (N : Int) (O : List Int) (hs : AsIs l0 b a l3 L B N O) (n : Int) (h1 : (L.length : Int) < n) (h4 : ¬ (0 : Int) < (L.length : Int)) :
    Calls Try.prog 17 #[.agg #[v0, .bool b, .int .i64 a, v3], .int .i64 n] w fun e w' => ∃ v u, e = .returned (.tuple #[v, u]) ∧ ReadIs w (fun k => P0 k ∨ P3 k) (L.drop 0) B N O (L.take 0) w' v u := by
  have H0 := Aside0.mk h0
  have H3 := Aside0.mk h3
  clear h0 h3
  have hu27 := Try.underlying27
  have ha : 0 ≤ N ∧ N ≤ 4096 := by have := asA_bd l0 a; rw [hs.ha] at this; exact this
  obtain ⟨ha0, ha1⟩ := ha
  have hl1 : L.length ≤ 4096 := by have := asI_len l0 a; rw [hs.hi] at this; exact this
  obtain ⟨i5, hi5, _, _, _⟩ := info_parts info5
  go_enter Try.func17, Try.ntmps17
  go_upto_region 2 with (go_at_call 28; refine (sane_as _ _ _ _ _ _ _ _ _ _ _ H0.out H3.out hs).mono ?_; rintro e w1 ⟨⟨A0, c0, A3, c3, rfl, hc0, hc3, g0, g3, hb⟩⟩; obtain ⟨k0, k1, k2, k3, k4, k5, k6, k7, q0, q1, q2, q3, q4, q5, q6, q7, hz⟩ := two_cells hb; have G0 := Aside0.mk g0; have G3 := Aside0.mk g3; have HB := Aside0.mk hb; have HC0 := Aside0.mk hc0; have HC3 := Aside0.mk hc3; clear g0 g3 hb hc0 hc3)
  obtain ⟨W2, hW2, hbx, hli⟩ := boxed_put HB.out (.slice A0 L.length c0) (.bool B) (.int .i64 N) (.slice A3 O.length c3)
  rw [hW2]
  have G02 := Aside0.mk (hli _ _ _ G0.out)
  have G32 := Aside0.mk (hli _ _ _ G3.out)
  have HX := Aside0.mk hbx
  clear hW2 hbx hli G0 G3 HB k0 k1 k2 k3 k4 k5 k6 k7 q0 q1 q2 q3 q4 q5 q6 q7 hz
  obtain ⟨k0, k1, k2, k3, k4, k5, k6, k7, q0, q1, q2, q3, q4, q5, q6, q7⟩ := HX.out.cells
  have hz := HX.out.size
  obtain ⟨A4, hcut, hl4⟩ := lies_cut G02.out HC0.out 0 (by omega)
  have HL4 := Aside0.mk hl4
  have hsl := cut_to (P := Try.prog) 25 5 .i64 Try.underlying25 hi5 A0 L.length c0 (0 : Int) (by omega) (by omega) HC0.out
  simp only [Int.toNat_natCast, Int.toNat_zero, Int.natCast_zero] at hsl hcut
  clear hl4
  go_wp2_with (go_at_call 30; refine (clone_take G02.out 0 (by omega) hl1).mono ?_; rintro e w3 ⟨⟨A5, c5, rfl, ho, hb⟩⟩; have HO := Aside0.mk ho; have HX3 := Aside0.mk (HX.out.later hb); have HG3 := Aside0.mk (G32.out.below hb); have HL5 := Aside0.mk (HL4.out.below hb); clear ho hb; clear k0 k1 k2 k3 k4 k5 k6 k7 q0 q1 q2 q3 q4 q5 q6 q7 hz; obtain ⟨k0, k1, k2, k3, k4, k5, k6, k7, q0, q1, q2, q3, q4, q5, q6, q7⟩ := HX3.out.cells; have hz3 := HX3.out.size)
  have hown := Lies.own (P := fun k => P0 k ∨ P3 k) (n := w.heap.size) HO.out (by have := HX.out.size; omega)
  refine bodyPost_ret (v := .tuple #[.agg #[.slice A4 (L.length - 0) (c0 - 0), .bool B, .int .i64 N, .slice A3 O.length c3], .slice A5 0 c5]) (by simp [results, Try.results17, go_sem, k0, k1, k2, k3, k4, k5, k6, k7, q0, q1, q2, q3, q4, q5, q6, q7, hz3]) rfl ⟨_, _, rfl, ⟨_, _, rfl, (((((HL5.out).set 0 _).set1 0 _).set1 1 _).set1 2 _).set1 3 _, (((((HG3.out).set 0 _).set1 0 _).set1 1 _).set1 2 _).set1 3 _, (((((HX3.out.below).setCell (by simp) _).setCell (by simp) _).setCell (by simp) _).setCell (by simp) _).setCell (by simp) _⟩, (((((hown).set 0 _).set1 0 _).set1 1 _).set1 2 _).set1 3 _⟩
set_option maxHeartbeats 4000000 in
theorem Read_none (P0 P3 : Nat → Prop) (v0 v3 : Value) (l0 l3 : List Int) (b : Bool) (a : Int) (w : World) (h0 : Kd.V (Kd.int .u8) 5 w w.heap.size P0 v0 l0) (h3 : Kd.V (Kd.int .u8) 5 w w.heap.size P3 v3 l3) (L : List Int) (B : Bool) (N : Int) (O : List Int) (hs : AsIs l0 b a l3 L B N O) (n : Int) (h1 : n ≤ 0) :
    Calls Try.prog 17 #[.agg #[v0, .bool b, .int .i64 a, v3], .int .i64 n] w fun e w' => ∃ v u, e = .returned (.tuple #[v, u]) ∧ ReadIs w (fun k => P0 k ∨ P3 k) (L.drop 0) B N O (L.take 0) w' v u := by
  have H0 := Aside0.mk h0
  have H3 := Aside0.mk h3
  clear h0 h3
  have hu27 := Try.underlying27
  have ha : 0 ≤ N ∧ N ≤ 4096 := by have := asA_bd l0 a; rw [hs.ha] at this; exact this
  obtain ⟨ha0, ha1⟩ := ha
  have hl1 : L.length ≤ 4096 := by have := asI_len l0 a; rw [hs.hi] at this; exact this
  obtain ⟨i5, hi5, _, _, _⟩ := info_parts info5
  have h3 : ¬ (L.length : Int) < n := by omega
  have h4 : ¬ (0 : Int) < n := by omega
  go_enter Try.func17, Try.ntmps17
  go_upto_region 2 with (go_at_call 28; refine (sane_as _ _ _ _ _ _ _ _ _ _ _ H0.out H3.out hs).mono ?_; rintro e w1 ⟨⟨A0, c0, A3, c3, rfl, hc0, hc3, g0, g3, hb⟩⟩; obtain ⟨k0, k1, k2, k3, k4, k5, k6, k7, q0, q1, q2, q3, q4, q5, q6, q7, hz⟩ := two_cells hb; have G0 := Aside0.mk g0; have G3 := Aside0.mk g3; have HB := Aside0.mk hb; have HC0 := Aside0.mk hc0; have HC3 := Aside0.mk hc3; clear g0 g3 hb hc0 hc3)
  obtain ⟨W2, hW2, hbx, hli⟩ := boxed_put HB.out (.slice A0 L.length c0) (.bool B) (.int .i64 N) (.slice A3 O.length c3)
  rw [hW2]
  have G02 := Aside0.mk (hli _ _ _ G0.out)
  have G32 := Aside0.mk (hli _ _ _ G3.out)
  have HX := Aside0.mk hbx
  clear hW2 hbx hli G0 G3 HB k0 k1 k2 k3 k4 k5 k6 k7 q0 q1 q2 q3 q4 q5 q6 q7 hz
  obtain ⟨k0, k1, k2, k3, k4, k5, k6, k7, q0, q1, q2, q3, q4, q5, q6, q7⟩ := HX.out.cells
  have hz := HX.out.size
  obtain ⟨A4, hcut, hl4⟩ := lies_cut G02.out HC0.out 0 (by omega)
  have HL4 := Aside0.mk hl4
  have hsl := cut_to (P := Try.prog) 25 5 .i64 Try.underlying25 hi5 A0 L.length c0 (0 : Int) (by omega) (by omega) HC0.out
  simp only [Int.toNat_natCast, Int.toNat_zero, Int.natCast_zero] at hsl hcut
  clear hl4
  go_wp2_with (go_at_call 30; refine (clone_take G02.out 0 (by omega) hl1).mono ?_; rintro e w3 ⟨⟨A5, c5, rfl, ho, hb⟩⟩; have HO := Aside0.mk ho; have HX3 := Aside0.mk (HX.out.later hb); have HG3 := Aside0.mk (G32.out.below hb); have HL5 := Aside0.mk (HL4.out.below hb); clear ho hb; clear k0 k1 k2 k3 k4 k5 k6 k7 q0 q1 q2 q3 q4 q5 q6 q7 hz; obtain ⟨k0, k1, k2, k3, k4, k5, k6, k7, q0, q1, q2, q3, q4, q5, q6, q7⟩ := HX3.out.cells; have hz3 := HX3.out.size)
  have hown := Lies.own (P := fun k => P0 k ∨ P3 k) (n := w.heap.size) HO.out (by have := HX.out.size; omega)
  refine bodyPost_ret (v := .tuple #[.agg #[.slice A4 (L.length - 0) (c0 - 0), .bool B, .int .i64 N, .slice A3 O.length c3], .slice A5 0 c5]) (by simp [results, Try.results17, go_sem, k0, k1, k2, k3, k4, k5, k6, k7, q0, q1, q2, q3, q4, q5, q6, q7, hz3]) rfl ⟨_, _, rfl, ⟨_, _, rfl, (((((HL5.out).set 0 _).set1 0 _).set1 1 _).set1 2 _).set1 3 _, (((((HG3.out).set 0 _).set1 0 _).set1 1 _).set1 2 _).set1 3 _, (((((HX3.out.below).setCell (by simp) _).setCell (by simp) _).setCell (by simp) _).setCell (by simp) _).setCell (by simp) _⟩, (((((hown).set 0 _).set1 0 _).set1 1 _).set1 2 _).set1 3 _⟩
set_option maxHeartbeats 1000000 in
theorem wire_Read.calls (P0_0_ : Nat → Prop) (A0_0 : Option Addr) (c0_0 : Nat) (l0_0 : List Int) (a0_1 : Bool) (a0_2 : Int) (P0_3_ : Nat → Prop) (A0_3 : Option Addr) (c0_3 : Nat) (l0_3 : List Int) (a1 : Int) (r1 : List Int) (r2 : Bool) (r3 : Int) (r4 : List Int) (r5 : List Int) (w : World) (hs0_0 : Kd.V (Kd.int .u8) 5 w w.heap.size (fun k_ => P0_0_ k_) (.slice A0_0 l0_0.length c0_0) l0_0) (hs0_3 : Kd.V (Kd.int .u8) 5 w w.heap.size (fun k_ => P0_3_ k_) (.slice A0_3 l0_3.length c0_3) l0_3) (h : wire_Read.f l0_0 a0_1 a0_2 l0_3 a1 = some (r1, r2, r3, r4, r5)) :
    Calls Try.prog 17 #[.agg #[.slice A0_0 l0_0.length c0_0, .bool a0_1, .int .i64 a0_2, .slice A0_3 l0_3.length c0_3], .int .i64 a1] w fun e w' => ∃ v0_ v3_ v4_ : Value, e = .returned (.tuple #[.agg #[v0_, .bool r2, .int .i64 r3, v3_], v4_]) ∧ Kd.V (Kd.int .u8) 5 w' w.heap.size (fun k_ => ((P0_0_ k_ ∨ P0_3_ k_) ∨ w.heap.size ≤ k_)) v0_ r1 ∧ Kd.V (Kd.int .u8) 5 w' w.heap.size (fun k_ => ((P0_0_ k_ ∨ P0_3_ k_) ∨ w.heap.size ≤ k_)) v3_ r4 ∧ Kd.V (Kd.int .u8) 5 w' w.heap.size (fun k_ => ((P0_0_ k_ ∨ P0_3_ k_) ∨ w.heap.size ≤ k_)) v4_ r5 ∧ Below w.heap.size w w' := by
  obtain ⟨L, B, N, O, hs⟩ := AsIs.made l0_0 a0_1 a0_2 l0_3
  unfold wire_Read.f at h
  rw [sane_val, hs.hi, hs.hb, hs.ha, hs.ho, Option.bind_some] at h
  dsimp only at h
  have ha := asA_bd l0_0 a0_2
  have hl := asI_len l0_0 a0_2
  rw [hs.ha] at ha
  rw [hs.hi] at hl
  by_cases c1 : a1 < 1
  · rw [if_pos c1] at h
    rw [show L = L.drop 0 from rfl, show ([] : List Int) = L.take 0 from rfl] at h
    simp only [Option.some.injEq, Prod.mk.injEq] at h
    obtain ⟨rfl, rfl, rfl, rfl, rfl⟩ := h
    refine (Read_none _ _ _ _ _ _ _ _ w hs0_0 hs0_3 _ _ _ _ hs a1 (by omega)).mono fun e w' hq => ?_
    obtain ⟨v, u, he, hw, hu⟩ := hq
    obtain ⟨v0, v3, rfl, h0, h3, hb⟩ := hw.told
    exact ⟨v0, v3, u, he, h0, h3, hu.out, hb⟩
  · rw [if_neg c1] at h
    by_cases c2 : a1 > (L.length : Int)
    · rw [if_pos c2, if_pos (show 0 ≤ (L.length : Int) by omega), if_pos (Int.le_refl _), Int.toNat_natCast] at h
      by_cases c3 : (0 : Int) < (L.length : Int)
      · simp only [Option.some.injEq, Prod.mk.injEq] at h
        obtain ⟨rfl, rfl, rfl, rfl, rfl⟩ := h
        refine (Read_all _ _ _ _ _ _ _ _ w hs0_0 hs0_3 _ _ _ _ hs a1 c2 c3).mono fun e w' hq => ?_
        obtain ⟨v, u, he, hw, hu⟩ := hq
        obtain ⟨v0, v3, rfl, h0, h3, hb⟩ := hw.told
        exact ⟨v0, v3, u, he, h0, h3, hu.out, hb⟩
      · have h0 : L.length = 0 := by omega
        rw [h0] at h
        simp only [Option.some.injEq, Prod.mk.injEq] at h
        obtain ⟨rfl, rfl, rfl, rfl, rfl⟩ := h
        refine (Read_zero _ _ _ _ _ _ _ _ w hs0_0 hs0_3 _ _ _ _ hs a1 c2 c3).mono fun e w' hq => ?_
        obtain ⟨v, u, he, hw, hu⟩ := hq
        obtain ⟨v0, v3, rfl, h0, h3, hb⟩ := hw.told
        exact ⟨v0, v3, u, he, h0, h3, hu.out, hb⟩
    · obtain ⟨k, rfl⟩ : ∃ k : Nat, a1 = (k : Int) := ⟨a1.toNat, by omega⟩
      rw [if_neg c2, if_pos (show 0 ≤ (k : Int) by omega), if_pos (show (k : Int) ≤ (L.length : Int) by omega), Int.toNat_natCast] at h
      simp only [Option.some.injEq, Prod.mk.injEq] at h
      obtain ⟨rfl, rfl, rfl, rfl, rfl⟩ := h
      refine (Read_mid _ _ _ _ _ _ _ _ w hs0_0 hs0_3 _ _ _ _ hs _ k rfl (by omega) (by omega)).mono fun e w' hq => ?_
      obtain ⟨v, u, he, hw, hu⟩ := hq
      obtain ⟨v0, v3, rfl, h0, h3, hb⟩ := hw.told
      exact ⟨v0, v3, u, he, h0, h3, hu.out, hb⟩

/-! ### wire_Waits: function 24 -/
def wire_Waits.f (l0_0 : List Int) (a0_1 : Bool) (a0_2 : Int) (l0_3 : List Int) : Option (Bool) := (wire_sane.f l0_0 a0_1 a0_2 l0_3).bind fun bt198 => (if (bt198.1.length : Int) = 0 then (some (!bt198.2.1)) else (some false))
set_option maxHeartbeats 8000000 in
set_option maxRecDepth 100000 in
theorem wire_Waits.calls (A0_0 : Option Addr) (c0_0 : Nat) (l0_0 : List Int) (a0_1 : Bool) (a0_2 : Int) (A0_3 : Option Addr) (c0_3 : Nat) (l0_3 : List Int) (r : Bool) (w : World) (hr0_0 : Kd.C (Kd.int .u8) w A0_0 l0_0.length l0_0) (hc0_0 : l0_0.length ≤ c0_0) (hr0_3 : Kd.C (Kd.int .u8) w A0_3 l0_3.length l0_3) (hc0_3 : l0_3.length ≤ c0_3) (h : wire_Waits.f l0_0 a0_1 a0_2 l0_3 = some r) :
    Calls Try.prog 24 #[.agg #[.slice A0_0 l0_0.length c0_0, .bool a0_1, .int .i64 a0_2, .slice A0_3 l0_3.length c0_3]] w fun e w' => e = .returned (.bool r) ∧ Below w.heap.size w w' := by
  have hu27 := Try.underlying27
  have HR0_0 := Aside0.mk hr0_0
  have HC0_0 := Aside0.mk hc0_0
  clear hr0_0 hc0_0
  have HR0_3 := Aside0.mk hr0_3
  have HC0_3 := Aside0.mk hc0_3
  clear hr0_3 hc0_3
  have HB := Aside0.mk (Below.refl w.heap.size w)
  have H : ((wire_sane.f l0_0 a0_1 a0_2 l0_3).bind fun bt198 => (if (bt198.1.length : Int) = 0 then (some (!bt198.2.1)) else (some false))) = some r := h
  clear h
  obtain ⟨⟨t198, t201, t202, t203⟩, A2, H⟩ := ob H
  (try dsimp only at H)
  by_cases c3 : (t198.length : Int) = 0
  · rw [if_pos c3] at H
    have c3b0 : ((t198.length : Int) == 0) = true := beq_iff_eq.mpr c3
    have c3b1 : ((t198.length : Int) != 0) = false := bne_eq_false_iff_eq.mpr c3
    clear c3
    obtain rfl := Option.some.inj H
    go_enter Try.func24, Try.ntmps24
    go_wp2_with (first | ((with_reducible refine gate_dst (N := 1) rfl ?_); refine box_event ?hg (N := 1) ?hd (cs := #[.slice A0_0 l0_0.length c0_0, .bool a0_1, .int .i64 a0_2, .slice A0_3 l0_3.length c0_3]) (t := 27) ?hr ?_; (case hd => rfl); (case hg => rfl); (case hr => first | (go_simp; done) | (go_simp; rfl)); intro gb197 hg w4 hbox hb; have BK197 := Aside0.mk hbox; have GW197 := gE HB hg; have GE197 := gE HB hg; replace HB := hB HB hb; clear hb hbox hg; obtain ⟨hcz5_0, hcz5_1, hcz5_2, hcz5_3, hfz5_0, hfz5_1, hfz5_2, hfz5_3⟩ := bc4 BK197) | ((with_reducible refine gate_callee (f := 28) rfl ?_); refine gL (some 4) rfl rfl Try.func28 (by kernel_rfl) rfl #[.agg #[.slice A0_0 l0_0.length c0_0, .bool a0_1, .int .i64 a0_2, .slice A0_3 l0_3.length c0_3]] rfl ?_; (with_reducible refine (wire_sane.calls (fun k_ => k_ < w.heap.size) _ _ l0_0 a0_1 a0_2 (fun k_ => k_ < w.heap.size) _ _ l0_3 t198 t201 t202 t203 _ ?side1 ?side2 A2.out).mono ?_); (case side1 => exact Kd.V_mk HC0_0.out (Kd.F_below (Kd.C_F (Kd.heap_int .u8) HR0_0.out) (bb HB))); (case side2 => exact Kd.V_mk HC0_3.out (Kd.F_below (Kd.C_F (Kd.heap_int .u8) HR0_3.out) (bb HB))); rintro e w6 ⟨v199, v204, rfl, ho0, ho1, hb⟩; refine ⟨_, rfl, ?_⟩; have HO200 := Aside0.mk (Kd.V_lower (Kd.V_mono (ok' := fun k_ => k_ ≠ gb197) ho0 (fun k_ hk_ => oe hk_ (gw GW197) (gw GW197) (Kd.freshB (kk BK197) k_))) (below_size (bb HB))); have HO205 := Aside0.mk (Kd.V_lower (Kd.V_mono (ok' := fun k_ => k_ ≠ gb197) ho1 (fun k_ hk_ => oe hk_ (gw GW197) (gw GW197) (Kd.freshB (kk BK197) k_))) (below_size (bb HB))); replace BK197 := kB BK197 hb; replace HB := hB HB hb; (try clear hb); (try clear hb2); (try clear hk); (try clear hi); (try clear ho0); (try clear ho1); obtain ⟨Ao7, co7, eo7⟩ := Kd.V_slice HO200.out; subst eo7; obtain ⟨hcz8_0, hcz8_1, hcz8_2, hcz8_3, hfz8_0, hfz8_1, hfz8_2, hfz8_3⟩ := bc4 BK197; obtain ⟨Ao9, co9, eo9⟩ := Kd.V_slice HO205.out; subst eo9))
    go_ret
    exact ⟨by first | rfl | (simp [errW_none, errW_some] <;> rfl) | (simp [*, errW_none, errW_some] <;> rfl), by repeat (first | (with_reducible first | exact HB.out | apply below_alloc | apply pw_below_drewN | apply below_drew1 | refine below_set ?_ GE197.out) | exact HB.out)⟩
  · rw [if_neg c3] at H
    have c3b0 : ((t198.length : Int) == 0) = false := beq_eq_false_iff_ne.mpr c3
    have c3b1 : ((t198.length : Int) != 0) = true := bne_iff_ne.mpr c3
    have c3b2 : ¬ (t198 = []) := fun h_ => c3 (by rw [h_]; rfl)
    obtain rfl := Option.some.inj H
    go_enter Try.func24, Try.ntmps24
    go_wp2_with (first | ((with_reducible refine gate_dst (N := 1) rfl ?_); refine box_event ?hg (N := 1) ?hd (cs := #[.slice A0_0 l0_0.length c0_0, .bool a0_1, .int .i64 a0_2, .slice A0_3 l0_3.length c0_3]) (t := 27) ?hr ?_; (case hd => rfl); (case hg => rfl); (case hr => first | (go_simp; done) | (go_simp; rfl)); intro gb197 hg w10 hbox hb; have BK197 := Aside0.mk hbox; have GW197 := gE HB hg; have GE197 := gE HB hg; replace HB := hB HB hb; clear hb hbox hg; obtain ⟨hcz11_0, hcz11_1, hcz11_2, hcz11_3, hfz11_0, hfz11_1, hfz11_2, hfz11_3⟩ := bc4 BK197) | ((with_reducible refine gate_callee (f := 28) rfl ?_); refine gL (some 4) rfl rfl Try.func28 (by kernel_rfl) rfl #[.agg #[.slice A0_0 l0_0.length c0_0, .bool a0_1, .int .i64 a0_2, .slice A0_3 l0_3.length c0_3]] rfl ?_; (with_reducible refine (wire_sane.calls (fun k_ => k_ < w.heap.size) _ _ l0_0 a0_1 a0_2 (fun k_ => k_ < w.heap.size) _ _ l0_3 t198 t201 t202 t203 _ ?side1 ?side2 A2.out).mono ?_); (case side1 => exact Kd.V_mk HC0_0.out (Kd.F_below (Kd.C_F (Kd.heap_int .u8) HR0_0.out) (bb HB))); (case side2 => exact Kd.V_mk HC0_3.out (Kd.F_below (Kd.C_F (Kd.heap_int .u8) HR0_3.out) (bb HB))); rintro e w12 ⟨v199, v204, rfl, ho0, ho1, hb⟩; refine ⟨_, rfl, ?_⟩; have HO200 := Aside0.mk (Kd.V_lower (Kd.V_mono (ok' := fun k_ => k_ ≠ gb197) ho0 (fun k_ hk_ => oe hk_ (gw GW197) (gw GW197) (Kd.freshB (kk BK197) k_))) (below_size (bb HB))); have HO205 := Aside0.mk (Kd.V_lower (Kd.V_mono (ok' := fun k_ => k_ ≠ gb197) ho1 (fun k_ hk_ => oe hk_ (gw GW197) (gw GW197) (Kd.freshB (kk BK197) k_))) (below_size (bb HB))); replace BK197 := kB BK197 hb; replace HB := hB HB hb; (try clear hb); (try clear hb2); (try clear hk); (try clear hi); (try clear ho0); (try clear ho1); obtain ⟨Ao13, co13, eo13⟩ := Kd.V_slice HO200.out; subst eo13; obtain ⟨hcz14_0, hcz14_1, hcz14_2, hcz14_3, hfz14_0, hfz14_1, hfz14_2, hfz14_3⟩ := bc4 BK197; obtain ⟨Ao15, co15, eo15⟩ := Kd.V_slice HO205.out; subst eo15))
    go_ret
    exact ⟨by first | rfl | (simp [errW_none, errW_some] <;> rfl) | (simp [*, errW_none, errW_some] <;> rfl), by repeat (first | (with_reducible first | exact HB.out | apply below_alloc | apply pw_below_drewN | apply below_drew1 | refine below_set ?_ GE197.out) | exact HB.out)⟩

end Go.Proofs.Ytocmnggcbpdnjaa.I
