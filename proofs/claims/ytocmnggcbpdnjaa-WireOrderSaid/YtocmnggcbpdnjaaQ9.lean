-- Laid by mix.py, a program of this session, with the kit's print.py; walks by hand come out of wip/over.
import Derived.Test.YtocmnggcbpdnjaaQ0
import Derived.Test.YtocmnggcbpdnjaaQ1
namespace Go.Proofs.Ytocmnggcbpdnjaa.Q
open Go.RowKit Go.Proofs.YtocmnggcbpdnjaaW.PrintWords Go.Proofs.YtocmnggcbpdnjaaW.PrintLast Go.Proofs.YtocmnggcbpdnjaaW.PrintMore
attribute [local go_sem] max2_int min2_int max_two min_two max_three min_three max_four min_four   -- for this text's walks alone
set_option linter.unusedVariables false
set_option linter.unusedSimpArgs false

/-! ### wire_Finish: function 26 -/
def wire_Finish.f (l0_0 : List Int) (a0_1 : Bool) (a0_2 : Int) (l0_3 : List Int) : Option (List Int × Bool × Int × List Int) := (wire_sane.f l0_0 a0_1 a0_2 l0_3).bind fun bt454 => (some (bt454.1, true, bt454.2.2.1, bt454.2.2.2))
set_option maxHeartbeats 2000000 in
theorem Finish_walk (P0 P3 : Nat → Prop) (v0 v3 : Value) (l0 l3 : List Int) (b : Bool) (a : Int) (w : World) (h0 : Kd.V (Kd.int .u8) 5 w w.heap.size P0 v0 l0) (h3 : Kd.V (Kd.int .u8) 5 w w.heap.size P3 v3 l3) (L : List Int) (B : Bool) (N : Int) (O : List Int) (hs : AsIs l0 b a l3 L B N O) :
    Calls Try.prog 26 #[.agg #[v0, .bool b, .int .i64 a, v3]] w fun e w' => ∃ v, e = .returned v ∧ WireIs w (fun k => P0 k ∨ P3 k) L true N O w' v := by
  have H0 := Aside0.mk h0
  have H3 := Aside0.mk h3
  clear h0 h3
  have hu27 := Try.underlying27
  have ha : 0 ≤ N ∧ N ≤ 4096 := by have := asA_bd l0 a; rw [hs.ha] at this; exact this
  obtain ⟨ha0, ha1⟩ := ha
  have hl1 : L.length ≤ 4096 := by have := asI_len l0 a; rw [hs.hi] at this; exact this
  go_enter Try.func26, Try.ntmps26
  go_upto_region 2 with (go_at_call 28; refine (sane_as _ _ _ _ _ _ _ _ _ _ _ H0.out H3.out hs).mono ?_; rintro e w1 ⟨⟨A0, c0, A3, c3, rfl, hc0, hc3, g0, g3, hb⟩⟩; obtain ⟨k0, k1, k2, k3, k4, k5, k6, k7, q0, q1, q2, q3, q4, q5, q6, q7, hz⟩ := two_cells hb; have G0 := Aside0.mk g0; have G3 := Aside0.mk g3; have HB := Aside0.mk hb; have HC0 := Aside0.mk hc0; have HC3 := Aside0.mk hc3; clear g0 g3 hb hc0 hc3)
  obtain ⟨W2, hW2, hbx, hli⟩ := boxed_put HB.out (.slice A0 L.length c0) (.bool B) (.int .i64 N) (.slice A3 O.length c3)
  rw [hW2]
  have G02 := Aside0.mk (hli _ _ _ G0.out)
  have G32 := Aside0.mk (hli _ _ _ G3.out)
  have HX := Aside0.mk hbx
  clear hW2 hbx hli G0 G3 HB k0 k1 k2 k3 k4 k5 k6 k7 q0 q1 q2 q3 q4 q5 q6 q7 hz
  obtain ⟨k0, k1, k2, k3, k4, k5, k6, k7, q0, q1, q2, q3, q4, q5, q6, q7⟩ := HX.out.cells
  have hz := HX.out.size
  go_wp2_with fail
  refine bodyPost_ret (v := .agg #[.slice A0 L.length c0, .bool true, .int .i64 N, .slice A3 O.length c3]) (by simp [results, Try.results26, go_sem, k0, k1, k2, k3, k4, k5, k6, k7, q0, q1, q2, q3, q4, q5, q6, q7, hz]) rfl ⟨_, rfl, ⟨_, _, rfl, (((((G02.out).set 1 _).set1 0 _).set1 1 _).set1 2 _).set1 3 _, (((((G32.out).set 1 _).set1 0 _).set1 1 _).set1 2 _).set1 3 _, (((((HX.out.below).setCell (by simp) _).setCell (by simp) _).setCell (by simp) _).setCell (by simp) _).setCell (by simp) _⟩⟩
theorem wire_Finish.calls (P0_0_ : Nat → Prop) (A0_0 : Option Addr) (c0_0 : Nat) (l0_0 : List Int) (a0_1 : Bool) (a0_2 : Int) (P0_3_ : Nat → Prop) (A0_3 : Option Addr) (c0_3 : Nat) (l0_3 : List Int) (r1 : List Int) (r2 : Bool) (r3 : Int) (r4 : List Int) (w : World) (hs0_0 : Kd.V (Kd.int .u8) 5 w w.heap.size (fun k_ => P0_0_ k_) (.slice A0_0 l0_0.length c0_0) l0_0) (hs0_3 : Kd.V (Kd.int .u8) 5 w w.heap.size (fun k_ => P0_3_ k_) (.slice A0_3 l0_3.length c0_3) l0_3) (h : wire_Finish.f l0_0 a0_1 a0_2 l0_3 = some (r1, r2, r3, r4)) :
    Calls Try.prog 26 #[.agg #[.slice A0_0 l0_0.length c0_0, .bool a0_1, .int .i64 a0_2, .slice A0_3 l0_3.length c0_3]] w fun e w' => ∃ v0_ v3_ : Value, e = .returned (.agg #[v0_, .bool r2, .int .i64 r3, v3_]) ∧ Kd.V (Kd.int .u8) 5 w' w.heap.size (fun k_ => ((P0_0_ k_ ∨ P0_3_ k_) ∨ w.heap.size ≤ k_)) v0_ r1 ∧ Kd.V (Kd.int .u8) 5 w' w.heap.size (fun k_ => ((P0_0_ k_ ∨ P0_3_ k_) ∨ w.heap.size ≤ k_)) v3_ r4 ∧ Below w.heap.size w w' := by
  obtain ⟨L, B, N, O, hs⟩ := AsIs.made l0_0 a0_1 a0_2 l0_3
  unfold wire_Finish.f at h
  rw [sane_val, hs.hi, hs.hb, hs.ha, hs.ho, Option.bind_some] at h
  simp only [Option.some.injEq, Prod.mk.injEq] at h
  obtain ⟨rfl, rfl, rfl, rfl⟩ := h
  refine (Finish_walk _ _ _ _ _ _ _ _ w hs0_0 hs0_3 _ _ _ _ hs).mono fun e w' hq => ?_
  obtain ⟨v, he, hw⟩ := hq
  obtain ⟨v0, v3, rfl, h0, h3, hb⟩ := hw.told
  exact ⟨v0, v3, he, h0, h3, hb⟩

end Go.Proofs.Ytocmnggcbpdnjaa.Q
