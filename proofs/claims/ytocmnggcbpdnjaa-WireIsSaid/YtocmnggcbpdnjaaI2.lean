-- Laid by mix.py, a program of this session, with the kit's print.py; walks by hand come out of wip/over.
import Derived.Test.YtocmnggcbpdnjaaI0
import Derived.Test.YtocmnggcbpdnjaaI1
namespace Go.Proofs.Ytocmnggcbpdnjaa.I
open Go.RowKit Go.Proofs.YtocmnggcbpdnjaaW.PrintWords Go.Proofs.YtocmnggcbpdnjaaW.PrintLast Go.Proofs.YtocmnggcbpdnjaaW.PrintMore
attribute [local go_sem] max2_int min2_int max_two min_two max_three min_three max_four min_four   -- for this text's walks alone
set_option linter.unusedVariables false
set_option linter.unusedSimpArgs false

/-! ### wire_Write: function 12 -/
def wire_Write.f (l0_0 : List Int) (a0_1 : Bool) (a0_2 : Int) (l0_3 : List Int) (l1 : List Int) : Option (List Int × Bool × Int × List Int × Int) := (wire_sane.f l0_0 a0_1 a0_2 l0_3).bind fun bt117 => (if bt117.2.2.1 < 0 then (some (bt117.1, bt117.2.1, bt117.2.2.1, bt117.2.2.2, (l1.length : Int))) else (if (l1.length : Int) > bt117.2.2.1 then ((some (([] : List Int) : List Int)).bind fun y126 => (if y126.length + bt117.2.2.2.length < 140737488355328 then ((some (y126 ++ bt117.2.2.2 : List Int)).bind fun y129 => (if 0 ≤ bt117.2.2.1 then (if bt117.2.2.1 ≤ (l1.length : Int) then (if y129.length + (l1.take (bt117.2.2.1 : Int).toNat).length < 140737488355328 then (some (bt117.1, bt117.2.1, wrap64 (bt117.2.2.1 - bt117.2.2.1), (y129 ++ (l1.take (bt117.2.2.1 : Int).toNat)), bt117.2.2.1)) else (none)) else (none)) else (none))) else (none))) else ((some (([] : List Int) : List Int)).bind fun y136 => (if y136.length + bt117.2.2.2.length < 140737488355328 then ((some (y136 ++ bt117.2.2.2 : List Int)).bind fun y139 => (if 0 ≤ (l1.length : Int) then (if (l1.length : Int) ≤ (l1.length : Int) then (if y139.length + (l1.take ((l1.length : Int) : Int).toNat).length < 140737488355328 then (some (bt117.1, bt117.2.1, wrap64 (bt117.2.2.1 - (l1.length : Int)), (y139 ++ (l1.take ((l1.length : Int) : Int).toNat)), (l1.length : Int))) else (none)) else (none)) else (none))) else (none)))))
theorem reads_lies {n : Nat} {P : Nat → Prop} {w : World} {A : Option Addr} {c : Nat} {l : List Int} (h : Lies n P w (.slice A l.length c) l) : ReadsInt w .u8 A l.length l := by
  obtain ⟨A', c', e, _, hC⟩ := h.now
  injection e with e1 e2 e3
  subst e1
  exact Kd.reads_of_C (enc := Value.int .u8) (d := (0 : Int)) (h1 := fun _ => rfl) hC
theorem reads_C {w : World} {A : Option Addr} {n : Nat} {l : List Int} (h : Kd.C (Kd.int .u8) w A n l) : ReadsInt w .u8 A n l := Kd.reads_of_C (enc := Value.int .u8) (d := (0 : Int)) (h1 := fun _ => rfl) h
set_option maxHeartbeats 4000000 in
theorem Write_part (P0 P3 : Nat → Prop) (v0 v3 : Value) (l0 l3 : List Int) (b : Bool) (a : Int) (w : World) (h0 : Kd.V (Kd.int .u8) 5 w w.heap.size P0 v0 l0) (h3 : Kd.V (Kd.int .u8) 5 w w.heap.size P3 v3 l3) (L : List Int) (B : Bool) (N : Int) (O : List Int) (hs : AsIs l0 b a l3 L B N O) (A1 : Option Addr) (c1 : Nat) (l1 : List Int) (hr1 : Kd.C (Kd.int .u8) w A1 l1.length l1) (hc1 : l1.length ≤ c1) (k : Nat) (hk : N = (k : Int)) (hkl : k < l1.length) (hO : O.length + k < 140737488355328) :
    Calls Try.prog 12 #[.agg #[v0, .bool b, .int .i64 a, v3], .slice A1 l1.length c1] w fun e w' => ∃ v, e = .returned (.tuple #[v, .int .i64 (k : Int)]) ∧ WireIs w (fun k => P0 k ∨ P3 k) L B 0 (O ++ l1.take k) w' v := by
  have HR := Aside0.mk hr1
  have HC1 := Aside0.mk hc1
  have hll : l1.length ≤ 9223372036854775807 := hr1.2.1
  clear hr1 hc1
  have H0 := Aside0.mk h0
  have H3 := Aside0.mk h3
  clear h0 h3
  have hu27 := Try.underlying27
  have ha : 0 ≤ N ∧ N ≤ 4096 := by have := asA_bd l0 a; rw [hs.ha] at this; exact this
  obtain ⟨ha0, ha1⟩ := ha
  have hl1 : L.length ≤ 4096 := by have := asI_len l0 a; rw [hs.hi] at this; exact this
  subst hk
  obtain ⟨i5, hi5, _, _, _⟩ := info_parts info5
  have hlt : (k : Int) < (l1.length : Int) := by omega
  go_enter Try.func12, Try.ntmps12
  go_upto_region 2 with (go_at_call 28; refine (sane_as _ _ _ _ _ _ _ _ _ _ _ H0.out H3.out hs).mono ?_; rintro e w1 ⟨⟨A0, c0, A3, c3, rfl, hc0, hc3, g0, g3, hb⟩⟩; obtain ⟨k0, k1, k2, k3, k4, k5, k6, k7, q0, q1, q2, q3, q4, q5, q6, q7, hz⟩ := two_cells hb; have G0 := Aside0.mk g0; have G3 := Aside0.mk g3; have HB := Aside0.mk hb; have HC0 := Aside0.mk hc0; have HC3 := Aside0.mk hc3; clear g0 g3 hb hc0 hc3)
  obtain ⟨W2, hW2, hbx, hli⟩ := boxed_put HB.out (.slice A0 L.length c0) (.bool B) (.int .i64 (k : Int)) (.slice A3 O.length c3)
  rw [hW2]
  have G02 := Aside0.mk (hli _ _ _ G0.out)
  have G32 := Aside0.mk (hli _ _ _ G3.out)
  have HX := Aside0.mk hbx
  clear hW2 hbx hli G0 G3 HB k0 k1 k2 k3 k4 k5 k6 k7 q0 q1 q2 q3 q4 q5 q6 q7 hz
  obtain ⟨k0, k1, k2, k3, k4, k5, k6, k7, q0, q1, q2, q3, q4, q5, q6, q7⟩ := HX.out.cells
  have hz := HX.out.size
  go_upto_region 3 with (fail)
  have hsl := cut_to (P := Try.prog) 25 5 .i64 Try.underlying25 hi5 A1 l1.length c1 (k : Int) (by omega) (by omega) HC1.out
  simp only [Int.toNat_natCast] at hsl
  refine start_ (n := 9) (S := fun w' => w'.cell? ⟨w.heap.size, 3, none⟩ = some (.slice A3 O.length c3)) (ds := [8]) #[false, false, false, false, false, false, false, false, false] (by kernel_rfl) rfl rfl k3 (fun hHeld => ?_)
  refine pure_ (i := 0) (N := some 14) (v := ?_) (a' := ?_) #[true, false, false, false, false, false, false, false, false] rfl rfl (by kernel_rfl) (fun _ _ _ h => h) (Or.inl ⟨by rfl, ?_⟩) ?_ ?_
  rotate_left
  · intro w'
    go_simp
    with_reducible rfl
  rotate_left
  · simp only [Act.put, List.setIfInBounds_toArray, List.set_cons_zero, List.set_cons_succ, i64_w, i32_w]
    rfl
  refine take_ (i := 1) (N := some 15) (v := ?_) (a' := ?_) #[true, true, false, false, false, false, false, false, false] rfl rfl (by kernel_rfl) (fun _ _ _ h => h) (Or.inl ⟨by rfl, ?_⟩) k3 ?_ ?_
  rotate_left
  · intro w' hw'
    have hk0 : w'.cell? ⟨w.heap.size, 3, none⟩ = some (.slice A3 O.length c3) := hw'
    go_simp
    with_reducible rfl
  rotate_left
  · simp only [Act.put, List.setIfInBounds_toArray, List.set_cons_zero, List.set_cons_succ, i64_w, i32_w]
    rfl
  refine pure_ (i := 2) (N := some 16) (v := ?_) (a' := ?_) #[true, true, true, false, false, false, false, false, false] rfl rfl (by kernel_rfl) (fun _ _ _ h => h) (Or.inl ⟨by rfl, ?_⟩) ?_ ?_
  rotate_left
  · intro w'
    go_simp
    with_reducible rfl
  rotate_left
  · simp only [Act.put, List.setIfInBounds_toArray, List.set_cons_zero, List.set_cons_succ, i64_w, i32_w]
    rfl
  refine pure_ (i := 3) (N := some 17) (v := ?_) (a' := ?_) #[true, true, true, true, false, false, false, false, false] rfl rfl (by kernel_rfl) (fun _ _ _ h => h) (Or.inl ⟨by rfl, ?_⟩) ?_ ?_
  rotate_left
  · intro w'
    go_simp
    with_reducible rfl
  rotate_left
  · simp only [Act.put, List.setIfInBounds_toArray, List.set_cons_zero, List.set_cons_succ, i64_w, i32_w]
    rfl
  refine pure_ (i := 4) (N := some 18) (v := ?_) (a' := ?_) #[true, true, true, true, true, false, false, false, false] rfl rfl (by kernel_rfl) (fun _ _ _ h => h) (Or.inl ⟨by rfl, ?_⟩) ?_ ?_
  rotate_left
  · intro w'
    go_simp
    with_reducible rfl
  rotate_left
  · simp only [Act.put, List.setIfInBounds_toArray, List.set_cons_zero, List.set_cons_succ, i64_w, i32_w]
    rfl
  refine one_ (i := 5) (N := some 19) #[true, true, true, true, true, true, false, false, false] rfl rfl (by kernel_rfl) (by decide) (fun K hK => ?_)
  refine value_ (w1 := ?_) (v := ?_) (by rfl) rfl ?_ ?_
  rotate_left 2
  · go_simp
    constructor
    · rfl
    · rfl
  refine hK.out _ _ ((World.cell?_alloc_lt W2 _ _ (by simp; omega)).trans k3) (fun hHeld => ?_)
  clear hK K
  refine norm_ (a' := ?_) ?_ ?_
  rotate_left
  · show Act.put _ (some 19) _ = _
    simp only [Act.put, List.setIfInBounds_toArray, List.set_cons_zero, List.set_cons_succ, i64_w, i32_w]
    rfl
  refine one_ (i := 6) (N := some 20) #[true, true, true, true, true, true, true, false, false] rfl rfl (by kernel_rfl) (by decide) (fun K hK => ?_)
  refine goes_ Try.func29 (by kernel_rfl) rfl #[.slice (some ⟨W2.heap.size, 0, none⟩) 2 2] (by rfl) rfl rfl (by first | rfl | (simp only [List.map_toArray, List.map_cons, List.map_nil]; rfl)) ?_
  refine (Cat.concat_two W2.heap.size 2 A3 c3 O A1 c1 (l1.take k) _ (by simp [go_sem]) (by rw [List.length_take, Nat.min_eq_left (by omega)]; simp [go_sem]) ((reads_lies G32.out).below (below_drew (below_alloc (Below.refl _ _) _))) ((reads_C (Kd.C_take HR.out (by omega))).below (below_drew (below_alloc HX.out.below _))) (by rw [List.length_take]; omega)).mono ?_
  rintro e w3 ⟨⟨v, rfl, ho, hb⟩⟩
  refine ⟨_, rfl, ?_⟩
  obtain ⟨A5, c5, rfl⟩ := own_slice ho
  have HO5 := Aside0.mk ho
  have hb3 := below_step (below_drew (below_alloc (Below.refl W2.heap.size W2) _)) hb
  have HX3 := Aside0.mk (HX.out.later hb3)
  have HG3 := Aside0.mk (G02.out.below hb3)
  clear ho hb hb3
  clear k0 k1 k2 k3 k4 k5 k6 k7 q0 q1 q2 q3 q4 q5 q6 q7
  obtain ⟨k0, k1, k2, k3, k4, k5, k6, k7, q0, q1, q2, q3, q4, q5, q6, q7⟩ := HX3.out.cells
  have hz3 := HX3.out.size
  refine hK.out _ _ k3 (fun hHeld => ?_)
  clear hK K
  refine norm_ (a' := ?_) ?_ ?_
  rotate_left
  · show Act.put _ (some 20) _ = _
    simp only [Act.put, List.setIfInBounds_toArray, List.set_cons_zero, List.set_cons_succ, i64_w, i32_w]
    rfl
  refine pure_ (i := 7) (N := some 21) (v := ?_) (a' := ?_) #[true, true, true, true, true, true, true, true, false] rfl rfl (by kernel_rfl) (fun _ _ _ h => h) (Or.inl ⟨by rfl, ?_⟩) ?_ ?_
  rotate_left
  · intro w'
    go_simp
    with_reducible rfl
  rotate_left
  · simp only [Act.put, List.setIfInBounds_toArray, List.set_cons_zero, List.set_cons_succ, i64_w, i32_w]
    rfl
  refine last_ (i := 8) (N := none) #[true, true, true, true, true, true, true, true, true] rfl rfl (by kernel_rfl) (by decide) (fun K hK => ?_)
  refine skip_ (w1 := ?_) (by rfl) rfl ?_ ?_
  rotate_left 1
  · go_simp
    rfl
  refine hK.out _ _ ?_
  clear hK K
  refine done_ (by kernel_rfl) ?_
  go_wp2_with fail
  have hown := Lies.own (P := fun k => P0 k ∨ P3 k) (n := w.heap.size) HO5.out (by have := HX.out.size; simp; omega)
  simp only [List.length_append, List.length_take, Nat.min_self] at hown
  refine bodyPost_ret (v := .tuple #[.agg #[.slice A0 L.length c0, .bool B, .int .i64 0, .slice A5 (O.length + min (k) l1.length) c5], .int .i64 (k : Int)]) (by simp [results, Try.results12, go_sem, k0, k1, k2, k3, k4, k5, k6, k7, q0, q1, q2, q3, q4, q5, q6, q7, hz3]) rfl ⟨_, rfl, ⟨_, _, rfl, ((((((HG3.out).set 3 _).set 2 _).set1 0 _).set1 1 _).set1 2 _).set1 3 _, ((((((hown).set 3 _).set 2 _).set1 0 _).set1 1 _).set1 2 _).set1 3 _, ((((((HX3.out.below).setCell (by simp) _).setCell (by simp) _).setCell (by simp) _).setCell (by simp) _).setCell (by simp) _).setCell (by simp) _⟩⟩
set_option maxHeartbeats 4000000 in
theorem Write_whole (P0 P3 : Nat → Prop) (v0 v3 : Value) (l0 l3 : List Int) (b : Bool) (a : Int) (w : World) (h0 : Kd.V (Kd.int .u8) 5 w w.heap.size P0 v0 l0) (h3 : Kd.V (Kd.int .u8) 5 w w.heap.size P3 v3 l3) (L : List Int) (B : Bool) (N : Int) (O : List Int) (hs : AsIs l0 b a l3 L B N O) (A1 : Option Addr) (c1 : Nat) (l1 : List Int) (hr1 : Kd.C (Kd.int .u8) w A1 l1.length l1) (hc1 : l1.length ≤ c1) (hk : (l1.length : Int) ≤ N) (hO : O.length + l1.length < 140737488355328) :
    Calls Try.prog 12 #[.agg #[v0, .bool b, .int .i64 a, v3], .slice A1 l1.length c1] w fun e w' => ∃ v, e = .returned (.tuple #[v, .int .i64 (l1.length : Int)]) ∧ WireIs w (fun k => P0 k ∨ P3 k) L B (N - l1.length) (O ++ l1.take l1.length) w' v := by
  have HR := Aside0.mk hr1
  have HC1 := Aside0.mk hc1
  have hll : l1.length ≤ 9223372036854775807 := hr1.2.1
  clear hr1 hc1
  have H0 := Aside0.mk h0
  have H3 := Aside0.mk h3
  clear h0 h3
  have hu27 := Try.underlying27
  have ha : 0 ≤ N ∧ N ≤ 4096 := by have := asA_bd l0 a; rw [hs.ha] at this; exact this
  obtain ⟨ha0, ha1⟩ := ha
  have hl1 : L.length ≤ 4096 := by have := asI_len l0 a; rw [hs.hi] at this; exact this
  obtain ⟨i5, hi5, _, _, _⟩ := info_parts info5
  go_enter Try.func12, Try.ntmps12
  go_upto_region 2 with (go_at_call 28; refine (sane_as _ _ _ _ _ _ _ _ _ _ _ H0.out H3.out hs).mono ?_; rintro e w1 ⟨⟨A0, c0, A3, c3, rfl, hc0, hc3, g0, g3, hb⟩⟩; obtain ⟨k0, k1, k2, k3, k4, k5, k6, k7, q0, q1, q2, q3, q4, q5, q6, q7, hz⟩ := two_cells hb; have G0 := Aside0.mk g0; have G3 := Aside0.mk g3; have HB := Aside0.mk hb; have HC0 := Aside0.mk hc0; have HC3 := Aside0.mk hc3; clear g0 g3 hb hc0 hc3)
  obtain ⟨W2, hW2, hbx, hli⟩ := boxed_put HB.out (.slice A0 L.length c0) (.bool B) (.int .i64 N) (.slice A3 O.length c3)
  rw [hW2]
  have G02 := Aside0.mk (hli _ _ _ G0.out)
  have G32 := Aside0.mk (hli _ _ _ G3.out)
  have HX := Aside0.mk hbx
  clear hW2 hbx hli G0 G3 HB k0 k1 k2 k3 k4 k5 k6 k7 q0 q1 q2 q3 q4 q5 q6 q7 hz
  obtain ⟨k0, k1, k2, k3, k4, k5, k6, k7, q0, q1, q2, q3, q4, q5, q6, q7⟩ := HX.out.cells
  have hz := HX.out.size
  go_upto_region 3 with (fail)
  have hsl := cut_to (P := Try.prog) 25 5 .i64 Try.underlying25 hi5 A1 l1.length c1 (l1.length : Int) (by omega) (by omega) HC1.out
  simp only [Int.toNat_natCast] at hsl
  refine start_ (n := 9) (S := fun w' => w'.cell? ⟨w.heap.size, 3, none⟩ = some (.slice A3 O.length c3)) (ds := [8]) #[false, false, false, false, false, false, false, false, false] (by kernel_rfl) rfl rfl k3 (fun hHeld => ?_)
  refine pure_ (i := 0) (N := some 14) (v := ?_) (a' := ?_) #[true, false, false, false, false, false, false, false, false] rfl rfl (by kernel_rfl) (fun _ _ _ h => h) (Or.inl ⟨by rfl, ?_⟩) ?_ ?_
  rotate_left
  · intro w'
    go_simp
    with_reducible rfl
  rotate_left
  · simp only [Act.put, List.setIfInBounds_toArray, List.set_cons_zero, List.set_cons_succ, i64_w, i32_w]
    rfl
  refine take_ (i := 1) (N := some 15) (v := ?_) (a' := ?_) #[true, true, false, false, false, false, false, false, false] rfl rfl (by kernel_rfl) (fun _ _ _ h => h) (Or.inl ⟨by rfl, ?_⟩) k3 ?_ ?_
  rotate_left
  · intro w' hw'
    have hk0 : w'.cell? ⟨w.heap.size, 3, none⟩ = some (.slice A3 O.length c3) := hw'
    go_simp
    with_reducible rfl
  rotate_left
  · simp only [Act.put, List.setIfInBounds_toArray, List.set_cons_zero, List.set_cons_succ, i64_w, i32_w]
    rfl
  refine pure_ (i := 2) (N := some 16) (v := ?_) (a' := ?_) #[true, true, true, false, false, false, false, false, false] rfl rfl (by kernel_rfl) (fun _ _ _ h => h) (Or.inl ⟨by rfl, ?_⟩) ?_ ?_
  rotate_left
  · intro w'
    go_simp
    with_reducible rfl
  rotate_left
  · simp only [Act.put, List.setIfInBounds_toArray, List.set_cons_zero, List.set_cons_succ, i64_w, i32_w]
    rfl
  refine pure_ (i := 3) (N := some 17) (v := ?_) (a' := ?_) #[true, true, true, true, false, false, false, false, false] rfl rfl (by kernel_rfl) (fun _ _ _ h => h) (Or.inl ⟨by rfl, ?_⟩) ?_ ?_
  rotate_left
  · intro w'
    go_simp
    with_reducible rfl
  rotate_left
  · simp only [Act.put, List.setIfInBounds_toArray, List.set_cons_zero, List.set_cons_succ, i64_w, i32_w]
    rfl
  refine pure_ (i := 4) (N := some 18) (v := ?_) (a' := ?_) #[true, true, true, true, true, false, false, false, false] rfl rfl (by kernel_rfl) (fun _ _ _ h => h) (Or.inl ⟨by rfl, ?_⟩) ?_ ?_
  rotate_left
  · intro w'
    go_simp
    with_reducible rfl
  rotate_left
  · simp only [Act.put, List.setIfInBounds_toArray, List.set_cons_zero, List.set_cons_succ, i64_w, i32_w]
    rfl
  refine one_ (i := 5) (N := some 19) #[true, true, true, true, true, true, false, false, false] rfl rfl (by kernel_rfl) (by decide) (fun K hK => ?_)
  refine value_ (w1 := ?_) (v := ?_) (by rfl) rfl ?_ ?_
  rotate_left 2
  · go_simp
    constructor
    · rfl
    · rfl
  refine hK.out _ _ ((World.cell?_alloc_lt W2 _ _ (by simp; omega)).trans k3) (fun hHeld => ?_)
  clear hK K
  refine norm_ (a' := ?_) ?_ ?_
  rotate_left
  · show Act.put _ (some 19) _ = _
    simp only [Act.put, List.setIfInBounds_toArray, List.set_cons_zero, List.set_cons_succ, i64_w, i32_w]
    rfl
  refine one_ (i := 6) (N := some 20) #[true, true, true, true, true, true, true, false, false] rfl rfl (by kernel_rfl) (by decide) (fun K hK => ?_)
  refine goes_ Try.func29 (by kernel_rfl) rfl #[.slice (some ⟨W2.heap.size, 0, none⟩) 2 2] (by rfl) rfl rfl (by first | rfl | (simp only [List.map_toArray, List.map_cons, List.map_nil]; rfl)) ?_
  refine (Cat.concat_two W2.heap.size 2 A3 c3 O A1 c1 (l1.take l1.length) _ (by simp [go_sem]) (by rw [List.length_take, Nat.min_eq_left (by omega)]; simp [go_sem]) ((reads_lies G32.out).below (below_drew (below_alloc (Below.refl _ _) _))) ((reads_C (Kd.C_take HR.out (by omega))).below (below_drew (below_alloc HX.out.below _))) (by rw [List.length_take]; omega)).mono ?_
  rintro e w3 ⟨⟨v, rfl, ho, hb⟩⟩
  refine ⟨_, rfl, ?_⟩
  obtain ⟨A5, c5, rfl⟩ := own_slice ho
  have HO5 := Aside0.mk ho
  have hb3 := below_step (below_drew (below_alloc (Below.refl W2.heap.size W2) _)) hb
  have HX3 := Aside0.mk (HX.out.later hb3)
  have HG3 := Aside0.mk (G02.out.below hb3)
  clear ho hb hb3
  clear k0 k1 k2 k3 k4 k5 k6 k7 q0 q1 q2 q3 q4 q5 q6 q7
  obtain ⟨k0, k1, k2, k3, k4, k5, k6, k7, q0, q1, q2, q3, q4, q5, q6, q7⟩ := HX3.out.cells
  have hz3 := HX3.out.size
  refine hK.out _ _ k3 (fun hHeld => ?_)
  clear hK K
  refine norm_ (a' := ?_) ?_ ?_
  rotate_left
  · show Act.put _ (some 20) _ = _
    simp only [Act.put, List.setIfInBounds_toArray, List.set_cons_zero, List.set_cons_succ, i64_w, i32_w]
    rfl
  refine pure_ (i := 7) (N := some 21) (v := ?_) (a' := ?_) #[true, true, true, true, true, true, true, true, false] rfl rfl (by kernel_rfl) (fun _ _ _ h => h) (Or.inl ⟨by rfl, ?_⟩) ?_ ?_
  rotate_left
  · intro w'
    go_simp
    with_reducible rfl
  rotate_left
  · simp only [Act.put, List.setIfInBounds_toArray, List.set_cons_zero, List.set_cons_succ, i64_w, i32_w]
    rfl
  refine last_ (i := 8) (N := none) #[true, true, true, true, true, true, true, true, true] rfl rfl (by kernel_rfl) (by decide) (fun K hK => ?_)
  refine skip_ (w1 := ?_) (by rfl) rfl ?_ ?_
  rotate_left 1
  · go_simp
    rfl
  refine hK.out _ _ ?_
  clear hK K
  refine done_ (by kernel_rfl) ?_
  go_wp2_with fail
  have hown := Lies.own (P := fun k => P0 k ∨ P3 k) (n := w.heap.size) HO5.out (by have := HX.out.size; simp; omega)
  simp only [List.length_append, List.length_take, Nat.min_self] at hown
  refine bodyPost_ret (v := .tuple #[.agg #[.slice A0 L.length c0, .bool B, .int .i64 (N - l1.length), .slice A5 (O.length + l1.length) c5], .int .i64 (l1.length : Int)]) (by simp [results, Try.results12, go_sem, k0, k1, k2, k3, k4, k5, k6, k7, q0, q1, q2, q3, q4, q5, q6, q7, hz3]) rfl ⟨_, rfl, ⟨_, _, rfl, ((((((HG3.out).set 3 _).set 2 _).set1 0 _).set1 1 _).set1 2 _).set1 3 _, ((((((hown).set 3 _).set 2 _).set1 0 _).set1 1 _).set1 2 _).set1 3 _, ((((((HX3.out.below).setCell (by simp) _).setCell (by simp) _).setCell (by simp) _).setCell (by simp) _).setCell (by simp) _).setCell (by simp) _⟩⟩

set_option maxHeartbeats 1000000 in
theorem wire_Write.calls (P0_0_ : Nat → Prop) (A0_0 : Option Addr) (c0_0 : Nat) (l0_0 : List Int) (a0_1 : Bool) (a0_2 : Int) (P0_3_ : Nat → Prop) (A0_3 : Option Addr) (c0_3 : Nat) (l0_3 : List Int) (A1 : Option Addr) (c1 : Nat) (l1 : List Int) (r1 : List Int) (r2 : Bool) (r3 : Int) (r4 : List Int) (r5 : Int) (w : World) (hs0_0 : Kd.V (Kd.int .u8) 5 w w.heap.size (fun k_ => P0_0_ k_) (.slice A0_0 l0_0.length c0_0) l0_0) (hs0_3 : Kd.V (Kd.int .u8) 5 w w.heap.size (fun k_ => P0_3_ k_) (.slice A0_3 l0_3.length c0_3) l0_3) (hr1 : Kd.C (Kd.int .u8) w A1 l1.length l1) (hc1 : l1.length ≤ c1) (h : wire_Write.f l0_0 a0_1 a0_2 l0_3 l1 = some (r1, r2, r3, r4, r5)) :
    Calls Try.prog 12 #[.agg #[.slice A0_0 l0_0.length c0_0, .bool a0_1, .int .i64 a0_2, .slice A0_3 l0_3.length c0_3], .slice A1 l1.length c1] w fun e w' => ∃ v0_ v3_ : Value, e = .returned (.tuple #[.agg #[v0_, .bool r2, .int .i64 r3, v3_], .int .i64 r5]) ∧ Kd.V (Kd.int .u8) 5 w' w.heap.size (fun k_ => ((P0_0_ k_ ∨ P0_3_ k_) ∨ w.heap.size ≤ k_)) v0_ r1 ∧ Kd.V (Kd.int .u8) 5 w' w.heap.size (fun k_ => ((P0_0_ k_ ∨ P0_3_ k_) ∨ w.heap.size ≤ k_)) v3_ r4 ∧ Below w.heap.size w w' := by
  obtain ⟨L, B, N, O, hs⟩ := AsIs.made l0_0 a0_1 a0_2 l0_3
  unfold wire_Write.f at h
  rw [sane_val, hs.hi, hs.hb, hs.ha, hs.ho, Option.bind_some] at h
  dsimp only at h
  have ha := asA_bd l0_0 a0_2
  have hl := asI_len l0_0 a0_2
  rw [hs.ha] at ha
  rw [hs.hi] at hl
  rw [if_neg (show ¬ N < 0 by omega)] at h
  by_cases c1 : (l1.length : Int) > N
  · rw [if_pos c1] at h
    obtain ⟨k, rfl⟩ : ∃ k : Nat, N = (k : Int) := ⟨N.toNat, by omega⟩
    have ht : (l1.take ((k : Int) : Int).toNat).length = k := by rw [Int.toNat_natCast, List.length_take]; omega
    simp only [Option.bind_some, List.nil_append, List.length_nil, Nat.zero_add] at h
    by_cases c2 : O.length < 140737488355328
    · rw [if_pos c2, if_pos (show 0 ≤ (k : Int) by omega), if_pos (show (k : Int) ≤ (l1.length : Int) by omega), ht] at h
      by_cases c3 : O.length + k < 140737488355328
      · rw [if_pos c3, show wrap64 ((k : Int) - (k : Int)) = 0 by unfold wrap64; omega, Int.toNat_natCast] at h
        simp only [Option.some.injEq, Prod.mk.injEq] at h
        obtain ⟨rfl, rfl, rfl, rfl, rfl⟩ := h
        refine (Write_part _ _ _ _ _ _ _ _ w hs0_0 hs0_3 _ _ _ _ hs _ _ l1 hr1 hc1 k rfl (by omega) c3).mono fun e w' hq => ?_
        obtain ⟨v, he, hw⟩ := hq
        obtain ⟨v0, v3, rfl, h0, h3, hb⟩ := hw.told
        exact ⟨v0, v3, he, h0, h3, hb⟩
      · rw [if_neg c3] at h; cases h
    · rw [if_neg c2] at h; cases h
  · rw [if_neg c1] at h
    simp only [Option.bind_some, List.nil_append, List.length_nil, Nat.zero_add] at h
    by_cases c2 : O.length < 140737488355328
    · rw [if_pos c2, if_pos (show 0 ≤ (l1.length : Int) by omega), if_pos (Int.le_refl _), Int.toNat_natCast] at h
      by_cases c3 : O.length + l1.length < 140737488355328
      · rw [if_pos (by rw [List.length_take]; omega), show wrap64 (N - (l1.length : Int)) = N - (l1.length : Int) by unfold wrap64; omega] at h
        simp only [Option.some.injEq, Prod.mk.injEq] at h
        obtain ⟨rfl, rfl, rfl, rfl, rfl⟩ := h
        refine (Write_whole _ _ _ _ _ _ _ _ w hs0_0 hs0_3 _ _ _ _ hs _ _ l1 hr1 hc1 (by omega) c3).mono fun e w' hq => ?_
        obtain ⟨v, he, hw⟩ := hq
        obtain ⟨v0, v3, rfl, h0, h3, hb⟩ := hw.told
        exact ⟨v0, v3, he, h0, h3, hb⟩
      · rw [if_neg (by rw [List.length_take]; omega)] at h; cases h
    · rw [if_neg c2] at h; cases h

end Go.Proofs.Ytocmnggcbpdnjaa.I
