-- Laid by mix.py, a program of this session, with the kit's print.py; walks by hand come out of wip/over.
import Derived.Lib.SlBytesConst
import Derived.Test.YtocmnggcbpdnjaaQ0
import Derived.Test.YtocmnggcbpdnjaaQ1
import Derived.Test.YtocmnggcbpdnjaaQ2
import Derived.Test.YtocmnggcbpdnjaaQ3
namespace Go.Proofs.Ytocmnggcbpdnjaa.Q
open Go.RowKit Go.Proofs.YtocmnggcbpdnjaaW.PrintWords Go.Proofs.YtocmnggcbpdnjaaW.PrintLast Go.Proofs.YtocmnggcbpdnjaaW.PrintMore
attribute [local go_sem] max2_int min2_int max_two min_two max_three min_three max_four min_four   -- for this text's walks alone
set_option linter.unusedVariables false
set_option linter.unusedSimpArgs false

/-! ### pentroughlaw19_awake: function 9 -/
def pentroughlaw19_awake.f  : Option (Bool) := some true
-- import Derived.Lib.SlBytesConst
/-- Bytes that are read: a slice with its length told. -/
def Rw (w : World) (A : Option Addr) (n c : Nat) (l : List Int) : Prop := l.length = n ∧ Kd.V (Kd.int .u8) 5 w 0 (fun _ => True) (.slice A n c) l
theorem Rw.below {w w' : World} {A : Option Addr} {n c : Nat} {l : List Int} (h : Rw w A n c l) (hb : Below w.heap.size w w') : Rw w' A n c l := ⟨h.1, Kd.V_below h.2 hb⟩
theorem Rw.alloc {w : World} {A : Option Addr} {n c : Nat} {l : List Int} (h : Rw w A n c l) (o : Obj) : Rw (w.alloc o) A n c l := ⟨h.1, Kd.V_alloc h.2 o⟩
theorem Rw.nil (w : World) : Rw w none 0 0 [] := ⟨rfl, Kd.V_nil _ _ _ _ _⟩
theorem Rw.lit (w : World) (g : Nat) (hg : g = w.heap.size) (xs : List Int) (n : Nat) (hn : xs.length = n) (h : n ≤ 9223372036854775807) (cs : Array Value) (hcs : cs = (nums .u8 xs).toArray) (fr : Nat × Nat) : Rw (w.alloc (.cells cs 5 fr)) (some ⟨g, 0, none⟩) n n xs := by
  subst hg
  subst hn
  subst hcs
  refine ⟨rfl, _, _, rfl, Nat.le_refl _, ?_⟩
  refine Kd.F_mono (Kd.C_F (Kd.heap_int .u8) ?_) (fun _ _ => trivial)
  refine Kd.C_of_reads (enc := Value.int .u8) (d := (0 : Int)) (h1 := fun _ => rfl) ⟨rfl, h, fun _ => ⟨_, rfl, fun j hj => ?_⟩⟩
  rw [add_plain]
  unfold World.cell? World.alloc
  simp only [Array.getElem?_push_size]
  simp [nums, List.getD_eq_getElem?_getD, List.getElem?_eq_getElem hj]
theorem Rw.str {w : World} {A : Option Addr} {n c : Nat} {l : List Int} (h : Rw w A n c l) : ∀ W : World, Below w.heap.size w W → (convert 25 9 (.slice A n c)).run Try.prog W = .ok (.string (strOfNums l)) W := fun W hb => by
  obtain ⟨hn, h2⟩ := h.below hb
  subst hn
  exact Kd.C_string Try.underlying25 Try.underlying5 Try.underlying9 (Kd.V_reads' h2).2.2
theorem Rw.of {w : World} {b : Nat} {P : Nat → Prop} {v : Value} {l : List Int} (h : Kd.V (Kd.int .u8) 5 w b P v l) (n : Nat) (hn : l.length = n) : ∃ A c, v = .slice A n c ∧ Rw w A n c l := by
  subst hn
  obtain ⟨A, c, rfl⟩ := Kd.V_slice h
  exact ⟨A, c, rfl, rfl, Kd.V_mono h (fun _ _ => trivial)⟩
theorem Rw.V {w : World} {A : Option Addr} {c : Nat} {l : List Int} (h : Rw w A l.length c l) (b : Nat) : Kd.V (Kd.int .u8) 5 w b (fun _ => True) (.slice A l.length c) l := h.2
theorem Rw.C {w : World} {A : Option Addr} {c : Nat} {l : List Int} (h : Rw w A l.length c l) : Kd.C (Kd.int .u8) w A l.length l ∧ l.length ≤ c := ⟨(Kd.V_reads' h.2).2.2, (Kd.V_reads' h.2).2.1⟩
section
variable (A0 : Option Addr) (n0 c0 : Nat) (l0 : List Int) (b : Bool) (a : Int) (A3 : Option Addr) (n3 c3 : Nat) (l3 : List Int) (w : World) (h0 : Rw w A0 n0 c0 l0) (h3 : Rw w A3 n3 c3 l3)
include h0 h3
theorem grant_N (n : Int) (r1 : List Int) (n1 : Nat) (r2 : Bool) (r3 : Int) (r4 : List Int) (n4 : Nat) (r5 : Int) (hn1 : r1.length = n1) (hn4 : r4.length = n4) (hR : wire_Grant.f l0 b a l3 n = some (r1, r2, r3, r4, r5)) :
    Calls Try.prog 11 #[.agg #[.slice A0 n0 c0, .bool b, .int .i64 a, .slice A3 n3 c3], .int .i64 n] w fun e w' => Aside0 (∃ A0' c0' A3' c3', e = .returned (.tuple #[.agg #[.slice A0' n1 c0', .bool r2, .int .i64 r3, .slice A3' n4 c3'], .int .i64 r5]) ∧ Rw w' A0' n1 c0' r1 ∧ Rw w' A3' n4 c3' r4 ∧ Below w.heap.size w w') := by
  obtain ⟨rfl, h0⟩ := h0
  obtain ⟨rfl, h3⟩ := h3
  refine (wire_Grant.calls _ A0 c0 l0 b a _ A3 c3 l3 n _ _ _ _ _ w h0 h3 hR).mono fun e w' ⟨v0, v3, he, g0, g3, hb⟩ => ?_
  obtain ⟨B0, d0, rfl, f0⟩ := Rw.of g0 n1 hn1
  obtain ⟨B3, d3, rfl, f3⟩ := Rw.of g3 n4 hn4
  exact ⟨B0, d0, B3, d3, he, f0, f3, hb⟩
theorem write_N (A : Option Addr) (m c : Nat) (l : List Int) (hl : Rw w A m c l) (r1 : List Int) (n1 : Nat) (r2 : Bool) (r3 : Int) (r4 : List Int) (n4 : Nat) (r5 : Int) (hn1 : r1.length = n1) (hn4 : r4.length = n4) (hR : wire_Write.f l0 b a l3 l = some (r1, r2, r3, r4, r5)) :
    Calls Try.prog 12 #[.agg #[.slice A0 n0 c0, .bool b, .int .i64 a, .slice A3 n3 c3], .slice A m c] w fun e w' => Aside0 (∃ A0' c0' A3' c3', e = .returned (.tuple #[.agg #[.slice A0' n1 c0', .bool r2, .int .i64 r3, .slice A3' n4 c3'], .int .i64 r5]) ∧ Rw w' A0' n1 c0' r1 ∧ Rw w' A3' n4 c3' r4 ∧ Below w.heap.size w w') := by
  obtain ⟨rfl, h0⟩ := h0
  obtain ⟨rfl, h3⟩ := h3
  obtain ⟨rfl, hl⟩ := hl
  refine (wire_Write.calls _ A0 c0 l0 b a _ A3 c3 l3 A c l _ _ _ _ _ w h0 h3 (Kd.V_reads' hl).2.2 (Kd.V_reads' hl).2.1 hR).mono fun e w' ⟨v0, v3, he, g0, g3, hb⟩ => ?_
  obtain ⟨B0, d0, rfl, f0⟩ := Rw.of g0 n1 hn1
  obtain ⟨B3, d3, rfl, f3⟩ := Rw.of g3 n4 hn4
  exact ⟨B0, d0, B3, d3, he, f0, f3, hb⟩
theorem arrive_N (A : Option Addr) (m c : Nat) (l : List Int) (hl : Rw w A m c l) (r1 : List Int) (n1 : Nat) (r2 : Bool) (r3 : Int) (r4 : List Int) (n4 : Nat) (r5 : Int) (hn1 : r1.length = n1) (hn4 : r4.length = n4) (hR : wire_Arrive.f l0 b a l3 l = some (r1, r2, r3, r4, r5)) :
    Calls Try.prog 13 #[.agg #[.slice A0 n0 c0, .bool b, .int .i64 a, .slice A3 n3 c3], .slice A m c] w fun e w' => Aside0 (∃ A0' c0' A3' c3', e = .returned (.tuple #[.agg #[.slice A0' n1 c0', .bool r2, .int .i64 r3, .slice A3' n4 c3'], .int .i64 r5]) ∧ Rw w' A0' n1 c0' r1 ∧ Rw w' A3' n4 c3' r4 ∧ Below w.heap.size w w') := by
  obtain ⟨rfl, h0⟩ := h0
  obtain ⟨rfl, h3⟩ := h3
  obtain ⟨rfl, hl⟩ := hl
  refine (wire_Arrive.calls _ A0 c0 l0 b a _ A3 c3 l3 A c l _ _ _ _ _ w h0 h3 (Kd.V_reads' hl).2.2 (Kd.V_reads' hl).2.1 hR).mono fun e w' ⟨v0, v3, he, g0, g3, hb⟩ => ?_
  obtain ⟨B0, d0, rfl, f0⟩ := Rw.of g0 n1 hn1
  obtain ⟨B3, d3, rfl, f3⟩ := Rw.of g3 n4 hn4
  exact ⟨B0, d0, B3, d3, he, f0, f3, hb⟩
theorem read_N (n : Int) (r1 : List Int) (n1 : Nat) (r2 : Bool) (r3 : Int) (r4 : List Int) (n4 : Nat) (r5 : List Int) (n5 : Nat) (hn1 : r1.length = n1) (hn4 : r4.length = n4) (hn5 : r5.length = n5) (hR : wire_Read.f l0 b a l3 n = some (r1, r2, r3, r4, r5)) :
    Calls Try.prog 17 #[.agg #[.slice A0 n0 c0, .bool b, .int .i64 a, .slice A3 n3 c3], .int .i64 n] w fun e w' => Aside0 (∃ A0' c0' A3' c3' A5 c5, e = .returned (.tuple #[.agg #[.slice A0' n1 c0', .bool r2, .int .i64 r3, .slice A3' n4 c3'], .slice A5 n5 c5]) ∧ Rw w' A0' n1 c0' r1 ∧ Rw w' A3' n4 c3' r4 ∧ Rw w' A5 n5 c5 r5 ∧ Below w.heap.size w w') := by
  obtain ⟨rfl, h0⟩ := h0
  obtain ⟨rfl, h3⟩ := h3
  refine (wire_Read.calls _ A0 c0 l0 b a _ A3 c3 l3 n _ _ _ _ _ w h0 h3 hR).mono fun e w' ⟨v0, v3, v5, he, g0, g3, g5, hb⟩ => ?_
  obtain ⟨B0, d0, rfl, f0⟩ := Rw.of g0 n1 hn1
  obtain ⟨B3, d3, rfl, f3⟩ := Rw.of g3 n4 hn4
  obtain ⟨B5, d5, rfl, f5⟩ := Rw.of g5 n5 hn5
  exact ⟨B0, d0, B3, d3, B5, d5, he, f0, f3, f5, hb⟩
theorem sane_N (r : Bool) (hR : wire_Sane.f l0 b a l3 = some r) :
    Calls Try.prog 15 #[.agg #[.slice A0 n0 c0, .bool b, .int .i64 a, .slice A3 n3 c3]] w fun e w' => e = .returned (.bool r) ∧ Below w.heap.size w w' := by
  obtain ⟨rfl, h0⟩ := h0
  obtain ⟨rfl, h3⟩ := h3
  exact wire_Sane.calls A0 c0 l0 b a A3 c3 l3 r w (Kd.V_reads' h0).2.2 (Kd.V_reads' h0).2.1 (Kd.V_reads' h3).2.2 (Kd.V_reads' h3).2.1 hR
theorem waits_N (r : Bool) (hR : wire_Waits.f l0 b a l3 = some r) :
    Calls Try.prog 24 #[.agg #[.slice A0 n0 c0, .bool b, .int .i64 a, .slice A3 n3 c3]] w fun e w' => e = .returned (.bool r) ∧ Below w.heap.size w w' := by
  obtain ⟨rfl, h0⟩ := h0
  obtain ⟨rfl, h3⟩ := h3
  exact wire_Waits.calls A0 c0 l0 b a A3 c3 l3 r w (Kd.V_reads' h0).2.2 (Kd.V_reads' h0).2.1 (Kd.V_reads' h3).2.2 (Kd.V_reads' h3).2.1 hR
end
theorem v_grant : wire_Grant.f [] false 0 [] 3 = some ([], false, 3, [], 0) := by simp [wire_Grant.f, wire_sane.f, wire_Sane.f, wrap64]
theorem v_write : wire_Write.f [] false 3 [] [97, 98, 99, 100] = some ([], false, 0, [97, 98, 99], 3) := by simp [wire_Write.f, wire_sane.f, wire_Sane.f, wrap64]
theorem v_arrive : wire_Arrive.f [] false 0 [97, 98, 99] [120, 121] = some ([120, 121], false, 0, [97, 98, 99], 0) := by simp [wire_Arrive.f, wire_sane.f, wire_Sane.f, wrap64]
theorem v_read : wire_Read.f [120, 121] false 0 [97, 98, 99] 1 = some ([121], false, 0, [97, 98, 99], [120]) := by simp [wire_Read.f, wire_sane.f, wire_Sane.f, wrap64]
theorem v_sane : wire_Sane.f [121] false 0 [97, 98, 99] = some true := by simp [wire_Sane.f]
theorem v_waits : wire_Waits.f [] false 0 [97, 98, 99] = some true := by simp [wire_Waits.f, wire_sane.f, wire_Sane.f]
theorem v_waits2 : wire_Waits.f [120, 121] false 0 [97, 98, 99] = some false := by simp [wire_Waits.f, wire_sane.f, wire_Sane.f]
theorem kc (w : World) (C : Array Value) (n c g : Nat) (hg : g = w.heap.size) : (convert 25 25 (.slice (some ⟨g, 0, none⟩) n c)).run Try.prog (w.alloc (.cells C 5)) = .ok (.slice (some ⟨g, 0, none⟩) n c) (w.alloc (.cells C 5 (C.size, C.size + 1))) := by subst hg; exact Lib.run_convert_bytes_const (P := Try.prog) w 25 5 C n c Try.underlying25 Try.underlying5
/-- A block of four cells that was just made, behind a call. -/
theorem four_cells {w w1 : World} {a0 a1 a2 a3 : Value} {s : TypeId} {W : World} (hW : ∀ o, o < 4 → W.cell? ⟨w.heap.size, o, none⟩ = (w.alloc (.cells #[a0, a1, a2, a3] s)).cell? ⟨w.heap.size, o, none⟩) (hlt : w.heap.size < W.heap.size) (hb : Below W.heap.size W w1) :
    w1.cell? ⟨w.heap.size, 0, none⟩ = some a0 ∧ w1.cell? ⟨w.heap.size, 1, none⟩ = some a1 ∧ w1.cell? ⟨w.heap.size, 2, none⟩ = some a2 ∧ w1.cell? ⟨w.heap.size, 3, none⟩ = some a3 := by
  obtain ⟨hc, _⟩ := bcell hb
  refine ⟨?_, ?_, ?_, ?_⟩ <;> (rw [hc _ _ hlt, hW _ (by omega)]; simp [go_sem])
set_option maxRecDepth 100000 in
set_option maxHeartbeats 2000000 in
theorem awake_walk (w : World) : Calls Try.prog 9 #[] w fun e w' => e = .returned (.bool true) ∧ Aside0 (Below w.heap.size w w') := by
  have hu27 := Try.underlying27
  have hcv := kc
  go_enter Try.func9, Try.ntmps9
  go_wp2_with fail
  refine (grant_N _ _ _ [] false 0 _ _ _ [] _ (Rw.nil _) (Rw.nil _) 3 [] 0 false 3 [] 0 0 rfl rfl v_grant).mono ?_
  rintro e w1 ⟨⟨A0, c0, A3, c3, rfl, g0, g3, hb⟩⟩
  have HB1 := Aside0.mk hb
  have G0 := Aside0.mk g0
  have G3 := Aside0.mk g3
  clear hb g0 g3
  go_wp2_with fail
  refine (write_N _ _ _ [] false 3 _ _ _ [] _ ((G0.out.alloc _).alloc _) ((G3.out.alloc _).alloc _) _ 4 4 [97, 98, 99, 100] (Rw.lit (w1.alloc _) (w1.heap.size + 1) (by simp) [97, 98, 99, 100] 4 rfl (by decide) #[.int .u8 97, .int .u8 98, .int .u8 99, .int .u8 100] rfl _) [] 0 false 0 [97, 98, 99] 3 3 rfl rfl v_write).mono ?_
  rintro e w2 ⟨⟨A4, c4, A5, c5, rfl, g0, g3, hb⟩⟩
  have HB2 := Aside0.mk (below_step HB1.out (below_two hb))
  have G4 := Aside0.mk g0
  have G5 := Aside0.mk g3
  clear hb g0 g3 G0 G3 HB1
  go_wp2_with fail
  refine (arrive_N _ _ _ [] false 0 _ _ _ [97, 98, 99] _ ((G4.out.alloc _).alloc _) ((G5.out.alloc _).alloc _) _ 2 2 [120, 121] (Rw.lit (w2.alloc _) (w2.heap.size + 1) (by simp) [120, 121] 2 rfl (by decide) #[.int .u8 120, .int .u8 121] rfl _) [120, 121] 2 false 0 [97, 98, 99] 3 0 rfl rfl v_arrive).mono ?_
  rintro e w3 ⟨⟨A6, c6, A7, c7, rfl, g0, g3, hb⟩⟩
  obtain ⟨x0, x1, x2, x3⟩ := four_cells (w := w2) (a0 := .slice A4 0 c4) (a1 := .bool false) (a2 := .int .i64 0) (a3 := .slice A5 3 c5) (s := 27) (fun o ho => by simp [go_sem]) (by simp; omega) hb
  have hz3 : w2.heap.size < w3.heap.size := by have := two_new hb; omega
  have HB3 := Aside0.mk (below_step HB2.out (below_two hb))
  have G4' := Aside0.mk (G4.out.below (below_two hb))
  have G5' := Aside0.mk (G5.out.below (below_two hb))
  have G6 := Aside0.mk g0
  have G7 := Aside0.mk g3
  clear hb g0 g3 HB2 G4 G5
  go_wp2_with fail
  refine (read_N _ _ _ [120, 121] false 0 _ _ _ [97, 98, 99] _ (G6.out.alloc _) (G7.out.alloc _) 1 [121] 1 false 0 [97, 98, 99] 3 [120] 1 rfl rfl rfl v_read).mono ?_
  rintro e w4 ⟨⟨A8, c8, A9, c9, Ab, cb, rfl, g0, g3, g5, hb⟩⟩
  obtain ⟨y0, y1, y2, y3⟩ := four_cells (w := w3) (a0 := .slice A6 2 c6) (a1 := .bool false) (a2 := .int .i64 0) (a3 := .slice A7 3 c7) (s := 27) (fun o ho => rfl) (by simp) hb
  have hz4 : w3.heap.size < w4.heap.size := by have := hb.size; simp at this; omega
  have hb34 : Below w3.heap.size w3 w4 := below_step (below_alloc (Below.refl _ _) _) hb
  obtain ⟨X0, X1, X2, X3⟩ : w4.cell? ⟨w2.heap.size, 0, none⟩ = some (.slice A4 0 c4) ∧ w4.cell? ⟨w2.heap.size, 1, none⟩ = some (.bool false) ∧ w4.cell? ⟨w2.heap.size, 2, none⟩ = some (.int .i64 0) ∧ w4.cell? ⟨w2.heap.size, 3, none⟩ = some (.slice A5 3 c5) := by
    obtain ⟨hc, _⟩ := bcell hb34
    exact ⟨(hc _ _ hz3).trans x0, (hc _ _ hz3).trans x1, (hc _ _ hz3).trans x2, (hc _ _ hz3).trans x3⟩
  have HB4 := Aside0.mk (below_step HB3.out hb34)
  have J4 := Aside0.mk (G4'.out.below hb34)
  have J5 := Aside0.mk (G5'.out.below hb34)
  have J6 := Aside0.mk (G6.out.below hb34)
  have J7 := Aside0.mk (G7.out.below hb34)
  have J8 := Aside0.mk g0
  have J9 := Aside0.mk g3
  have Jb := Aside0.mk g5
  clear hb g0 g3 g5 HB3 G4' G5' G6 G7 x0 x1 x2 x3 hb34
  have hzx : w2.heap.size < w4.heap.size := by omega
  have e5 : ∀ o, (convert 25 9 (.slice A5 3 c5)).run Try.prog (w4.alloc o) = .ok (.string ⟨#[97, 98, 99]⟩) (w4.alloc o) := fun o => J5.out.str _ (below_alloc (Below.refl _ _) _)
  have eb : ∀ o, (convert 25 9 (.slice Ab 1 cb)).run Try.prog (w4.alloc o) = .ok (.string ⟨#[120]⟩) (w4.alloc o) := fun o => Jb.out.str _ (below_alloc (Below.refl _ _) _)
  have m0 : ∀ o, (w4.alloc o).cell? ⟨w2.heap.size, 0, none⟩ = some (.slice A4 0 c4) := fun o => (World.cell?_alloc_lt w4 o _ hzx).trans X0
  have m1 : ∀ o, (w4.alloc o).cell? ⟨w2.heap.size, 1, none⟩ = some (.bool false) := fun o => (World.cell?_alloc_lt w4 o _ hzx).trans X1
  have m2 : ∀ o, (w4.alloc o).cell? ⟨w2.heap.size, 2, none⟩ = some (.int .i64 0) := fun o => (World.cell?_alloc_lt w4 o _ hzx).trans X2
  have m3 : ∀ o, (w4.alloc o).cell? ⟨w2.heap.size, 3, none⟩ = some (.slice A5 3 c5) := fun o => (World.cell?_alloc_lt w4 o _ hzx).trans X3
  go_wp2_with fail
  refine (sane_N _ _ _ [121] false 0 _ _ _ [97, 98, 99] _ (J8.out.alloc _) (J9.out.alloc _) true v_sane).mono ?_
  rintro e w5 ⟨rfl, hb⟩
  have hb45 : Below w4.heap.size w4 w5 := below_step (below_alloc (Below.refl _ _) _) hb
  obtain ⟨hc, _⟩ := bcell hb45
  have n0 := (hc _ 0 hzx).trans X0
  have n1 := (hc _ 1 hzx).trans X1
  have n2 := (hc _ 2 hzx).trans X2
  have n3 := (hc _ 3 hzx).trans X3
  have p0 := (hc _ 0 hz4).trans y0
  have p1 := (hc _ 1 hz4).trans y1
  have p2 := (hc _ 2 hz4).trans y2
  have p3 := (hc _ 3 hz4).trans y3
  have HB5 := Aside0.mk (below_step HB4.out hb45)
  have K4 := Aside0.mk (J4.out.below hb45)
  have K5 := Aside0.mk (J5.out.below hb45)
  have K6 := Aside0.mk (J6.out.below hb45)
  have K7 := Aside0.mk (J7.out.below hb45)
  have hz5 : w4.heap.size ≤ w5.heap.size := hb45.size
  clear hb hb45 hc e5 eb m0 m1 m2 m3 X0 X1 X2 X3 y0 y1 y2 y3 HB4
  go_wp2_with fail
  refine (waits_N _ _ _ [] false 0 _ _ _ [97, 98, 99] _ K4.out K5.out true v_waits).mono ?_
  rintro e w6 ⟨rfl, hb⟩
  obtain ⟨hc, _⟩ := bcell hb
  have q0 := (hc _ 0 (by omega)).trans p0
  have q1 := (hc _ 1 (by omega)).trans p1
  have q2 := (hc _ 2 (by omega)).trans p2
  have q3 := (hc _ 3 (by omega)).trans p3
  have HB6 := Aside0.mk (below_step HB5.out hb)
  have M6 := Aside0.mk (K6.out.below hb)
  have M7 := Aside0.mk (K7.out.below hb)
  clear hb hc n0 n1 n2 n3 p0 p1 p2 p3 HB5
  go_wp2_with fail
  refine (waits_N _ _ _ [120, 121] false 0 _ _ _ [97, 98, 99] _ M6.out M7.out false v_waits2).mono ?_
  rintro e w7 ⟨rfl, hb⟩
  have HB7 := Aside0.mk (below_step HB6.out hb)
  clear hb
  go_wp2_with fail
  go_ret
  exact ⟨rfl, HB7⟩
theorem pentroughlaw19_awake.calls  (r : Bool) (w : World) (h : pentroughlaw19_awake.f  = some r) :
    Calls Try.prog 9 #[] w fun e w' => e = .returned (.bool r) ∧ Below w.heap.size w w' := by
  have hr : r = true := by
    unfold pentroughlaw19_awake.f at h
    simpa using h.symm
  subst hr
  exact (awake_walk w).mono fun _ _ ⟨he, hb⟩ => ⟨he, hb.out⟩

/-! ### pentroughref19_Few: function 14 -/
def pentroughref19_Few.f (l0_0 : List Int) (a0_1 : Bool) (a0_2 : Int) (l0_3 : List Int) : Option (Bool) := if (l0_0.length : Int) ≤ 5000 then (some (decide ((l0_3.length : Int) ≤ 1000))) else (some false)
set_option maxHeartbeats 8000000 in
set_option maxRecDepth 100000 in
theorem pentroughref19_Few.calls (A0_0 : Option Addr) (c0_0 : Nat) (l0_0 : List Int) (a0_1 : Bool) (a0_2 : Int) (A0_3 : Option Addr) (c0_3 : Nat) (l0_3 : List Int) (r : Bool) (w : World) (hr0_0 : Kd.C (Kd.int .u8) w A0_0 l0_0.length l0_0) (hc0_0 : l0_0.length ≤ c0_0) (hr0_3 : Kd.C (Kd.int .u8) w A0_3 l0_3.length l0_3) (hc0_3 : l0_3.length ≤ c0_3) (h : pentroughref19_Few.f l0_0 a0_1 a0_2 l0_3 = some r) :
    Calls Try.prog 14 #[.agg #[.slice A0_0 l0_0.length c0_0, .bool a0_1, .int .i64 a0_2, .slice A0_3 l0_3.length c0_3]] w fun e w' => e = .returned (.bool r) ∧ Below w.heap.size w w' := by
  have hu36 := Try.underlying36
  have HR0_0 := Aside0.mk hr0_0
  have HC0_0 := Aside0.mk hc0_0
  clear hr0_0 hc0_0
  have HR0_3 := Aside0.mk hr0_3
  have HC0_3 := Aside0.mk hc0_3
  clear hr0_3 hc0_3
  have HB := Aside0.mk (Below.refl w.heap.size w)
  have H : (if (l0_0.length : Int) ≤ 5000 then (some (decide ((l0_3.length : Int) ≤ 1000))) else (some false)) = some r := h
  clear h
  by_cases c2 : (l0_0.length : Int) ≤ 5000
  · rw [if_pos c2] at H
    have c2b0 : decide ((l0_0.length : Int) ≤ 5000) = true := decide_eq_true c2
    have c2b1 : decide (l0_0.length ≤ 5000) = true := decide_eq_true (by omega)
    clear c2
    obtain rfl := Option.some.inj H
    go_enter Try.func14, Try.ntmps14
    go_wp2_with (first | ((with_reducible refine gate_dst (N := 1) rfl ?_); (try (refine gate_guard (by rfl) ?_; dsimp only)); refine box_event ?hg (N := 1) ?hd (cs := #[.slice A0_0 l0_0.length c0_0, .bool a0_1, .int .i64 a0_2, .slice A0_3 l0_3.length c0_3]) (t := 36) ?hr ?_; (case hd => rfl); (case hg => rfl); (case hr => first | (go_simp; done) | (go_simp; rfl)); intro gb207 hg w3 hbox hb; have n0_ := Aside0.mk (below_step (by repeat (first | (with_reducible first | exact HB.out | apply below_alloc | apply pw_below_drewN | apply below_drew1) | exact HB.out)) hb); have n1_ := Aside0.mk (hbox); have n2_ := Aside0.mk ((by rw [hg]; exact (below_size (by repeat (first | (with_reducible first | exact HB.out | apply below_alloc | apply pw_below_drewN | apply below_drew1) | exact HB.out))) : w.heap.size ≤ gb207)); have n3_ := Aside0.mk ((by rw [hg]; exact (below_size (by repeat (first | (with_reducible first | exact HB.out | apply below_alloc | apply pw_below_drewN | apply below_drew1) | exact HB.out))) : w.heap.size ≤ gb207)); clear HB; have HB := n0_; have BK207 := n1_; have GW207 := n2_; have GE207 := n3_; clear n0_ n1_ n2_ n3_; clear hb hbox hg; have hcz4_0 : w3.cell? ⟨gb207, 0, none⟩ = some (.slice A0_0 l0_0.length c0_0) := (blk_cell BK207.out 0).trans rfl; have hcz4_1 : w3.cell? ⟨gb207, 1, none⟩ = some (.bool a0_1) := (blk_cell BK207.out 1).trans rfl; have hcz4_2 : w3.cell? ⟨gb207, 2, none⟩ = some (.int .i64 a0_2) := (blk_cell BK207.out 2).trans rfl; have hcz4_3 : w3.cell? ⟨gb207, 3, none⟩ = some (.slice A0_3 l0_3.length c0_3) := (blk_cell BK207.out 3).trans rfl; have hfz4_0 := blk_frozen BK207.out 0; have hfz4_1 := blk_frozen BK207.out 1; have hfz4_2 := blk_frozen BK207.out 2; have hfz4_3 := blk_frozen BK207.out 3))
    go_ret
    exact ⟨by first | rfl | (simp [errW_none, errW_some] <;> rfl) | (simp [*, errW_none, errW_some] <;> rfl), by repeat (first | (with_reducible first | exact HB.out | apply below_alloc | apply pw_below_drewN | apply below_drew1 | refine below_set ?_ GE207.out) | exact HB.out)⟩
  · rw [if_neg c2] at H
    have c2b0 : decide ((l0_0.length : Int) ≤ 5000) = false := decide_eq_false c2
    have c2b1 : decide (l0_0.length ≤ 5000) = false := decide_eq_false (by omega)
    clear c2
    obtain rfl := Option.some.inj H
    go_enter Try.func14, Try.ntmps14
    go_wp2_with (first | ((with_reducible refine gate_dst (N := 1) rfl ?_); (try (refine gate_guard (by rfl) ?_; dsimp only)); refine box_event ?hg (N := 1) ?hd (cs := #[.slice A0_0 l0_0.length c0_0, .bool a0_1, .int .i64 a0_2, .slice A0_3 l0_3.length c0_3]) (t := 36) ?hr ?_; (case hd => rfl); (case hg => rfl); (case hr => first | (go_simp; done) | (go_simp; rfl)); intro gb207 hg w5 hbox hb; have n0_ := Aside0.mk (below_step (by repeat (first | (with_reducible first | exact HB.out | apply below_alloc | apply pw_below_drewN | apply below_drew1) | exact HB.out)) hb); have n1_ := Aside0.mk (hbox); have n2_ := Aside0.mk ((by rw [hg]; exact (below_size (by repeat (first | (with_reducible first | exact HB.out | apply below_alloc | apply pw_below_drewN | apply below_drew1) | exact HB.out))) : w.heap.size ≤ gb207)); have n3_ := Aside0.mk ((by rw [hg]; exact (below_size (by repeat (first | (with_reducible first | exact HB.out | apply below_alloc | apply pw_below_drewN | apply below_drew1) | exact HB.out))) : w.heap.size ≤ gb207)); clear HB; have HB := n0_; have BK207 := n1_; have GW207 := n2_; have GE207 := n3_; clear n0_ n1_ n2_ n3_; clear hb hbox hg; have hcz6_0 : w5.cell? ⟨gb207, 0, none⟩ = some (.slice A0_0 l0_0.length c0_0) := (blk_cell BK207.out 0).trans rfl; have hcz6_1 : w5.cell? ⟨gb207, 1, none⟩ = some (.bool a0_1) := (blk_cell BK207.out 1).trans rfl; have hcz6_2 : w5.cell? ⟨gb207, 2, none⟩ = some (.int .i64 a0_2) := (blk_cell BK207.out 2).trans rfl; have hcz6_3 : w5.cell? ⟨gb207, 3, none⟩ = some (.slice A0_3 l0_3.length c0_3) := (blk_cell BK207.out 3).trans rfl; have hfz6_0 := blk_frozen BK207.out 0; have hfz6_1 := blk_frozen BK207.out 1; have hfz6_2 := blk_frozen BK207.out 2; have hfz6_3 := blk_frozen BK207.out 3))
    go_ret
    exact ⟨by first | rfl | (simp [errW_none, errW_some] <;> rfl) | (simp [*, errW_none, errW_some] <;> rfl), by repeat (first | (with_reducible first | exact HB.out | apply below_alloc | apply pw_below_drewN | apply below_drew1 | refine below_set ?_ GE207.out) | exact HB.out)⟩

/-! ### pentroughlaw19_ours: function 16 -/
def pentroughlaw19_ours.f (l0_0 : List Int) (a0_1 : Bool) (a0_2 : Int) (l0_3 : List Int) : Option (List Int × Bool × Int × List Int) := some (l0_0, a0_1, a0_2, l0_3)
set_option maxHeartbeats 8000000 in
set_option maxRecDepth 100000 in
theorem pentroughlaw19_ours.calls (P0_0_ : Nat → Prop) (A0_0 : Option Addr) (c0_0 : Nat) (l0_0 : List Int) (a0_1 : Bool) (a0_2 : Int) (P0_3_ : Nat → Prop) (A0_3 : Option Addr) (c0_3 : Nat) (l0_3 : List Int) (r1 : List Int) (r2 : Bool) (r3 : Int) (r4 : List Int) (w : World) (hs0_0 : Kd.V (Kd.int .u8) 5 w w.heap.size (fun k_ => P0_0_ k_) (.slice A0_0 l0_0.length c0_0) l0_0) (hs0_3 : Kd.V (Kd.int .u8) 5 w w.heap.size (fun k_ => P0_3_ k_) (.slice A0_3 l0_3.length c0_3) l0_3) (h : pentroughlaw19_ours.f l0_0 a0_1 a0_2 l0_3 = some (r1, r2, r3, r4)) :
    Calls Try.prog 16 #[.agg #[.slice A0_0 l0_0.length c0_0, .bool a0_1, .int .i64 a0_2, .slice A0_3 l0_3.length c0_3]] w fun e w' => ∃ v0_ v3_ : Value, e = .returned (.agg #[v0_, .bool r2, .int .i64 r3, v3_]) ∧ Kd.V (Kd.int .u8) 5 w' w.heap.size (fun k_ => ((P0_0_ k_ ∨ P0_3_ k_) ∨ w.heap.size ≤ k_)) v0_ r1 ∧ Kd.V (Kd.int .u8) 5 w' w.heap.size (fun k_ => ((P0_0_ k_ ∨ P0_3_ k_) ∨ w.heap.size ≤ k_)) v3_ r4 ∧ Below w.heap.size w w' := by
  have hu36 := Try.underlying36
  have hu27 := Try.underlying27
  have HO0_0 := Aside0.mk (show Kd.V (Kd.int .u8) 5 w w.heap.size (fun k_ => ((P0_0_ k_ ∨ P0_3_ k_) ∨ w.heap.size ≤ k_)) (.slice A0_0 l0_0.length c0_0) l0_0 from Kd.V_mono hs0_0 (fun k_ hk => .inl (.inl hk)))
  have HO0_3 := Aside0.mk (show Kd.V (Kd.int .u8) 5 w w.heap.size (fun k_ => ((P0_0_ k_ ∨ P0_3_ k_) ∨ w.heap.size ≤ k_)) (.slice A0_3 l0_3.length c0_3) l0_3 from Kd.V_mono hs0_3 (fun k_ hk => .inl (.inr hk)))
  have HB := Aside0.mk (Below.refl w.heap.size w)
  have H : (some (l0_0, a0_1, a0_2, l0_3)) = some (r1, r2, r3, r4) := h
  clear h
  simp only [Option.some.injEq, Prod.mk.injEq] at H
  obtain ⟨rfl, rfl, rfl, rfl⟩ := H
  go_enter Try.func16, Try.ntmps16
  go_wp2_with (first | ((with_reducible refine gate_dst (N := 1) rfl ?_); refine box_event ?hg (N := 1) ?hd (cs := #[.slice A0_0 l0_0.length c0_0, .bool a0_1, .int .i64 a0_2, .slice A0_3 l0_3.length c0_3]) (t := 36) ?hr ?_; (case hd => rfl); (case hg => rfl); (case hr => first | (go_simp; done) | (go_simp; rfl)); intro gb208 hg w2 hbox hb; have n0_ := Aside0.mk (Kd.V_below (Kd.V_elderB (by (with_reducible repeat (first | apply Kd.V_alloc | apply Kd.V_drewN | apply Kd.V_drew)); exact HO0_0.out) gb208 (Nat.le_of_eq hg.symm)) hb); have n1_ := Aside0.mk (Kd.V_below (Kd.V_elderB (by (with_reducible repeat (first | apply Kd.V_alloc | apply Kd.V_drewN | apply Kd.V_drew)); exact HO0_3.out) gb208 (Nat.le_of_eq hg.symm)) hb); have n2_ := Aside0.mk (below_step (by repeat (first | (with_reducible first | exact HB.out | apply below_alloc | apply pw_below_drewN | apply below_drew1) | exact HB.out)) hb); have n3_ := Aside0.mk (hbox); have n4_ := Aside0.mk ((by rw [hg]; exact (below_size (by repeat (first | (with_reducible first | exact HB.out | apply below_alloc | apply pw_below_drewN | apply below_drew1) | exact HB.out))) : w.heap.size ≤ gb208)); have n5_ := Aside0.mk ((by rw [hg]; exact (below_size (by repeat (first | (with_reducible first | exact HB.out | apply below_alloc | apply pw_below_drewN | apply below_drew1) | exact HB.out))) : w.heap.size ≤ gb208)); clear HO0_0; clear HO0_3; clear HB; have HO0_0 := n0_; have HO0_3 := n1_; have HB := n2_; have BK208 := n3_; have GW208 := n4_; have GE208 := n5_; clear n0_ n1_ n2_ n3_ n4_ n5_; clear hb hbox hg) | ((with_reducible refine gate_dst (N := 2) rfl ?_); refine box_event ?hg (N := 2) ?hd (cs := #[.slice none 0 0, .bool false, .int .i64 0, .slice none 0 0]) (t := 27) ?hr ?_; (case hd => rfl); (case hg => rfl); (case hr => first | (go_simp; done) | (go_simp; rfl)); intro gb209 hg w3 hbox hb; have n0_ := Aside0.mk (Kd.V_below (Kd.V_elderB (by (with_reducible repeat (first | apply Kd.V_alloc | apply Kd.V_drewN | apply Kd.V_drew)); exact HO0_0.out) gb209 (Nat.le_of_eq hg.symm)) hb); have n1_ := Aside0.mk (Kd.V_below (Kd.V_elderB (by (with_reducible repeat (first | apply Kd.V_alloc | apply Kd.V_drewN | apply Kd.V_drew)); exact HO0_3.out) gb209 (Nat.le_of_eq hg.symm)) hb); have n2_ := Aside0.mk (blk_below (g := gb208) (o := .cells #[.slice A0_0 l0_0.length c0_0, .bool a0_1, .int .i64 a0_2, .slice A0_3 l0_3.length c0_3] 36 (0, 0)) (by (with_reducible repeat (first | refine blk_drewN ?_ _ | refine blk_drew ?_ | refine blk_alloc ?_ _)); exact BK208.out) hb); have n3_ := Aside0.mk (below_step (by repeat (first | (with_reducible first | exact HB.out | apply below_alloc | apply pw_below_drewN | apply below_drew1 | refine below_set ?_ GE208.out) | exact HB.out)) hb); have n4_ := Aside0.mk (hbox); have n5_ := Aside0.mk ((by rw [hg]; exact (below_size (by repeat (first | (with_reducible first | exact HB.out | apply below_alloc | apply pw_below_drewN | apply below_drew1 | refine below_set ?_ GE208.out) | exact HB.out))) : w.heap.size ≤ gb209)); have n6_ := Aside0.mk ((by rw [hg]; exact (below_size (by repeat (first | (with_reducible first | exact HB.out | apply below_alloc | apply pw_below_drewN | apply below_drew1 | refine below_set ?_ GE208.out) | exact HB.out))) : w.heap.size ≤ gb209)); have n7_ := Aside0.mk ((by rw [hg]; exact Nat.ne_of_lt (blk_lt (g := gb208) (o := .cells #[.slice A0_0 l0_0.length c0_0, .bool a0_1, .int .i64 a0_2, .slice A0_3 l0_3.length c0_3] 36 (0, 0)) (by (with_reducible repeat (first | refine blk_drewN ?_ _ | refine blk_drew ?_ | refine blk_alloc ?_ _)); exact BK208.out)) : gb208 ≠ gb209)); have n8_ := Aside0.mk ((by rw [hg]; exact Nat.ne_of_gt (blk_lt (g := gb208) (o := .cells #[.slice A0_0 l0_0.length c0_0, .bool a0_1, .int .i64 a0_2, .slice A0_3 l0_3.length c0_3] 36 (0, 0)) (by (with_reducible repeat (first | refine blk_drewN ?_ _ | refine blk_drew ?_ | refine blk_alloc ?_ _)); exact BK208.out)) : gb209 ≠ gb208)); clear HO0_0; clear HO0_3; clear BK208; clear HB; have HO0_0 := n0_; have HO0_3 := n1_; have BK208 := n2_; have HB := n3_; have BK209 := n4_; have GW209 := n5_; have GE209 := n6_; have NB208_209 := n7_; have NB209_208 := n8_; clear n0_ n1_ n2_ n3_ n4_ n5_ n6_ n7_ n8_; clear hb hbox hg; have hnb4 := NB208_209.out; have hnc4 := NB209_208.out; have hcz5_0 : w3.cell? ⟨gb208, 0, none⟩ = some (.slice A0_0 l0_0.length c0_0) := (blk_cell BK208.out 0).trans rfl; have hcz5_1 : w3.cell? ⟨gb208, 1, none⟩ = some (.bool a0_1) := (blk_cell BK208.out 1).trans rfl; have hcz5_2 : w3.cell? ⟨gb208, 2, none⟩ = some (.int .i64 a0_2) := (blk_cell BK208.out 2).trans rfl; have hcz5_3 : w3.cell? ⟨gb208, 3, none⟩ = some (.slice A0_3 l0_3.length c0_3) := (blk_cell BK208.out 3).trans rfl; have hfz5_0 := blk_frozen BK208.out 0; have hfz5_1 := blk_frozen BK208.out 1; have hfz5_2 := blk_frozen BK208.out 2; have hfz5_3 := blk_frozen BK208.out 3; have hcz6_0 : w3.cell? ⟨gb209, 0, none⟩ = some (.slice none 0 0) := (blk_cell BK209.out 0).trans rfl; have hcz6_1 : w3.cell? ⟨gb209, 1, none⟩ = some (.bool false) := (blk_cell BK209.out 1).trans rfl; have hcz6_2 : w3.cell? ⟨gb209, 2, none⟩ = some (.int .i64 0) := (blk_cell BK209.out 2).trans rfl; have hcz6_3 : w3.cell? ⟨gb209, 3, none⟩ = some (.slice none 0 0) := (blk_cell BK209.out 3).trans rfl; have hfz6_0 := blk_frozen BK209.out 0; have hfz6_1 := blk_frozen BK209.out 1; have hfz6_2 := blk_frozen BK209.out 2; have hfz6_3 := blk_frozen BK209.out 3))
  refine bodyPost_ret (results_cell_row rfl _ _ gb209 27 #[.slice A0_0 l0_0.length c0_0, .bool a0_1, .int .i64 a0_2, .slice A0_3 l0_3.length c0_3] (0, 0) _ rfl (by (with_reducible repeat (first | refine blk_drewN ?_ _ | refine blk_drew ?_ | refine blk_alloc ?_ _)); refine blk_put (cs := #[.slice A0_0 l0_0.length c0_0, .bool a0_1, .int .i64 a0_2, .slice none 0 0]) ?_ 3 _ rfl; (with_reducible repeat (first | refine blk_drewN ?_ _ | refine blk_drew ?_ | refine blk_alloc ?_ _)); refine blk_put (cs := #[.slice A0_0 l0_0.length c0_0, .bool a0_1, .int .i64 0, .slice none 0 0]) ?_ 2 _ rfl; (with_reducible repeat (first | refine blk_drewN ?_ _ | refine blk_drew ?_ | refine blk_alloc ?_ _)); refine blk_put (cs := #[.slice A0_0 l0_0.length c0_0, .bool false, .int .i64 0, .slice none 0 0]) ?_ 1 _ rfl; (with_reducible repeat (first | refine blk_drewN ?_ _ | refine blk_drew ?_ | refine blk_alloc ?_ _)); refine blk_put (cs := #[.slice none 0 0, .bool false, .int .i64 0, .slice none 0 0]) ?_ 0 _ rfl; (with_reducible repeat (first | refine blk_drewN ?_ _ | refine blk_drew ?_ | refine blk_alloc ?_ _)); exact BK209.out) Try.underlying27 rfl (by kernel_rfl)) rfl ?_
  exact ⟨_, _, by first | rfl | (simp [errW_none, errW_some] <;> rfl) | (simp [*, errW_none, errW_some] <;> rfl), by (with_reducible repeat (first | apply Kd.V_alloc | apply Kd.V_drewN | apply Kd.V_drew)); exact Kd.V_mono (Kd.V_far (p := ⟨gb209, 3, none⟩) (Kd.V_far (p := ⟨gb209, 2, none⟩) (Kd.V_far (p := ⟨gb209, 1, none⟩) (Kd.V_far (p := ⟨gb209, 0, none⟩) (Kd.V_mono HO0_0.out (fun k_ hk => (⟨hk, hk.2⟩ : _ ∧ k_ ≠ gb209))) (fun _ hk => hk.2) (.slice A0_0 l0_0.length c0_0)) (fun _ hk => hk.2) (.bool a0_1)) (fun _ hk => hk.2) (.int .i64 a0_2)) (fun _ hk => hk.2) (.slice A0_3 l0_3.length c0_3)) (fun _ hk => hk.1.1.1), by (with_reducible repeat (first | apply Kd.V_alloc | apply Kd.V_drewN | apply Kd.V_drew)); exact Kd.V_mono (Kd.V_far (p := ⟨gb209, 3, none⟩) (Kd.V_far (p := ⟨gb209, 2, none⟩) (Kd.V_far (p := ⟨gb209, 1, none⟩) (Kd.V_far (p := ⟨gb209, 0, none⟩) (Kd.V_mono HO0_3.out (fun k_ hk => (⟨hk, hk.2⟩ : _ ∧ k_ ≠ gb209))) (fun _ hk => hk.2) (.slice A0_0 l0_0.length c0_0)) (fun _ hk => hk.2) (.bool a0_1)) (fun _ hk => hk.2) (.int .i64 a0_2)) (fun _ hk => hk.2) (.slice A0_3 l0_3.length c0_3)) (fun _ hk => hk.1.1.1), by repeat (first | (with_reducible first | exact HB.out | apply below_alloc | apply pw_below_drewN | apply below_drew1 | refine below_set ?_ GE208.out | refine below_set ?_ GE209.out) | exact HB.out)⟩

end Go.Proofs.Ytocmnggcbpdnjaa.Q
