-- Laid by mix.py, a program of this session, with the kit's print.py; walks by hand come out of wip/over.
import Derived.Test.YtocmnggcbpdnjaaShort
import Derived.Lib.SlBytesConst
import Derived.Test.YtocmnggcbpdnjaaI0
import Derived.Test.YtocmnggcbpdnjaaI1
import Derived.Test.YtocmnggcbpdnjaaI2
import Derived.Test.YtocmnggcbpdnjaaI3
namespace Go.Proofs.Ytocmnggcbpdnjaa.I
open Go.RowKit Go.Proofs.YtocmnggcbpdnjaaW.PrintWords Go.Proofs.YtocmnggcbpdnjaaW.PrintLast Go.Proofs.YtocmnggcbpdnjaaW.PrintMore Go.Proofs.YtocmnggcbpdnjaaW.Sh
attribute [local go_sem] max2_int min2_int max_two min_two max_three min_three max_four min_four   -- for this text's walks alone
set_option linter.unusedVariables false
set_option linter.unusedSimpArgs false

/-! ### pentroughlaw19_awake: function 9 -/
def pentroughlaw19_awake.f  : Option (Bool) := some true
-- import Derived.Lib.SlBytesConst
/-- Bytes that are read: a slice with its length told. -/
def Rw (w : World) (A : Option Addr) (n c : Nat) (l : List Int) : Prop := l.length = n ∧ Kd.V (Kd.int .u8) 5 w 0 (fun _ => True) (.slice A n c) l
theorem Rw.below {w w' : World} {A : Option Addr} {n c : Nat} {l : List Int} (h : Rw w A n c l) (hb : Below w.heap.size w w') : Rw w' A n c l := ⟨h.1, Kd.V_below h.2 hb⟩
theorem Rw.alloc {w : World} {A : Option Addr} {n c : Nat} {l : List Int} (h : Rw w A n c l) (o : Obj) : Rw (w.alloc o) A n c l := ⟨h.1, Kd.V_alloc h.2 o⟩
theorem Rw.nil (w : World) : Rw w none 0 0 [] := ⟨rfl, Kd.V_nil _ _ _ _ _⟩
theorem Rw.lit (w : World) (g : Nat) (hg : g = w.heap.size) (xs : List Int) (n : Nat) (hn : xs.length = n) (h : n ≤ 9223372036854775807) (cs : Array Value) (hcs : cs = (nums .u8 xs).toArray) (fr : Nat × Nat) : Rw (w.alloc (.cells cs 5 fr)) (some ⟨g, 0, none⟩) n n xs := by
  subst hg
  subst hn
  subst hcs
  refine ⟨rfl, _, _, rfl, Nat.le_refl _, ?_⟩
  refine Kd.F_mono (Kd.C_F (Kd.heap_int .u8) ?_) (fun _ _ => trivial)
  refine Kd.C_of_reads (enc := Value.int .u8) (d := (0 : Int)) (h1 := fun _ => rfl) ⟨rfl, h, fun _ => ⟨_, rfl, fun j hj => ?_⟩⟩
  rw [add_plain]
  unfold World.cell? World.alloc
  simp only [Array.getElem?_push_size]
  simp [nums, List.getD_eq_getElem?_getD, List.getElem?_eq_getElem hj]
theorem Rw.str {w : World} {A : Option Addr} {n c : Nat} {l : List Int} (h : Rw w A n c l) : ∀ W : World, Below w.heap.size w W → (convert 25 9 (.slice A n c)).run Try.prog W = .ok (.string (strOfNums l)) W := fun W hb => by
  obtain ⟨hn, h2⟩ := h.below hb
  subst hn
  exact Kd.C_string Try.underlying25 Try.underlying5 Try.underlying9 (Kd.V_reads' h2).2.2
theorem Rw.of {w : World} {b : Nat} {P : Nat → Prop} {v : Value} {l : List Int} (h : Kd.V (Kd.int .u8) 5 w b P v l) (n : Nat) (hn : l.length = n) : ∃ A c, v = .slice A n c ∧ Rw w A n c l := by
  subst hn
  obtain ⟨A, c, rfl⟩ := Kd.V_slice h
  exact ⟨A, c, rfl, rfl, Kd.V_mono h (fun _ _ => trivial)⟩
theorem Rw.V {w : World} {A : Option Addr} {c : Nat} {l : List Int} (h : Rw w A l.length c l) (b : Nat) : Kd.V (Kd.int .u8) 5 w b (fun _ => True) (.slice A l.length c) l := h.2
theorem Rw.C {w : World} {A : Option Addr} {c : Nat} {l : List Int} (h : Rw w A l.length c l) : Kd.C (Kd.int .u8) w A l.length l ∧ l.length ≤ c := ⟨(Kd.V_reads' h.2).2.2, (Kd.V_reads' h.2).2.1⟩
section
variable (A0 : Option Addr) (n0 c0 : Nat) (l0 : List Int) (b : Bool) (a : Int) (A3 : Option Addr) (n3 c3 : Nat) (l3 : List Int) (w : World) (h0 : Rw w A0 n0 c0 l0) (h3 : Rw w A3 n3 c3 l3)
include h0 h3
theorem grant_N (n : Int) (r1 : List Int) (n1 : Nat) (r2 : Bool) (r3 : Int) (r4 : List Int) (n4 : Nat) (r5 : Int) (hn1 : r1.length = n1) (hn4 : r4.length = n4) (hR : wire_Grant.f l0 b a l3 n = some (r1, r2, r3, r4, r5)) :
    Calls Try.prog 11 #[.agg #[.slice A0 n0 c0, .bool b, .int .i64 a, .slice A3 n3 c3], .int .i64 n] w fun e w' => Aside0 (∃ A0' c0' A3' c3', e = .returned (.tuple #[.agg #[.slice A0' n1 c0', .bool r2, .int .i64 r3, .slice A3' n4 c3'], .int .i64 r5]) ∧ Rw w' A0' n1 c0' r1 ∧ Rw w' A3' n4 c3' r4 ∧ Below w.heap.size w w') := by
  obtain ⟨rfl, h0⟩ := h0
  obtain ⟨rfl, h3⟩ := h3
  refine (wire_Grant.calls _ A0 c0 l0 b a _ A3 c3 l3 n _ _ _ _ _ w h0 h3 hR).mono fun e w' ⟨v0, v3, he, g0, g3, hb⟩ => ?_
  obtain ⟨B0, d0, rfl, f0⟩ := Rw.of g0 n1 hn1
  obtain ⟨B3, d3, rfl, f3⟩ := Rw.of g3 n4 hn4
  exact ⟨B0, d0, B3, d3, he, f0, f3, hb⟩
theorem write_N (A : Option Addr) (m c : Nat) (l : List Int) (hl : Rw w A m c l) (r1 : List Int) (n1 : Nat) (r2 : Bool) (r3 : Int) (r4 : List Int) (n4 : Nat) (r5 : Int) (hn1 : r1.length = n1) (hn4 : r4.length = n4) (hR : wire_Write.f l0 b a l3 l = some (r1, r2, r3, r4, r5)) :
    Calls Try.prog 12 #[.agg #[.slice A0 n0 c0, .bool b, .int .i64 a, .slice A3 n3 c3], .slice A m c] w fun e w' => Aside0 (∃ A0' c0' A3' c3', e = .returned (.tuple #[.agg #[.slice A0' n1 c0', .bool r2, .int .i64 r3, .slice A3' n4 c3'], .int .i64 r5]) ∧ Rw w' A0' n1 c0' r1 ∧ Rw w' A3' n4 c3' r4 ∧ Below w.heap.size w w') := by
  obtain ⟨rfl, h0⟩ := h0
  obtain ⟨rfl, h3⟩ := h3
  obtain ⟨rfl, hl⟩ := hl
  refine (wire_Write.calls _ A0 c0 l0 b a _ A3 c3 l3 A c l _ _ _ _ _ w h0 h3 (Kd.V_reads' hl).2.2 (Kd.V_reads' hl).2.1 hR).mono fun e w' ⟨v0, v3, he, g0, g3, hb⟩ => ?_
  obtain ⟨B0, d0, rfl, f0⟩ := Rw.of g0 n1 hn1
  obtain ⟨B3, d3, rfl, f3⟩ := Rw.of g3 n4 hn4
  exact ⟨B0, d0, B3, d3, he, f0, f3, hb⟩
theorem arrive_N (A : Option Addr) (m c : Nat) (l : List Int) (hl : Rw w A m c l) (r1 : List Int) (n1 : Nat) (r2 : Bool) (r3 : Int) (r4 : List Int) (n4 : Nat) (r5 : Int) (hn1 : r1.length = n1) (hn4 : r4.length = n4) (hR : wire_Arrive.f l0 b a l3 l = some (r1, r2, r3, r4, r5)) :
    Calls Try.prog 13 #[.agg #[.slice A0 n0 c0, .bool b, .int .i64 a, .slice A3 n3 c3], .slice A m c] w fun e w' => Aside0 (∃ A0' c0' A3' c3', e = .returned (.tuple #[.agg #[.slice A0' n1 c0', .bool r2, .int .i64 r3, .slice A3' n4 c3'], .int .i64 r5]) ∧ Rw w' A0' n1 c0' r1 ∧ Rw w' A3' n4 c3' r4 ∧ Below w.heap.size w w') := by
  obtain ⟨rfl, h0⟩ := h0
  obtain ⟨rfl, h3⟩ := h3
  obtain ⟨rfl, hl⟩ := hl
  refine (wire_Arrive.calls _ A0 c0 l0 b a _ A3 c3 l3 A c l _ _ _ _ _ w h0 h3 (Kd.V_reads' hl).2.2 (Kd.V_reads' hl).2.1 hR).mono fun e w' ⟨v0, v3, he, g0, g3, hb⟩ => ?_
  obtain ⟨B0, d0, rfl, f0⟩ := Rw.of g0 n1 hn1
  obtain ⟨B3, d3, rfl, f3⟩ := Rw.of g3 n4 hn4
  exact ⟨B0, d0, B3, d3, he, f0, f3, hb⟩
theorem read_N (n : Int) (r1 : List Int) (n1 : Nat) (r2 : Bool) (r3 : Int) (r4 : List Int) (n4 : Nat) (r5 : List Int) (n5 : Nat) (hn1 : r1.length = n1) (hn4 : r4.length = n4) (hn5 : r5.length = n5) (hR : wire_Read.f l0 b a l3 n = some (r1, r2, r3, r4, r5)) :
    Calls Try.prog 17 #[.agg #[.slice A0 n0 c0, .bool b, .int .i64 a, .slice A3 n3 c3], .int .i64 n] w fun e w' => Aside0 (∃ A0' c0' A3' c3' A5 c5, e = .returned (.tuple #[.agg #[.slice A0' n1 c0', .bool r2, .int .i64 r3, .slice A3' n4 c3'], .slice A5 n5 c5]) ∧ Rw w' A0' n1 c0' r1 ∧ Rw w' A3' n4 c3' r4 ∧ Rw w' A5 n5 c5 r5 ∧ Below w.heap.size w w') := by
  obtain ⟨rfl, h0⟩ := h0
  obtain ⟨rfl, h3⟩ := h3
  refine (wire_Read.calls _ A0 c0 l0 b a _ A3 c3 l3 n _ _ _ _ _ w h0 h3 hR).mono fun e w' ⟨v0, v3, v5, he, g0, g3, g5, hb⟩ => ?_
  obtain ⟨B0, d0, rfl, f0⟩ := Rw.of g0 n1 hn1
  obtain ⟨B3, d3, rfl, f3⟩ := Rw.of g3 n4 hn4
  obtain ⟨B5, d5, rfl, f5⟩ := Rw.of g5 n5 hn5
  exact ⟨B0, d0, B3, d3, B5, d5, he, f0, f3, f5, hb⟩
theorem sane_N (r : Bool) (hR : wire_Sane.f l0 b a l3 = some r) :
    Calls Try.prog 15 #[.agg #[.slice A0 n0 c0, .bool b, .int .i64 a, .slice A3 n3 c3]] w fun e w' => e = .returned (.bool r) ∧ Below w.heap.size w w' := by
  obtain ⟨rfl, h0⟩ := h0
  obtain ⟨rfl, h3⟩ := h3
  exact wire_Sane.calls A0 c0 l0 b a A3 c3 l3 r w (Kd.V_reads' h0).2.2 (Kd.V_reads' h0).2.1 (Kd.V_reads' h3).2.2 (Kd.V_reads' h3).2.1 hR
theorem waits_N (r : Bool) (hR : wire_Waits.f l0 b a l3 = some r) :
    Calls Try.prog 24 #[.agg #[.slice A0 n0 c0, .bool b, .int .i64 a, .slice A3 n3 c3]] w fun e w' => e = .returned (.bool r) ∧ Below w.heap.size w w' := by
  obtain ⟨rfl, h0⟩ := h0
  obtain ⟨rfl, h3⟩ := h3
  exact wire_Waits.calls A0 c0 l0 b a A3 c3 l3 r w (Kd.V_reads' h0).2.2 (Kd.V_reads' h0).2.1 (Kd.V_reads' h3).2.2 (Kd.V_reads' h3).2.1 hR
end
theorem v_grant : wire_Grant.f [] false 0 [] 3 = some ([], false, 3, [], 0) := by simp [wire_Grant.f, wire_sane.f, wire_Sane.f, wrap64]
theorem v_write : wire_Write.f [] false 3 [] [97, 98, 99, 100] = some ([], false, 0, [97, 98, 99], 3) := by simp [wire_Write.f, wire_sane.f, wire_Sane.f, wrap64]
theorem v_arrive : wire_Arrive.f [] false 0 [97, 98, 99] [120, 121] = some ([120, 121], false, 0, [97, 98, 99], 0) := by simp [wire_Arrive.f, wire_sane.f, wire_Sane.f, wrap64]
theorem v_read : wire_Read.f [120, 121] false 0 [97, 98, 99] 1 = some ([121], false, 0, [97, 98, 99], [120]) := by simp [wire_Read.f, wire_sane.f, wire_Sane.f, wrap64]
theorem v_sane : wire_Sane.f [121] false 0 [97, 98, 99] = some true := by simp [wire_Sane.f]
theorem v_waits : wire_Waits.f [] false 0 [97, 98, 99] = some true := by simp [wire_Waits.f, wire_sane.f, wire_Sane.f]
theorem v_waits2 : wire_Waits.f [120, 121] false 0 [97, 98, 99] = some false := by simp [wire_Waits.f, wire_sane.f, wire_Sane.f]
theorem kc (w : World) (C : Array Value) (n c g : Nat) (hg : g = w.heap.size) : (convert 25 25 (.slice (some ⟨g, 0, none⟩) n c)).run Try.prog (w.alloc (.cells C 5)) = .ok (.slice (some ⟨g, 0, none⟩) n c) (w.alloc (.cells C 5 (C.size, C.size + 1))) := by subst hg; exact Lib.run_convert_bytes_const (P := Try.prog) w 25 5 C n c Try.underlying25 Try.underlying5
/-- A block of four cells that was just made, behind a call. -/
theorem four_cells {w w1 : World} {a0 a1 a2 a3 : Value} {s : TypeId} {W : World} (hW : ∀ o, o < 4 → W.cell? ⟨w.heap.size, o, none⟩ = (w.alloc (.cells #[a0, a1, a2, a3] s)).cell? ⟨w.heap.size, o, none⟩) (hlt : w.heap.size < W.heap.size) (hb : Below W.heap.size W w1) :
    w1.cell? ⟨w.heap.size, 0, none⟩ = some a0 ∧ w1.cell? ⟨w.heap.size, 1, none⟩ = some a1 ∧ w1.cell? ⟨w.heap.size, 2, none⟩ = some a2 ∧ w1.cell? ⟨w.heap.size, 3, none⟩ = some a3 := by
  obtain ⟨hc, _⟩ := bcell hb
  refine ⟨?_, ?_, ?_, ?_⟩ <;> (rw [hc _ _ hlt, hW _ (by omega)]; simp [go_sem])
set_option maxRecDepth 100000 in
set_option maxHeartbeats 2000000 in
theorem awake_walk (w : World) : Calls Try.prog 9 #[] w fun e w' => e = .returned (.bool true) ∧ Aside0 (Below w.heap.size w w') := by
  have hu27 := Try.underlying27
  have hcv := kc
  go_enter Try.func9, Try.ntmps9
  go_wp2_with fail
  refine (grant_N _ _ _ [] false 0 _ _ _ [] _ (Rw.nil _) (Rw.nil _) 3 [] 0 false 3 [] 0 0 rfl rfl v_grant).mono ?_
  rintro e w1 ⟨⟨A0, c0, A3, c3, rfl, g0, g3, hb⟩⟩
  have HB1 := Aside0.mk hb
  have G0 := Aside0.mk g0
  have G3 := Aside0.mk g3
  clear hb g0 g3
  go_wp2_with fail
  refine (write_N _ _ _ [] false 3 _ _ _ [] _ ((G0.out.alloc _).alloc _) ((G3.out.alloc _).alloc _) _ 4 4 [97, 98, 99, 100] (Rw.lit (w1.alloc _) (w1.heap.size + 1) (by simp) [97, 98, 99, 100] 4 rfl (by decide) #[.int .u8 97, .int .u8 98, .int .u8 99, .int .u8 100] rfl _) [] 0 false 0 [97, 98, 99] 3 3 rfl rfl v_write).mono ?_
  rintro e w2 ⟨⟨A4, c4, A5, c5, rfl, g0, g3, hb⟩⟩
  have HB2 := Aside0.mk (below_step HB1.out (below_two hb))
  have G4 := Aside0.mk g0
  have G5 := Aside0.mk g3
  clear hb g0 g3 G0 G3 HB1
  go_wp2_with fail
  refine (arrive_N _ _ _ [] false 0 _ _ _ [97, 98, 99] _ ((G4.out.alloc _).alloc _) ((G5.out.alloc _).alloc _) _ 2 2 [120, 121] (Rw.lit (w2.alloc _) (w2.heap.size + 1) (by simp) [120, 121] 2 rfl (by decide) #[.int .u8 120, .int .u8 121] rfl _) [120, 121] 2 false 0 [97, 98, 99] 3 0 rfl rfl v_arrive).mono ?_
  rintro e w3 ⟨⟨A6, c6, A7, c7, rfl, g0, g3, hb⟩⟩
  obtain ⟨x0, x1, x2, x3⟩ := four_cells (w := w2) (a0 := .slice A4 0 c4) (a1 := .bool false) (a2 := .int .i64 0) (a3 := .slice A5 3 c5) (s := 27) (fun o ho => by simp [go_sem]) (by simp; omega) hb
  have hz3 : w2.heap.size < w3.heap.size := by have := two_new hb; omega
  have HB3 := Aside0.mk (below_step HB2.out (below_two hb))
  have G4' := Aside0.mk (G4.out.below (below_two hb))
  have G5' := Aside0.mk (G5.out.below (below_two hb))
  have G6 := Aside0.mk g0
  have G7 := Aside0.mk g3
  clear hb g0 g3 HB2 G4 G5
  go_wp2_with fail
  refine (read_N _ _ _ [120, 121] false 0 _ _ _ [97, 98, 99] _ (G6.out.alloc _) (G7.out.alloc _) 1 [121] 1 false 0 [97, 98, 99] 3 [120] 1 rfl rfl rfl v_read).mono ?_
  rintro e w4 ⟨⟨A8, c8, A9, c9, Ab, cb, rfl, g0, g3, g5, hb⟩⟩
  obtain ⟨y0, y1, y2, y3⟩ := four_cells (w := w3) (a0 := .slice A6 2 c6) (a1 := .bool false) (a2 := .int .i64 0) (a3 := .slice A7 3 c7) (s := 27) (fun o ho => rfl) (by simp) hb
  have hz4 : w3.heap.size < w4.heap.size := by have := hb.size; simp at this; omega
  have hb34 : Below w3.heap.size w3 w4 := below_step (below_alloc (Below.refl _ _) _) hb
  obtain ⟨X0, X1, X2, X3⟩ : w4.cell? ⟨w2.heap.size, 0, none⟩ = some (.slice A4 0 c4) ∧ w4.cell? ⟨w2.heap.size, 1, none⟩ = some (.bool false) ∧ w4.cell? ⟨w2.heap.size, 2, none⟩ = some (.int .i64 0) ∧ w4.cell? ⟨w2.heap.size, 3, none⟩ = some (.slice A5 3 c5) := by
    obtain ⟨hc, _⟩ := bcell hb34
    exact ⟨(hc _ _ hz3).trans x0, (hc _ _ hz3).trans x1, (hc _ _ hz3).trans x2, (hc _ _ hz3).trans x3⟩
  have HB4 := Aside0.mk (below_step HB3.out hb34)
  have J4 := Aside0.mk (G4'.out.below hb34)
  have J5 := Aside0.mk (G5'.out.below hb34)
  have J6 := Aside0.mk (G6.out.below hb34)
  have J7 := Aside0.mk (G7.out.below hb34)
  have J8 := Aside0.mk g0
  have J9 := Aside0.mk g3
  have Jb := Aside0.mk g5
  clear hb g0 g3 g5 HB3 G4' G5' G6 G7 x0 x1 x2 x3 hb34
  have hzx : w2.heap.size < w4.heap.size := by omega
  have e5 : ∀ o, (convert 25 9 (.slice A5 3 c5)).run Try.prog (w4.alloc o) = .ok (.string ⟨#[97, 98, 99]⟩) (w4.alloc o) := fun o => J5.out.str _ (below_alloc (Below.refl _ _) _)
  have eb : ∀ o, (convert 25 9 (.slice Ab 1 cb)).run Try.prog (w4.alloc o) = .ok (.string ⟨#[120]⟩) (w4.alloc o) := fun o => Jb.out.str _ (below_alloc (Below.refl _ _) _)
  have m0 : ∀ o, (w4.alloc o).cell? ⟨w2.heap.size, 0, none⟩ = some (.slice A4 0 c4) := fun o => (World.cell?_alloc_lt w4 o _ hzx).trans X0
  have m1 : ∀ o, (w4.alloc o).cell? ⟨w2.heap.size, 1, none⟩ = some (.bool false) := fun o => (World.cell?_alloc_lt w4 o _ hzx).trans X1
  have m2 : ∀ o, (w4.alloc o).cell? ⟨w2.heap.size, 2, none⟩ = some (.int .i64 0) := fun o => (World.cell?_alloc_lt w4 o _ hzx).trans X2
  have m3 : ∀ o, (w4.alloc o).cell? ⟨w2.heap.size, 3, none⟩ = some (.slice A5 3 c5) := fun o => (World.cell?_alloc_lt w4 o _ hzx).trans X3
  go_wp2_with fail
  refine (sane_N _ _ _ [121] false 0 _ _ _ [97, 98, 99] _ (J8.out.alloc _) (J9.out.alloc _) true v_sane).mono ?_
  rintro e w5 ⟨rfl, hb⟩
  have hb45 : Below w4.heap.size w4 w5 := below_step (below_alloc (Below.refl _ _) _) hb
  obtain ⟨hc, _⟩ := bcell hb45
  have n0 := (hc _ 0 hzx).trans X0
  have n1 := (hc _ 1 hzx).trans X1
  have n2 := (hc _ 2 hzx).trans X2
  have n3 := (hc _ 3 hzx).trans X3
  have p0 := (hc _ 0 hz4).trans y0
  have p1 := (hc _ 1 hz4).trans y1
  have p2 := (hc _ 2 hz4).trans y2
  have p3 := (hc _ 3 hz4).trans y3
  have HB5 := Aside0.mk (below_step HB4.out hb45)
  have K4 := Aside0.mk (J4.out.below hb45)
  have K5 := Aside0.mk (J5.out.below hb45)
  have K6 := Aside0.mk (J6.out.below hb45)
  have K7 := Aside0.mk (J7.out.below hb45)
  have hz5 : w4.heap.size ≤ w5.heap.size := hb45.size
  clear hb hb45 hc e5 eb m0 m1 m2 m3 X0 X1 X2 X3 y0 y1 y2 y3 HB4
  go_wp2_with fail
  refine (waits_N _ _ _ [] false 0 _ _ _ [97, 98, 99] _ K4.out K5.out true v_waits).mono ?_
  rintro e w6 ⟨rfl, hb⟩
  obtain ⟨hc, _⟩ := bcell hb
  have q0 := (hc _ 0 (by omega)).trans p0
  have q1 := (hc _ 1 (by omega)).trans p1
  have q2 := (hc _ 2 (by omega)).trans p2
  have q3 := (hc _ 3 (by omega)).trans p3
  have HB6 := Aside0.mk (below_step HB5.out hb)
  have M6 := Aside0.mk (K6.out.below hb)
  have M7 := Aside0.mk (K7.out.below hb)
  clear hb hc n0 n1 n2 n3 p0 p1 p2 p3 HB5
  go_wp2_with fail
  refine (waits_N _ _ _ [120, 121] false 0 _ _ _ [97, 98, 99] _ M6.out M7.out false v_waits2).mono ?_
  rintro e w7 ⟨rfl, hb⟩
  have HB7 := Aside0.mk (below_step HB6.out hb)
  clear hb
  go_wp2_with fail
  go_ret
  exact ⟨rfl, HB7⟩
theorem pentroughlaw19_awake.calls  (r : Bool) (w : World) (h : pentroughlaw19_awake.f  = some r) :
    Calls Try.prog 9 #[] w fun e w' => e = .returned (.bool r) ∧ Below w.heap.size w w' := by
  have hr : r = true := by
    unfold pentroughlaw19_awake.f at h
    simpa using h.symm
  subst hr
  exact (awake_walk w).mono fun _ _ ⟨he, hb⟩ => ⟨he, hb.out⟩

/-! ### pentroughref19_Few: function 14 -/
def pentroughref19_Few.f (l0_0 : List Int) (a0_1 : Bool) (a0_2 : Int) (l0_3 : List Int) : Option (Bool) := if (l0_0.length : Int) ≤ 5000 then (some (decide ((l0_3.length : Int) ≤ 1000))) else (some false)
set_option maxHeartbeats 8000000 in
set_option maxRecDepth 100000 in
theorem pentroughref19_Few.calls (A0_0 : Option Addr) (c0_0 : Nat) (l0_0 : List Int) (a0_1 : Bool) (a0_2 : Int) (A0_3 : Option Addr) (c0_3 : Nat) (l0_3 : List Int) (r : Bool) (w : World) (hr0_0 : Kd.C (Kd.int .u8) w A0_0 l0_0.length l0_0) (hc0_0 : l0_0.length ≤ c0_0) (hr0_3 : Kd.C (Kd.int .u8) w A0_3 l0_3.length l0_3) (hc0_3 : l0_3.length ≤ c0_3) (h : pentroughref19_Few.f l0_0 a0_1 a0_2 l0_3 = some r) :
    Calls Try.prog 14 #[.agg #[.slice A0_0 l0_0.length c0_0, .bool a0_1, .int .i64 a0_2, .slice A0_3 l0_3.length c0_3]] w fun e w' => e = .returned (.bool r) ∧ Below w.heap.size w w' := by
  have hu36 := Try.underlying36
  have HR0_0 := Aside0.mk hr0_0
  have HC0_0 := Aside0.mk hc0_0
  clear hr0_0 hc0_0
  have HR0_3 := Aside0.mk hr0_3
  have HC0_3 := Aside0.mk hc0_3
  clear hr0_3 hc0_3
  have HB := Aside0.mk (Below.refl w.heap.size w)
  have H : (if (l0_0.length : Int) ≤ 5000 then (some (decide ((l0_3.length : Int) ≤ 1000))) else (some false)) = some r := h
  clear h
  by_cases c2 : (l0_0.length : Int) ≤ 5000
  · rw [if_pos c2] at H
    have c2b0 : decide ((l0_0.length : Int) ≤ 5000) = true := decide_eq_true c2
    have c2b1 : decide (l0_0.length ≤ 5000) = true := decide_eq_true (by omega)
    clear c2
    obtain rfl := Option.some.inj H
    go_enter Try.func14, Try.ntmps14
    go_wp2_with (first | ((with_reducible refine gate_dst (N := 1) rfl ?_); (try (refine gate_guard (by rfl) ?_; dsimp only)); refine box_event ?hg (N := 1) ?hd (cs := #[.slice A0_0 l0_0.length c0_0, .bool a0_1, .int .i64 a0_2, .slice A0_3 l0_3.length c0_3]) (t := 36) ?hr ?_; (case hd => rfl); (case hg => rfl); (case hr => first | (go_simp; done) | (go_simp; rfl)); intro gb207 hg w3 hbox hb; have BK207 := Aside0.mk hbox; have GW207 := gE HB hg; have GE207 := gE HB hg; replace HB := hB HB hb; clear hb hbox hg; obtain ⟨hcz4_0, hcz4_1, hcz4_2, hcz4_3, hfz4_0, hfz4_1, hfz4_2, hfz4_3⟩ := bc4 BK207))
    go_ret
    exact ⟨by first | rfl | (simp [errW_none, errW_some] <;> rfl) | (simp [*, errW_none, errW_some] <;> rfl), by repeat (first | (with_reducible first | exact HB.out | apply below_alloc | apply pw_below_drewN | apply below_drew1 | refine below_set ?_ GE207.out) | exact HB.out)⟩
  · rw [if_neg c2] at H
    have c2b0 : decide ((l0_0.length : Int) ≤ 5000) = false := decide_eq_false c2
    have c2b1 : decide (l0_0.length ≤ 5000) = false := decide_eq_false (by omega)
    clear c2
    obtain rfl := Option.some.inj H
    go_enter Try.func14, Try.ntmps14
    go_wp2_with (first | ((with_reducible refine gate_dst (N := 1) rfl ?_); (try (refine gate_guard (by rfl) ?_; dsimp only)); refine box_event ?hg (N := 1) ?hd (cs := #[.slice A0_0 l0_0.length c0_0, .bool a0_1, .int .i64 a0_2, .slice A0_3 l0_3.length c0_3]) (t := 36) ?hr ?_; (case hd => rfl); (case hg => rfl); (case hr => first | (go_simp; done) | (go_simp; rfl)); intro gb207 hg w5 hbox hb; have BK207 := Aside0.mk hbox; have GW207 := gE HB hg; have GE207 := gE HB hg; replace HB := hB HB hb; clear hb hbox hg; obtain ⟨hcz6_0, hcz6_1, hcz6_2, hcz6_3, hfz6_0, hfz6_1, hfz6_2, hfz6_3⟩ := bc4 BK207))
    go_ret
    exact ⟨by first | rfl | (simp [errW_none, errW_some] <;> rfl) | (simp [*, errW_none, errW_some] <;> rfl), by repeat (first | (with_reducible first | exact HB.out | apply below_alloc | apply pw_below_drewN | apply below_drew1 | refine below_set ?_ GE207.out) | exact HB.out)⟩

/-! ### pentroughlaw19_ours: function 16 -/
def pentroughlaw19_ours.f (l0_0 : List Int) (a0_1 : Bool) (a0_2 : Int) (l0_3 : List Int) : Option (List Int × Bool × Int × List Int) := some (l0_0, a0_1, a0_2, l0_3)
set_option maxHeartbeats 8000000 in
set_option maxRecDepth 100000 in
theorem pentroughlaw19_ours.calls (P0_0_ : Nat → Prop) (A0_0 : Option Addr) (c0_0 : Nat) (l0_0 : List Int) (a0_1 : Bool) (a0_2 : Int) (P0_3_ : Nat → Prop) (A0_3 : Option Addr) (c0_3 : Nat) (l0_3 : List Int) (r1 : List Int) (r2 : Bool) (r3 : Int) (r4 : List Int) (w : World) (hs0_0 : Kd.V (Kd.int .u8) 5 w w.heap.size (fun k_ => P0_0_ k_) (.slice A0_0 l0_0.length c0_0) l0_0) (hs0_3 : Kd.V (Kd.int .u8) 5 w w.heap.size (fun k_ => P0_3_ k_) (.slice A0_3 l0_3.length c0_3) l0_3) (h : pentroughlaw19_ours.f l0_0 a0_1 a0_2 l0_3 = some (r1, r2, r3, r4)) :
    Calls Try.prog 16 #[.agg #[.slice A0_0 l0_0.length c0_0, .bool a0_1, .int .i64 a0_2, .slice A0_3 l0_3.length c0_3]] w fun e w' => ∃ v0_ v3_ : Value, e = .returned (.agg #[v0_, .bool r2, .int .i64 r3, v3_]) ∧ Kd.V (Kd.int .u8) 5 w' w.heap.size (fun k_ => ((P0_0_ k_ ∨ P0_3_ k_) ∨ w.heap.size ≤ k_)) v0_ r1 ∧ Kd.V (Kd.int .u8) 5 w' w.heap.size (fun k_ => ((P0_0_ k_ ∨ P0_3_ k_) ∨ w.heap.size ≤ k_)) v3_ r4 ∧ Below w.heap.size w w' := by
  have hu36 := Try.underlying36
  have hu27 := Try.underlying27
  have HO0_0 := Aside0.mk (show Kd.V (Kd.int .u8) 5 w w.heap.size (fun k_ => ((P0_0_ k_ ∨ P0_3_ k_) ∨ w.heap.size ≤ k_)) (.slice A0_0 l0_0.length c0_0) l0_0 from Kd.V_mono hs0_0 (fun k_ hk => .inl (.inl hk)))
  have HO0_3 := Aside0.mk (show Kd.V (Kd.int .u8) 5 w w.heap.size (fun k_ => ((P0_0_ k_ ∨ P0_3_ k_) ∨ w.heap.size ≤ k_)) (.slice A0_3 l0_3.length c0_3) l0_3 from Kd.V_mono hs0_3 (fun k_ hk => .inl (.inr hk)))
  have HB := Aside0.mk (Below.refl w.heap.size w)
  have H : (some (l0_0, a0_1, a0_2, l0_3)) = some (r1, r2, r3, r4) := h
  clear h
  simp only [Option.some.injEq, Prod.mk.injEq] at H
  obtain ⟨rfl, rfl, rfl, rfl⟩ := H
  go_enter Try.func16, Try.ntmps16
  go_wp2_with (first | ((with_reducible refine gate_dst (N := 1) rfl ?_); refine box_event ?hg (N := 1) ?hd (cs := #[.slice A0_0 l0_0.length c0_0, .bool a0_1, .int .i64 a0_2, .slice A0_3 l0_3.length c0_3]) (t := 36) ?hr ?_; (case hd => rfl); (case hg => rfl); (case hr => first | (go_simp; done) | (go_simp; rfl)); intro gb208 hg w2 hbox hb; replace HO0_0 := vE HO0_0 hg hb; replace HO0_3 := vE HO0_3 hg hb; have BK208 := Aside0.mk hbox; have GW208 := gE HB hg; have GE208 := gE HB hg; replace HB := hB HB hb; clear hb hbox hg) | ((with_reducible refine gate_dst (N := 2) rfl ?_); refine box_event ?hg (N := 2) ?hd (cs := #[.slice none 0 0, .bool false, .int .i64 0, .slice none 0 0]) (t := 27) ?hr ?_; (case hd => rfl); (case hg => rfl); (case hr => first | (go_simp; done) | (go_simp; rfl)); intro gb209 hg w3 hbox hb; replace HO0_0 := vE HO0_0 hg hb; replace HO0_3 := vE HO0_3 hg hb; have BK209 := Aside0.mk hbox; have GW209 := gE HB hg; have GE209 := gE HB hg; replace HB := hB HB hb; have NB208_209 := nL BK208 hg; have NB209_208 := nG BK208 hg; replace BK208 := kB BK208 hb; clear hb hbox hg; have hnb4 := NB208_209.out; have hnc4 := NB209_208.out; obtain ⟨hcz5_0, hcz5_1, hcz5_2, hcz5_3, hfz5_0, hfz5_1, hfz5_2, hfz5_3⟩ := bc4 BK208; obtain ⟨hcz6_0, hcz6_1, hcz6_2, hcz6_3, hfz6_0, hfz6_1, hfz6_2, hfz6_3⟩ := bc4 BK209))
  refine bodyPost_ret (results_cell_row rfl _ _ gb209 27 #[.slice A0_0 l0_0.length c0_0, .bool a0_1, .int .i64 a0_2, .slice A0_3 l0_3.length c0_3] (0, 0) _ rfl (by (with_reducible repeat (first | refine blk_drewN ?_ _ | refine blk_drew ?_ | refine blk_alloc ?_ _)); refine blk_put (cs := #[.slice A0_0 l0_0.length c0_0, .bool a0_1, .int .i64 a0_2, .slice none 0 0]) ?_ 3 _ rfl; (with_reducible repeat (first | refine blk_drewN ?_ _ | refine blk_drew ?_ | refine blk_alloc ?_ _)); refine blk_put (cs := #[.slice A0_0 l0_0.length c0_0, .bool a0_1, .int .i64 0, .slice none 0 0]) ?_ 2 _ rfl; (with_reducible repeat (first | refine blk_drewN ?_ _ | refine blk_drew ?_ | refine blk_alloc ?_ _)); refine blk_put (cs := #[.slice A0_0 l0_0.length c0_0, .bool false, .int .i64 0, .slice none 0 0]) ?_ 1 _ rfl; (with_reducible repeat (first | refine blk_drewN ?_ _ | refine blk_drew ?_ | refine blk_alloc ?_ _)); refine blk_put (cs := #[.slice none 0 0, .bool false, .int .i64 0, .slice none 0 0]) ?_ 0 _ rfl; (with_reducible repeat (first | refine blk_drewN ?_ _ | refine blk_drew ?_ | refine blk_alloc ?_ _)); exact BK209.out) Try.underlying27 rfl (by kernel_rfl)) rfl ?_
  exact ⟨_, _, by first | rfl | (simp [errW_none, errW_some] <;> rfl) | (simp [*, errW_none, errW_some] <;> rfl), by (with_reducible repeat (first | apply Kd.V_alloc | apply Kd.V_drewN | apply Kd.V_drew)); exact Kd.V_mono (Kd.V_far (p := ⟨gb209, 3, none⟩) (Kd.V_far (p := ⟨gb209, 2, none⟩) (Kd.V_far (p := ⟨gb209, 1, none⟩) (Kd.V_far (p := ⟨gb209, 0, none⟩) (Kd.V_mono HO0_0.out (fun k_ hk => (⟨hk, hk.2⟩ : _ ∧ k_ ≠ gb209))) (fun _ hk => hk.2) (.slice A0_0 l0_0.length c0_0)) (fun _ hk => hk.2) (.bool a0_1)) (fun _ hk => hk.2) (.int .i64 a0_2)) (fun _ hk => hk.2) (.slice A0_3 l0_3.length c0_3)) (fun _ hk => hk.1.1.1), by (with_reducible repeat (first | apply Kd.V_alloc | apply Kd.V_drewN | apply Kd.V_drew)); exact Kd.V_mono (Kd.V_far (p := ⟨gb209, 3, none⟩) (Kd.V_far (p := ⟨gb209, 2, none⟩) (Kd.V_far (p := ⟨gb209, 1, none⟩) (Kd.V_far (p := ⟨gb209, 0, none⟩) (Kd.V_mono HO0_3.out (fun k_ hk => (⟨hk, hk.2⟩ : _ ∧ k_ ≠ gb209))) (fun _ hk => hk.2) (.slice A0_0 l0_0.length c0_0)) (fun _ hk => hk.2) (.bool a0_1)) (fun _ hk => hk.2) (.int .i64 a0_2)) (fun _ hk => hk.2) (.slice A0_3 l0_3.length c0_3)) (fun _ hk => hk.1.1.1), by repeat (first | (with_reducible first | exact HB.out | apply below_alloc | apply pw_below_drewN | apply below_drew1 | refine below_set ?_ GE208.out | refine below_set ?_ GE209.out) | exact HB.out)⟩

/-! ### pentroughref19_Sane: function 23 -/
def pentroughref19_Sane.f (l0_0 : List Int) (a0_1 : Bool) (a0_2 : Int) (l0_3 : List Int) : Option (Bool) := if (l0_0.length : Int) ≤ 4096 then (if a0_2 ≥ 0 then (some (decide (a0_2 ≤ 4096))) else (some false)) else (some false)
set_option maxHeartbeats 8000000 in
set_option maxRecDepth 100000 in
theorem pentroughref19_Sane.calls (A0_0 : Option Addr) (c0_0 : Nat) (l0_0 : List Int) (a0_1 : Bool) (a0_2 : Int) (A0_3 : Option Addr) (c0_3 : Nat) (l0_3 : List Int) (r : Bool) (w : World) (hr0_0 : Kd.C (Kd.int .u8) w A0_0 l0_0.length l0_0) (hc0_0 : l0_0.length ≤ c0_0) (hr0_3 : Kd.C (Kd.int .u8) w A0_3 l0_3.length l0_3) (hc0_3 : l0_3.length ≤ c0_3) (h : pentroughref19_Sane.f l0_0 a0_1 a0_2 l0_3 = some r) :
    Calls Try.prog 23 #[.agg #[.slice A0_0 l0_0.length c0_0, .bool a0_1, .int .i64 a0_2, .slice A0_3 l0_3.length c0_3]] w fun e w' => e = .returned (.bool r) ∧ Below w.heap.size w w' := by
  have hu36 := Try.underlying36
  have HR0_0 := Aside0.mk hr0_0
  have HC0_0 := Aside0.mk hc0_0
  clear hr0_0 hc0_0
  have HR0_3 := Aside0.mk hr0_3
  have HC0_3 := Aside0.mk hc0_3
  clear hr0_3 hc0_3
  have HB := Aside0.mk (Below.refl w.heap.size w)
  have H : (if (l0_0.length : Int) ≤ 4096 then (if a0_2 ≥ 0 then (some (decide (a0_2 ≤ 4096))) else (some false)) else (some false)) = some r := h
  clear h
  by_cases c2 : (l0_0.length : Int) ≤ 4096
  · rw [if_pos c2] at H
    have c2b0 : decide ((l0_0.length : Int) ≤ 4096) = true := decide_eq_true c2
    have c2b1 : decide (l0_0.length ≤ 4096) = true := decide_eq_true (by omega)
    clear c2
    by_cases c3 : a0_2 ≥ 0
    · rw [if_pos c3] at H
      have c3b0 : decide (0 ≤ a0_2) = true := decide_eq_true c3
      clear c3
      obtain rfl := Option.some.inj H
      go_enter Try.func23, Try.ntmps23
      go_wp2_with (first | ((with_reducible refine gate_dst (N := 1) rfl ?_); refine box_event ?hg (N := 1) ?hd (cs := #[.slice A0_0 l0_0.length c0_0, .bool a0_1, .int .i64 a0_2, .slice A0_3 l0_3.length c0_3]) (t := 36) ?hr ?_; (case hd => rfl); (case hg => rfl); (case hr => first | (go_simp; done) | (go_simp; rfl)); intro gb210 hg w4 hbox hb; have BK210 := Aside0.mk hbox; have GW210 := gE HB hg; have GE210 := gE HB hg; replace HB := hB HB hb; clear hb hbox hg; obtain ⟨hcz5_0, hcz5_1, hcz5_2, hcz5_3, hfz5_0, hfz5_1, hfz5_2, hfz5_3⟩ := bc4 BK210))
      go_ret
      exact ⟨by first | rfl | (simp [errW_none, errW_some] <;> rfl) | (simp [*, errW_none, errW_some] <;> rfl), by repeat (first | (with_reducible first | exact HB.out | apply below_alloc | apply pw_below_drewN | apply below_drew1 | refine below_set ?_ GE210.out) | exact HB.out)⟩
    · rw [if_neg c3] at H
      have c3b0 : decide (0 ≤ a0_2) = false := decide_eq_false c3
      clear c3
      obtain rfl := Option.some.inj H
      go_enter Try.func23, Try.ntmps23
      go_wp2_with (first | ((with_reducible refine gate_dst (N := 1) rfl ?_); refine box_event ?hg (N := 1) ?hd (cs := #[.slice A0_0 l0_0.length c0_0, .bool a0_1, .int .i64 a0_2, .slice A0_3 l0_3.length c0_3]) (t := 36) ?hr ?_; (case hd => rfl); (case hg => rfl); (case hr => first | (go_simp; done) | (go_simp; rfl)); intro gb210 hg w6 hbox hb; have BK210 := Aside0.mk hbox; have GW210 := gE HB hg; have GE210 := gE HB hg; replace HB := hB HB hb; clear hb hbox hg; obtain ⟨hcz7_0, hcz7_1, hcz7_2, hcz7_3, hfz7_0, hfz7_1, hfz7_2, hfz7_3⟩ := bc4 BK210))
      go_ret
      exact ⟨by first | rfl | (simp [errW_none, errW_some] <;> rfl) | (simp [*, errW_none, errW_some] <;> rfl), by repeat (first | (with_reducible first | exact HB.out | apply below_alloc | apply pw_below_drewN | apply below_drew1 | refine below_set ?_ GE210.out) | exact HB.out)⟩
  · rw [if_neg c2] at H
    have c2b0 : decide ((l0_0.length : Int) ≤ 4096) = false := decide_eq_false c2
    have c2b1 : decide (l0_0.length ≤ 4096) = false := decide_eq_false (by omega)
    clear c2
    obtain rfl := Option.some.inj H
    go_enter Try.func23, Try.ntmps23
    go_wp2_with (first | ((with_reducible refine gate_dst (N := 1) rfl ?_); refine box_event ?hg (N := 1) ?hd (cs := #[.slice A0_0 l0_0.length c0_0, .bool a0_1, .int .i64 a0_2, .slice A0_3 l0_3.length c0_3]) (t := 36) ?hr ?_; (case hd => rfl); (case hg => rfl); (case hr => first | (go_simp; done) | (go_simp; rfl)); intro gb210 hg w8 hbox hb; have BK210 := Aside0.mk hbox; have GW210 := gE HB hg; have GE210 := gE HB hg; replace HB := hB HB hb; clear hb hbox hg; obtain ⟨hcz9_0, hcz9_1, hcz9_2, hcz9_3, hfz9_0, hfz9_1, hfz9_2, hfz9_3⟩ := bc4 BK210))
    go_ret
    exact ⟨by first | rfl | (simp [errW_none, errW_some] <;> rfl) | (simp [*, errW_none, errW_some] <;> rfl), by repeat (first | (with_reducible first | exact HB.out | apply below_alloc | apply pw_below_drewN | apply below_drew1 | refine below_set ?_ GE210.out) | exact HB.out)⟩

/-! ### pentroughref19_As: function 31 -/
def pentroughref19_As.f (l0_0 : List Int) (a0_1 : Bool) (a0_2 : Int) (l0_3 : List Int) : Option (List Int × Bool × Int × List Int) := (pentroughref19_Sane.f l0_0 a0_1 a0_2 l0_3).bind fun t213 => (if t213 = true then (some (l0_0, a0_1, a0_2, l0_3)) else (some (([] : List Int), false, 0, ([] : List Int))))
set_option maxHeartbeats 8000000 in
set_option maxRecDepth 100000 in
theorem pentroughref19_As.calls (P0_0_ : Nat → Prop) (A0_0 : Option Addr) (c0_0 : Nat) (l0_0 : List Int) (a0_1 : Bool) (a0_2 : Int) (P0_3_ : Nat → Prop) (A0_3 : Option Addr) (c0_3 : Nat) (l0_3 : List Int) (r1 : List Int) (r2 : Bool) (r3 : Int) (r4 : List Int) (w : World) (hs0_0 : Kd.V (Kd.int .u8) 5 w w.heap.size (fun k_ => P0_0_ k_) (.slice A0_0 l0_0.length c0_0) l0_0) (hs0_3 : Kd.V (Kd.int .u8) 5 w w.heap.size (fun k_ => P0_3_ k_) (.slice A0_3 l0_3.length c0_3) l0_3) (h : pentroughref19_As.f l0_0 a0_1 a0_2 l0_3 = some (r1, r2, r3, r4)) :
    Calls Try.prog 31 #[.agg #[.slice A0_0 l0_0.length c0_0, .bool a0_1, .int .i64 a0_2, .slice A0_3 l0_3.length c0_3]] w fun e w' => ∃ v0_ v3_ : Value, e = .returned (.agg #[v0_, .bool r2, .int .i64 r3, v3_]) ∧ Kd.V (Kd.int .u8) 5 w' w.heap.size (fun k_ => ((P0_0_ k_ ∨ P0_3_ k_) ∨ w.heap.size ≤ k_)) v0_ r1 ∧ Kd.V (Kd.int .u8) 5 w' w.heap.size (fun k_ => ((P0_0_ k_ ∨ P0_3_ k_) ∨ w.heap.size ≤ k_)) v3_ r4 ∧ Below w.heap.size w w' := by
  have hu36 := Try.underlying36
  have HO0_0 := Aside0.mk (show Kd.V (Kd.int .u8) 5 w w.heap.size (fun k_ => ((P0_0_ k_ ∨ P0_3_ k_) ∨ w.heap.size ≤ k_)) (.slice A0_0 l0_0.length c0_0) l0_0 from Kd.V_mono hs0_0 (fun k_ hk => .inl (.inl hk)))
  have HO0_3 := Aside0.mk (show Kd.V (Kd.int .u8) 5 w w.heap.size (fun k_ => ((P0_0_ k_ ∨ P0_3_ k_) ∨ w.heap.size ≤ k_)) (.slice A0_3 l0_3.length c0_3) l0_3 from Kd.V_mono hs0_3 (fun k_ hk => .inl (.inr hk)))
  have HB := Aside0.mk (Below.refl w.heap.size w)
  have H : ((pentroughref19_Sane.f l0_0 a0_1 a0_2 l0_3).bind fun t213 => (if t213 = true then (some (l0_0, a0_1, a0_2, l0_3)) else (some (([] : List Int), false, 0, ([] : List Int))))) = some (r1, r2, r3, r4) := h
  clear h
  replace H := Option.bind_eq_some_iff.mp H
  obtain ⟨t213, A20, H⟩ := H
  replace H : (if t213 = true then (some (l0_0, a0_1, a0_2, l0_3)) else (some (([] : List Int), false, 0, ([] : List Int)))) = some (r1, r2, r3, r4) := H
  have A2 := Aside0.mk A20
  clear A20
  by_cases c3 : t213 = true
  · subst c3
    have H1 : (some (l0_0, a0_1, a0_2, l0_3)) = some (r1, r2, r3, r4) := by rw [if_pos rfl] at H; exact H
    clear H
    have H := H1
    clear H1
    simp only [Option.some.injEq, Prod.mk.injEq] at H
    obtain ⟨rfl, rfl, rfl, rfl⟩ := H
    go_enter Try.func31, Try.ntmps31
    go_wp2_with (first | ((with_reducible refine gate_dst (N := 1) rfl ?_); refine box_event ?hg (N := 1) ?hd (cs := #[.slice A0_0 l0_0.length c0_0, .bool a0_1, .int .i64 a0_2, .slice A0_3 l0_3.length c0_3]) (t := 36) ?hr ?_; (case hd => rfl); (case hg => rfl); (case hr => first | (go_simp; done) | (go_simp; rfl)); intro gb211 hg w4 hbox hb; replace HO0_0 := vE HO0_0 hg hb; replace HO0_3 := vE HO0_3 hg hb; have BK211 := Aside0.mk hbox; have GW211 := gE HB hg; have GE211 := gE HB hg; replace HB := hB HB hb; clear hb hbox hg) | ((with_reducible refine gate_dst (N := 2) rfl ?_); refine box_event ?hg (N := 2) ?hd (cs := #[.slice none 0 0, .bool false, .int .i64 0, .slice none 0 0]) (t := 36) ?hr ?_; (case hd => rfl); (case hg => rfl); (case hr => first | (go_simp; done) | (go_simp; rfl)); intro gb212 hg w5 hbox hb; replace HO0_0 := vE HO0_0 hg hb; replace HO0_3 := vE HO0_3 hg hb; have BK212 := Aside0.mk hbox; have GW212 := gE HB hg; have GE212 := gE HB hg; replace HB := hB HB hb; have NB211_212 := nL BK211 hg; have NB212_211 := nG BK211 hg; replace BK211 := kB BK211 hb; clear hb hbox hg; have hnb6 := NB211_212.out; have hnc6 := NB212_211.out; obtain ⟨hcz7_0, hcz7_1, hcz7_2, hcz7_3, hfz7_0, hfz7_1, hfz7_2, hfz7_3⟩ := bc4 BK211) | ((with_reducible refine gate_callee (f := 23) rfl ?_); refine gL (some 4) rfl rfl Try.func23 (by kernel_rfl) rfl #[.agg #[.slice A0_0 l0_0.length c0_0, .bool a0_1, .int .i64 a0_2, .slice A0_3 l0_3.length c0_3]] rfl ?_; (with_reducible refine (pentroughref19_Sane.calls _ _ l0_0 a0_1 a0_2 _ _ l0_3 true _ ?side1 ?side2 ?side3 ?side4 A2.out).mono ?_); (case side1 => exact (Kd.V_reads' (vv HO0_0)).2.2); (case side2 => exact (Kd.V_reads' HO0_0.out).2.1); (case side3 => exact (Kd.V_reads' (vv HO0_3)).2.2); (case side4 => exact (Kd.V_reads' HO0_3.out).2.1); rintro e w8 ⟨rfl, hb⟩; refine ⟨_, rfl, ?_⟩; replace HO0_0 := vB HO0_0 hb; replace HO0_3 := vB HO0_3 hb; replace BK211 := kB BK211 hb; replace BK212 := kB BK212 hb; replace HB := hB HB hb; (try clear hb); (try clear hb2); (try clear hk); (try clear hi); obtain ⟨hcz9_0, hcz9_1, hcz9_2, hcz9_3, hfz9_0, hfz9_1, hfz9_2, hfz9_3⟩ := bc4 BK211; obtain ⟨hcz10_0, hcz10_1, hcz10_2, hcz10_3, hfz10_0, hfz10_1, hfz10_2, hfz10_3⟩ := bc4 BK212))
    refine bodyPost_ret (results_cell_row rfl _ _ gb212 36 #[.slice A0_0 l0_0.length c0_0, .bool a0_1, .int .i64 a0_2, .slice A0_3 l0_3.length c0_3] (0, 0) _ rfl (by (with_reducible repeat (first | refine blk_drewN ?_ _ | refine blk_drew ?_ | refine blk_alloc ?_ _)); refine blk_put (cs := #[.slice A0_0 l0_0.length c0_0, .bool a0_1, .int .i64 a0_2, .slice none 0 0]) ?_ 3 _ rfl; (with_reducible repeat (first | refine blk_drewN ?_ _ | refine blk_drew ?_ | refine blk_alloc ?_ _)); refine blk_put (cs := #[.slice A0_0 l0_0.length c0_0, .bool a0_1, .int .i64 0, .slice none 0 0]) ?_ 2 _ rfl; (with_reducible repeat (first | refine blk_drewN ?_ _ | refine blk_drew ?_ | refine blk_alloc ?_ _)); refine blk_put (cs := #[.slice A0_0 l0_0.length c0_0, .bool false, .int .i64 0, .slice none 0 0]) ?_ 1 _ rfl; (with_reducible repeat (first | refine blk_drewN ?_ _ | refine blk_drew ?_ | refine blk_alloc ?_ _)); refine blk_put (cs := #[.slice none 0 0, .bool false, .int .i64 0, .slice none 0 0]) ?_ 0 _ rfl; (with_reducible repeat (first | refine blk_drewN ?_ _ | refine blk_drew ?_ | refine blk_alloc ?_ _)); exact BK212.out) Try.underlying36 rfl (by kernel_rfl)) rfl ?_
    exact ⟨_, _, by first | rfl | (simp [errW_none, errW_some] <;> rfl) | (simp [*, errW_none, errW_some] <;> rfl), by (with_reducible repeat (first | apply Kd.V_alloc | apply Kd.V_drewN | apply Kd.V_drew)); exact Kd.V_mono (Kd.V_far (p := ⟨gb212, 3, none⟩) (Kd.V_far (p := ⟨gb212, 2, none⟩) (Kd.V_far (p := ⟨gb212, 1, none⟩) (Kd.V_far (p := ⟨gb212, 0, none⟩) (Kd.V_mono HO0_0.out (fun k_ hk => (⟨hk, hk.2⟩ : _ ∧ k_ ≠ gb212))) (fun _ hk => hk.2) (.slice A0_0 l0_0.length c0_0)) (fun _ hk => hk.2) (.bool a0_1)) (fun _ hk => hk.2) (.int .i64 a0_2)) (fun _ hk => hk.2) (.slice A0_3 l0_3.length c0_3)) (fun _ hk => hk.1.1.1), by (with_reducible repeat (first | apply Kd.V_alloc | apply Kd.V_drewN | apply Kd.V_drew)); exact Kd.V_mono (Kd.V_far (p := ⟨gb212, 3, none⟩) (Kd.V_far (p := ⟨gb212, 2, none⟩) (Kd.V_far (p := ⟨gb212, 1, none⟩) (Kd.V_far (p := ⟨gb212, 0, none⟩) (Kd.V_mono HO0_3.out (fun k_ hk => (⟨hk, hk.2⟩ : _ ∧ k_ ≠ gb212))) (fun _ hk => hk.2) (.slice A0_0 l0_0.length c0_0)) (fun _ hk => hk.2) (.bool a0_1)) (fun _ hk => hk.2) (.int .i64 a0_2)) (fun _ hk => hk.2) (.slice A0_3 l0_3.length c0_3)) (fun _ hk => hk.1.1.1), by repeat (first | (with_reducible first | exact HB.out | apply below_alloc | apply pw_below_drewN | apply below_drew1 | refine below_set ?_ GE211.out | refine below_set ?_ GE212.out) | exact HB.out)⟩
  · replace c3 := Bool.eq_false_iff.mpr c3
    subst c3
    have H1 : (some (([] : List Int), false, 0, ([] : List Int))) = some (r1, r2, r3, r4) := by rw [if_neg (show ¬ (false = true) by decide)] at H; exact H
    clear H
    have H := H1
    clear H1
    simp only [Option.some.injEq, Prod.mk.injEq] at H
    obtain ⟨rfl, rfl, rfl, rfl⟩ := H
    go_enter Try.func31, Try.ntmps31
    go_wp2_with (first | ((with_reducible refine gate_dst (N := 1) rfl ?_); refine box_event ?hg (N := 1) ?hd (cs := #[.slice A0_0 l0_0.length c0_0, .bool a0_1, .int .i64 a0_2, .slice A0_3 l0_3.length c0_3]) (t := 36) ?hr ?_; (case hd => rfl); (case hg => rfl); (case hr => first | (go_simp; done) | (go_simp; rfl)); intro gb211 hg w11 hbox hb; replace HO0_0 := vE HO0_0 hg hb; replace HO0_3 := vE HO0_3 hg hb; have BK211 := Aside0.mk hbox; have GW211 := gE HB hg; have GE211 := gE HB hg; replace HB := hB HB hb; clear hb hbox hg) | ((with_reducible refine gate_dst (N := 2) rfl ?_); refine box_event ?hg (N := 2) ?hd (cs := #[.slice none 0 0, .bool false, .int .i64 0, .slice none 0 0]) (t := 36) ?hr ?_; (case hd => rfl); (case hg => rfl); (case hr => first | (go_simp; done) | (go_simp; rfl)); intro gb212 hg w12 hbox hb; replace HO0_0 := vE HO0_0 hg hb; replace HO0_3 := vE HO0_3 hg hb; have BK212 := Aside0.mk hbox; have GW212 := gE HB hg; have GE212 := gE HB hg; replace HB := hB HB hb; have NB211_212 := nL BK211 hg; have NB212_211 := nG BK211 hg; replace BK211 := kB BK211 hb; clear hb hbox hg; have hnb13 := NB211_212.out; have hnc13 := NB212_211.out; obtain ⟨hcz14_0, hcz14_1, hcz14_2, hcz14_3, hfz14_0, hfz14_1, hfz14_2, hfz14_3⟩ := bc4 BK211) | ((with_reducible refine gate_callee (f := 23) rfl ?_); refine gL (some 4) rfl rfl Try.func23 (by kernel_rfl) rfl #[.agg #[.slice A0_0 l0_0.length c0_0, .bool a0_1, .int .i64 a0_2, .slice A0_3 l0_3.length c0_3]] rfl ?_; (with_reducible refine (pentroughref19_Sane.calls _ _ l0_0 a0_1 a0_2 _ _ l0_3 false _ ?side1 ?side2 ?side3 ?side4 A2.out).mono ?_); (case side1 => exact (Kd.V_reads' (vv HO0_0)).2.2); (case side2 => exact (Kd.V_reads' HO0_0.out).2.1); (case side3 => exact (Kd.V_reads' (vv HO0_3)).2.2); (case side4 => exact (Kd.V_reads' HO0_3.out).2.1); rintro e w15 ⟨rfl, hb⟩; refine ⟨_, rfl, ?_⟩; replace HO0_0 := vB HO0_0 hb; replace HO0_3 := vB HO0_3 hb; replace BK211 := kB BK211 hb; replace BK212 := kB BK212 hb; replace HB := hB HB hb; (try clear hb); (try clear hb2); (try clear hk); (try clear hi); obtain ⟨hcz16_0, hcz16_1, hcz16_2, hcz16_3, hfz16_0, hfz16_1, hfz16_2, hfz16_3⟩ := bc4 BK212))
    refine bodyPost_ret (results_cell_row rfl _ _ gb212 36 #[.slice none 0 0, .bool false, .int .i64 0, .slice none 0 0] (0, 0) _ rfl (by (with_reducible repeat (first | refine blk_drewN ?_ _ | refine blk_drew ?_ | refine blk_alloc ?_ _)); refine blk_put (cs := #[.slice none 0 0, .bool false, .int .i64 0, .slice none 0 0]) ?_ 3 _ rfl; (with_reducible repeat (first | refine blk_drewN ?_ _ | refine blk_drew ?_ | refine blk_alloc ?_ _)); refine blk_put (cs := #[.slice none 0 0, .bool false, .int .i64 0, .slice none 0 0]) ?_ 2 _ rfl; (with_reducible repeat (first | refine blk_drewN ?_ _ | refine blk_drew ?_ | refine blk_alloc ?_ _)); refine blk_put (cs := #[.slice none 0 0, .bool false, .int .i64 0, .slice none 0 0]) ?_ 1 _ rfl; (with_reducible repeat (first | refine blk_drewN ?_ _ | refine blk_drew ?_ | refine blk_alloc ?_ _)); refine blk_put (cs := #[.slice none 0 0, .bool false, .int .i64 0, .slice none 0 0]) ?_ 0 _ rfl; (with_reducible repeat (first | refine blk_drewN ?_ _ | refine blk_drew ?_ | refine blk_alloc ?_ _)); exact BK212.out) Try.underlying36 rfl (by kernel_rfl)) rfl ?_
    exact ⟨_, _, by first | rfl | (simp [errW_none, errW_some] <;> rfl) | (simp [*, errW_none, errW_some] <;> rfl), Kd.V_mono (Kd.V_nil _ _ _ _ _) (fun k_ hk => by first | exact ⟨(.inr (hk.1)), hk.2⟩ | exact (.inr (hk))), Kd.V_mono (Kd.V_nil _ _ _ _ _) (fun k_ hk => by first | exact ⟨(.inr (hk.1)), hk.2⟩ | exact (.inr (hk))), by repeat (first | (with_reducible first | exact HB.out | apply below_alloc | apply pw_below_drewN | apply below_drew1 | refine below_set ?_ GE211.out | refine below_set ?_ GE212.out) | exact HB.out)⟩

end Go.Proofs.Ytocmnggcbpdnjaa.I
