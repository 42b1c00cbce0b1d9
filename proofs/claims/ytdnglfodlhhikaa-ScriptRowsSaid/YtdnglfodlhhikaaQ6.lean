-- Laid by mix.py, a program of this session, with the kit's print.py; walks by hand come out of wip/over.
import Derived.Defers
import Derived.Recover
import Derived.Laws.Pointers
import Derived.Deep.RegionHeld3
import Derived.WalkLawsBesides
import Derived.Test.YtdnglfodlhhikaaQ0
import Derived.Test.YtdnglfodlhhikaaQ5
namespace Go.Proofs.Ytdnglfodlhhikaa.Q
open Go.RowKit Go.Proofs.YtdnglfodlhhikaaW.PrintWords Go.Proofs.YtdnglfodlhhikaaW.PrintLast Go.Proofs.YtdnglfodlhhikaaW.PrintMore
attribute [local go_sem] max2_int min2_int max_two min_two max_three min_three max_four min_four   -- for this text's walks alone
set_option linter.unusedVariables false
set_option linter.unusedSimpArgs false

/-! ### script_Get: function 13 -/
def script_Get.f (k : Nat) (l0 : List Int) : Option (Int × Int × Int × List Int × Int × Int) := if (l0.length : Int) = 0 then (some (0, 0, 0, ([] : List Int), 0, 1)) else (if 0 < (l0.length : Int) then (if (wrap64 (rd l0 0)) > 7 then (some (0, 0, 0, ([] : List Int), 0, 2)) else (if (wrap64 (rd l0 0)) < 6 then (if (l0.length : Int) < 2 then (some (0, 0, 0, ([] : List Int), 0, 1)) else (if 1 < (l0.length : Int) then (if (wrap64 (rd l0 1)) > 63 then (some (0, 0, 0, ([] : List Int), 0, 4)) else (if (wrap64 (rd l0 0)) = 1 then (if 2 ≤ (l0.length : Int) then ((varint_Take.f k (l0.drop 2)).bind fun bt152 => (if bt152.2.2 = 0 then (if bt152.1 > 4096 then (some (0, 0, 0, ([] : List Int), 0, 3)) else (if (wrap64 ((wrap64 (2 + bt152.2.1)) + bt152.1)) > (l0.length : Int) then (some (0, 0, 0, ([] : List Int), 0, 1)) else (if 0 ≤ (wrap64 (2 + bt152.2.1)) then (if (wrap64 (2 + bt152.2.1)) ≤ (wrap64 ((wrap64 (2 + bt152.2.1)) + bt152.1)) then (if (wrap64 ((wrap64 (2 + bt152.2.1)) + bt152.1)) ≤ (l0.length : Int) then (some (1, wrap64 (rd l0 1), 0, ((l0.take ((wrap64 ((wrap64 (2 + bt152.2.1)) + bt152.1)) : Int).toNat).drop ((wrap64 (2 + bt152.2.1)) : Int).toNat), wrap64 ((wrap64 (2 + bt152.2.1)) + bt152.1), 0)) else (none)) else (none)) else (none)))) else (some (0, 0, 0, ([] : List Int), 0, bt152.2.2)))) else (none)) else (if (wrap64 (rd l0 0)) = 3 then (if 2 ≤ (l0.length : Int) then ((varint_Take.f k (l0.drop 2)).bind fun bt165 => (if bt165.2.2 = 0 then (if bt165.1 > 4096 then (some (0, 0, 0, ([] : List Int), 0, 3)) else (some (3, wrap64 (rd l0 1), bt165.1, ([] : List Int), wrap64 (2 + bt165.2.1), 0))) else (some (0, 0, 0, ([] : List Int), 0, bt165.2.2)))) else (none)) else (if (wrap64 (rd l0 0)) = 5 then (if (l0.length : Int) ≤ 2 then (some (0, 0, 0, ([] : List Int), 0, 1)) else (if 2 < (l0.length : Int) then (if (wrap64 (rd l0 2)) > 6 then (some (0, 0, 0, ([] : List Int), 0, 2)) else (some (5, wrap64 (rd l0 1), wrap64 (rd l0 2), ([] : List Int), 3, 0))) else (none))) else (some (wrap64 (rd l0 0), wrap64 (rd l0 1), 0, ([] : List Int), 2, 0)))))) else (none))) else (if (wrap64 (rd l0 0)) = 7 then (if (l0.length : Int) ≤ 1 then (some (0, 0, 0, ([] : List Int), 0, 1)) else (if 1 < (l0.length : Int) then (if (wrap64 (rd l0 1)) > 7 then (some (0, 0, 0, ([] : List Int), 0, 2)) else (some (7, 0, wrap64 (rd l0 1), ([] : List Int), 2, 0))) else (none))) else (some (6, 0, 0, ([] : List Int), 1, 0))))) else (none))
theorem script_Get.mono : ∀ a0 k, LeO (script_Get.f k a0) (script_Get.f (k + 1) a0) := by
  intro a0 k
  unfold script_Get.f
  repeat' first
      | (with_reducible exact varint_Take.mono _ _)
      | (with_reducible exact LeO.refl _)
      | (with_reducible exact LeO.none _)
      | (with_reducible refine LeO.ite ?_ ?_)
      | (with_reducible refine LeO.bind ?_ (fun _ => ?_))
      | exact varint_Take.mono _ _
      | exact LeO.none _
      | refine LeO.ite ?_ ?_
      | refine LeO.bind ?_ (fun _ => ?_)
-- import Derived.Defers
-- import Derived.Recover
-- import Derived.Laws.Pointers
-- import Derived.Deep.RegionHeld3
-- import Derived.WalkLawsBesides
/-- A reader at block g of w, that has l left: bytes that stood there ahead of the call (w0). -/
structure Rd (w0 w : World) (g : Nat) (l : List Int) (A : Option Addr) (n c : Nat) : Prop where
  below : Below w0.heap.size w0 w
  ge : w0.heap.size ≤ g
  lt : g < w.heap.size
  cell : w.cell? ⟨g, 0, none⟩ = some (.slice A n c)
  free : w.frozen? ⟨g, 0, none⟩ = false
  len : l.length = n
  le : n ≤ c
  reads : Kd.F (Kd.int .u8) w0 (fun k => k < w0.heap.size) A l.length l
section
variable {w0 w w1 : World} {g n c : Nat} {l : List Int} {A : Option Addr}
theorem Rd.now (h : Rd w0 w g l A n c) : Kd.C (Kd.int .u8) w A l.length l := Kd.F_now (Kd.F_below h.reads h.below)
theorem Rd.later (h : Rd w0 w g l A n c) (hb : Below w.heap.size w w1) : Rd w0 w1 g l A n c :=
  ⟨below_step h.below hb, h.ge, Nat.lt_of_lt_of_le h.lt hb.size, (hb.cell (p := ⟨g, 0, none⟩) h.lt).trans h.cell, (hb.frozen (p := ⟨g, 0, none⟩) h.lt).trans h.free, h.len, h.le, h.reads⟩
theorem Rd.cut (h : Rd w0 w g l A n c) (k : Nat) (hk : k ≤ n) : ∃ A', (∀ W : World, (Instr.slice 22 (.slice A n c) (some (.int .i64 (k : Int))) none none).run Try.prog W = .ok (.slice A' (n - k) (c - k)) W) ∧
    ∀ w1, Below w.heap.size w w1 → Rd w0 (w1.setCell ⟨g, 0, none⟩ (.slice A' (n - k) (c - k))) g (l.drop k) A' (n - k) (c - k) := by
  obtain ⟨i5, hi5, hz5, hsz5, hby5⟩ := info_parts info5
  have hl := h.len
  have hle := h.le
  have h1 := cut_from (P := Try.prog) 22 5 .i64 Try.underlying22 hi5 1 hsz5 A n c (k : Int) (by omega) (by omega)
  simp only [Int.toNat_natCast] at h1
  refine ⟨_, h1, fun w1 hb => ?_⟩
  have h' := h.later hb
  have hlt := h'.lt
  refine ⟨h'.below.setCell h.ge _, h.ge, by simpa using hlt, ?_, ?_, by rw [List.length_drop]; omega, by omega, Kd.F_cut h.reads (by omega) (by omega)⟩
  · have := h'.cell
    simp [go_sem, this]
  · have := h'.free
    simpa [go_sem] using this
end
theorem keep_set (w : World) (g : Nat) (u : Value) : KeepBut w (w.setCell ⟨g, 0, none⟩ u) g none := ⟨by simp, fun i _ hi _ => Below.heap_setCell w ⟨g, 0, none⟩ u i hi⟩
theorem keep_below {w w1 w2 : World} {g : Nat} (hb : Below w.heap.size w w1) (h : KeepBut w1 w2 g none) : KeepBut w w2 g none := ⟨Nat.le_trans hb.size h.1, fun i hi hg hr => (h.2 i (Nat.lt_of_lt_of_le hi hb.size) hg hr).trans (hb.block i hi)⟩
theorem keep_trans {w w1 w2 : World} {g : Nat} (h1 : KeepBut w w1 g none) (h2 : KeepBut w1 w2 g none) : KeepBut w w2 g none := ⟨Nat.le_trans h1.1 h2.1, fun i hi hg hr => (h2.2 i (Nat.lt_of_lt_of_le hi h1.1) hg hr).trans (h1.2 i hi hg hr)⟩
/-- What a reader's call panics with. -/
def Wrong (c : Int) : Ending := .panicked [{ v := .iface 51 (.int .i64 c), recovered := false }]
set_option maxHeartbeats 1000000 in
theorem small_none (g : Nat) (m e : Int) (w0 w : World) (A : Option Addr) (c : Nat) (hr : Rd w0 w g [] A 0 c) :
    Calls Try.prog 31 #[.pointer (some ⟨g, 0, none⟩), .int .i64 m, .int .i64 e] w fun en w' => en = Wrong 1 ∧ w = w' := by
  have k0 := hr.cell
  have q0 := hr.free
  have HR := Aside0.mk hr
  clear hr
  go_enter Try.func31, Try.ntmps31
  go_wp2
  exact ⟨rfl, rfl, rfl⟩
theorem Rd.first {w0 w : World} {g n c : Nat} {x : Int} {t : List Int} {A : Option Addr} (h : Rd w0 w g (x :: t) A n c) : ∃ ad, A = some ad ∧ w.cell? ad = some (.int .u8 x) ∧ 0 < n := by
  have hr : ReadsInt w .u8 A (x :: t).length (x :: t) := Kd.reads_of_C (enc := Value.int .u8) (d := (0 : Int)) (h1 := fun _ => rfl) h.now
  obtain ⟨ad, e, hc⟩ := hr.2.2 (by simp)
  have h0 := hc 0 (by simp)
  refine ⟨ad, e, ?_, by have := h.len; simp at this; omega⟩
  rw [show ad.add 0 = ad by simp [Addr.add]] at h0
  simpa using h0
set_option maxHeartbeats 1000000 in
theorem small_big (g : Nat) (m e x y : Int) (t : List Int) (w0 w : World) (A : Option Addr) (n c : Nat) (hr : Rd w0 w g (x :: t) A n c) (hxy : wrap64 x = y) (hm : m < y) :
    Calls Try.prog 31 #[.pointer (some ⟨g, 0, none⟩), .int .i64 m, .int .i64 e] w fun en w' => en = Wrong e ∧ w = w' := by
  have k0 := hr.cell
  have q0 := hr.free
  obtain ⟨ad, rfl, hx, hn⟩ := hr.first
  have hn9 : n ≤ 9223372036854775807 := by have h1 := hr.now.2.1; have h2 := hr.len; omega
  have z0 : ((n : Int) == 0) = false := beq_eq_false_iff_ne.mpr (by omega)
  have ew : IntKind.i64.wrap x = y := by rw [i64_w]; exact hxy
  have HR := Aside0.mk hr
  clear hr
  go_enter Try.func31, Try.ntmps31
  go_wp2
  exact ⟨rfl, rfl, rfl⟩
/-- Behind a reader's call that hands back: what the reader has left. -/
def After (w0 w : World) (g : Nat) (l : List Int) (w' : World) : Prop := KeepBut w w' g none ∧ ∃ A n c, Rd w0 w' g l A n c
set_option maxHeartbeats 1000000 in
theorem small_ok (g : Nat) (m e x y : Int) (t : List Int) (w0 w : World) (A : Option Addr) (n c : Nat) (hr : Rd w0 w g (x :: t) A n c) (hxy : wrap64 x = y) (hm : y ≤ m) :
    Calls Try.prog 31 #[.pointer (some ⟨g, 0, none⟩), .int .i64 m, .int .i64 e] w fun en w' => en = .returned (.int .i64 y) ∧ After w0 w g t w' := by
  have k0 := hr.cell
  have q0 := hr.free
  obtain ⟨ad, rfl, hx, hn⟩ := hr.first
  obtain ⟨A', hcut, hput⟩ := hr.cut 1 (by omega)
  have hn9 : n ≤ 9223372036854775807 := by have h1 := hr.now.2.1; have h2 := hr.len; omega
  have z0 : ((n : Int) == 0) = false := beq_eq_false_iff_ne.mpr (by omega)
  have ew : IntKind.i64.wrap x = y := by rw [i64_w]; exact hxy
  have hcut' : ∀ W : World, (Instr.slice 22 (.slice (some ad) n c) (some (.int .i64 1)) none none).run Try.prog W = .ok (.slice A' (n - 1) (c - 1)) W := hcut
  have HP := Aside0.mk hput
  clear hr hput hcut
  go_enter Try.func31, Try.ntmps31
  go_wp2
  go_ret
  exact ⟨rfl, keep_set _ _ _, _, _, _, HP.out w (Below.refl _ _)⟩
set_option maxHeartbeats 2000000 in
theorem number_bad (g : Nat) (l : List Int) (w0 w : World) (A : Option Addr) (n c : Nat) (hr : Rd w0 w g l A n c) (k : Nat) (v j x y : Int) (hT : varint_Take.f k l = some (v, j, x)) (hy : (x ≠ 0 ∧ y = x) ∨ (x = 0 ∧ 4096 < v ∧ y = 3)) :
    Calls Try.prog 33 #[.pointer (some ⟨g, 0, none⟩)] w fun en w' => en = Wrong y ∧ Below w.heap.size w w' := by
  have k0 := hr.cell
  have q0 := hr.free
  have hle := hr.le
  have hl := hr.len
  subst hl
  have HN := Aside0.mk hr.now
  have HR := Aside0.mk hr
  clear hr
  rcases hy with ⟨h, rfl⟩ | ⟨rfl, h, rfl⟩
  · have z0 : (y == 0) = false := beq_eq_false_iff_ne.mpr h
    have z1 : (y != 0) = true := bne_iff_ne.mpr h
    have HT := Aside0.mk hT
    clear hT h
    go_enter Try.func33, Try.ntmps33
    go_wp2_with (go_at_call 35; refine (varint_Take.calls _ _ _ _ _ _ _ _ HN.out hle HT.out).mono ?_; rintro e w1 ⟨rfl, hb⟩; have HB := Aside0.mk hb; clear hb)
    exact ⟨rfl, rfl, HB.out⟩
  · have HT := Aside0.mk hT
    have hgt : (4096 : Int) < v := h
    clear hT
    go_enter Try.func33, Try.ntmps33
    go_wp2_with (go_at_call 35; refine (varint_Take.calls _ _ _ _ _ _ _ _ HN.out hle HT.out).mono ?_; rintro e w1 ⟨rfl, hb⟩; have HB := Aside0.mk hb; clear hb)
    exact ⟨rfl, rfl, HB.out⟩
set_option maxHeartbeats 2000000 in
theorem number_ok (g : Nat) (l : List Int) (w0 w : World) (A : Option Addr) (n c : Nat) (hr : Rd w0 w g l A n c) (k : Nat) (v : Int) (j : Nat) (hT : varint_Take.f k l = some (v, (j : Int), 0)) (hv : v ≤ 4096) (hj : j ≤ n) :
    Calls Try.prog 33 #[.pointer (some ⟨g, 0, none⟩)] w fun en w' => en = .returned (.int .i64 v) ∧ After w0 w g (l.drop j) w' := by
  have k0 := hr.cell
  have q0 := hr.free
  have hle := hr.le
  have hl := hr.len
  subst hl
  have hlt := hr.lt
  obtain ⟨A', hcut, hput⟩ := hr.cut j hj
  have HN := Aside0.mk hr.now
  have HP := Aside0.mk hput
  have HR := Aside0.mk hr
  have hgt : ¬ (4096 : Int) < v := by omega
  have HT := Aside0.mk hT
  clear hT hr hput
  go_enter Try.func33, Try.ntmps33
  go_wp2_with (go_at_call 35; refine (varint_Take.calls _ _ _ _ _ _ _ _ HN.out hle HT.out).mono ?_; rintro e w1 ⟨rfl, hb⟩; have HB := Aside0.mk hb; have k1 := (hb.cell (p := ⟨g, 0, none⟩) hlt).trans k0; have q1 := (hb.frozen (p := ⟨g, 0, none⟩) hlt).trans q0; clear hb)
  go_ret
  exact ⟨rfl, keep_below HB.out (keep_set _ _ _), _, _, _, HP.out _ HB.out⟩
set_option maxHeartbeats 2000000 in
theorem bytes_short (g : Nat) (l : List Int) (m : Int) (w0 w : World) (A : Option Addr) (n c : Nat) (hr : Rd w0 w g l A n c) (hm : (n : Int) < m) :
    Calls Try.prog 32 #[.pointer (some ⟨g, 0, none⟩), .int .i64 m] w fun en w' => en = Wrong 1 ∧ w = w' := by
  have k0 := hr.cell
  have q0 := hr.free
  have HR := Aside0.mk hr
  clear hr
  go_enter Try.func32, Try.ntmps32
  go_wp2
  exact ⟨rfl, rfl, rfl⟩
set_option maxHeartbeats 2000000 in
theorem bytes_ok (g : Nat) (l : List Int) (m : Nat) (w0 w : World) (A : Option Addr) (n c : Nat) (hr : Rd w0 w g l A n c) (hm : m ≤ n) (hs : m ≤ 4096) :
    Calls Try.prog 32 #[.pointer (some ⟨g, 0, none⟩), .int .i64 (m : Int)] w fun en w' => ∃ B d, en = .returned (.slice B m d) ∧ m ≤ d ∧ Kd.F (Kd.int .u8) w' (fun k => w.heap.size ≤ k) B m (l.take m) ∧ After w0 w g (l.drop m) w' := by
  obtain ⟨i5, hi5, hz5, hsz5, hby5⟩ := info_parts info5
  have k0 := hr.cell
  have q0 := hr.free
  have hle := hr.le
  have hl := hr.len
  subst hl
  have hlt := hr.lt
  obtain ⟨A', hcut, hput⟩ := hr.cut m hm
  have hto := cut_to (P := Try.prog) 22 5 .i64 Try.underlying22 hi5 A l.length c (m : Int) (by omega) (by omega) hle
  simp only [Int.toNat_natCast] at hto
  have HC := Aside0.mk (Kd.C_take hr.now hm)
  have HP := Aside0.mk hput
  have HR := Aside0.mk hr
  have hmm : ¬ (l.length : Int) < (m : Int) := by omega
  have hlm : (l.take m).length = m := by rw [List.length_take]; omega
  rw [hlm] at HC
  have HL := Aside0.mk hlm
  clear hr hput hlm
  go_enter Try.func32, Try.ntmps32
  go_wp2_with (at_builtin; refine print_append_row (w0 := w) w.heap.size rfl (.const (.slice none 0 0)) (.tmp 19) 22 5 .u8 1 rfl Try.underlying22 info5 (by decide) (.slice none 0 0) [] (l.take m) A m c rfl rfl (own_nil _ _ _ _) (Kd.reads_of_C (enc := Value.int .u8) (d := (0 : Int)) (h1 := fun _ => rfl) HC.out) (Below.refl _ _) (Nat.le_refl _) (by simp; omega) ?_; intro v1 w1 ho hb hg hat; have HO := Aside0.mk ho; have HB := Aside0.mk hb; have k1 := (hb.cell (p := ⟨g, 0, none⟩) hlt).trans k0; have q1 := (hb.frozen (p := ⟨g, 0, none⟩) hlt).trans q0; obtain ⟨B, d, rfl⟩ := own_slice ho; clear ho hb hg hat)
  go_ret
  have ho := HO.out
  simp only [List.nil_append, HL.out] at ho
  have ho' : w1.ownsRow w.heap.size 5 1 (.slice B m d) (l.take m).length (encs (Value.int .u8) (l.take m)) := by rw [HL.out]; exact ho
  have hR := Kd.R_of_own (enc := Value.int .u8) (h1 := fun _ => rfl) (ok := fun k => w.heap.size ≤ k) (e := 5) (xs := l.take m) ho' (fun k hk => own_base ho k hk)
  exact ⟨B, d, rfl, (Kd.R_reads' hR).2.1, Kd.F_far (Kd.R_F hR) (fun k hk => by have : w.heap.size ≤ k := hk; show k ≠ g; omega) _, keep_below HB.out (keep_set _ _ _), _, _, _, HP.out _ HB.out⟩
theorem bcell {W w1 : World} (hb : Below W.heap.size W w1) : (∀ b o, b < W.heap.size → w1.cell? ⟨b, o, none⟩ = W.cell? ⟨b, o, none⟩) ∧ (∀ b o, b < W.heap.size → w1.frozen? ⟨b, o, none⟩ = W.frozen? ⟨b, o, none⟩) :=
  ⟨fun b o h => hb.cell (p := ⟨b, o, none⟩) h, fun b o h => hb.frozen (p := ⟨b, o, none⟩) h⟩
theorem keep_cells {w w' : World} {g : Nat} (h : KeepBut w w' g none) (b o : Nat) (hb : b < w.heap.size) (hg : b ≠ g) : w'.cell? ⟨b, o, none⟩ = w.cell? ⟨b, o, none⟩ ∧ w'.frozen? ⟨b, o, none⟩ = w.frozen? ⟨b, o, none⟩ :=
  ⟨World.cell?_of_block (h.2 b hb hg (by simp)), World.frozen?_of_block (h.2 b hb hg (by simp))⟩
theorem Rd.far {w0 w : World} {g n c : Nat} {l : List Int} {A : Option Addr} (h : Rd w0 w g l A n c) (E o : Nat) (hE : w0.heap.size ≤ E) (hg : E ≠ g) (u : Value) : Rd w0 (w.setCell ⟨E, o, none⟩ u) g l A n c := by
  have h1 := h.cell
  have h2 := h.free
  have h3 := h.lt
  have hne : g ≠ E := fun e => hg e.symm
  refine ⟨h.below.setCell hE _, h.ge, by simpa using h3, ?_, ?_, h.len, h.le, h.reads⟩
  · rw [World.cell?_setCell_other _ _ _ _ (fun e => hg (by injection e))]; exact h1
  · simpa [go_sem] using h2
/-- The frame of a call of event that began in w: its two blocks (the result's, and e's at E). -/
structure Ev (w0 w W : World) (g E : Nat) (k i n : Int) (v : Value) : Prop where
  keep : KeepBut w W g none
  lt0 : w.heap.size < E
  lt1 : E < W.heap.size
  ge : w0.heap.size ≤ w.heap.size
  gl : g < w.heap.size
  r : W.cell? ⟨w.heap.size, 0, none⟩ = some (.int .i64 0) ∧ W.cell? ⟨w.heap.size, 1, none⟩ = some (.int .i64 0) ∧ W.cell? ⟨w.heap.size, 2, none⟩ = some (.int .i64 0) ∧ W.cell? ⟨w.heap.size, 3, none⟩ = some (.slice none 0 0)
  rf : W.frozen? ⟨w.heap.size, 0, none⟩ = false ∧ W.frozen? ⟨w.heap.size, 1, none⟩ = false ∧ W.frozen? ⟨w.heap.size, 2, none⟩ = false ∧ W.frozen? ⟨w.heap.size, 3, none⟩ = false
  e : W.cell? ⟨E, 0, none⟩ = some (.int .i64 k) ∧ W.cell? ⟨E, 1, none⟩ = some (.int .i64 i) ∧ W.cell? ⟨E, 2, none⟩ = some (.int .i64 n) ∧ W.cell? ⟨E, 3, none⟩ = some v
  ef : W.frozen? ⟨E, 0, none⟩ = false ∧ W.frozen? ⟨E, 1, none⟩ = false ∧ W.frozen? ⟨E, 2, none⟩ = false ∧ W.frozen? ⟨E, 3, none⟩ = false
theorem Ev.made {w0 w w1 : World} {g : Nat} (ge : w0.heap.size ≤ w.heap.size) (gl : g < w.heap.size) (hk : KeepBut (w.alloc (.cells #[.int .i64 0, .int .i64 0, .int .i64 0, .slice none 0 0] 27)) w1 g none) (k : Int) :
    Ev w0 w (w1.alloc (.cells #[.int .i64 k, .int .i64 0, .int .i64 0, .slice none 0 0] 27)) g w1.heap.size k 0 0 (.slice none 0 0) := by
  have hz := hk.1
  simp at hz
  have c := fun o => keep_cells hk w.heap.size o (by simp) (by omega)
  have hlt : w.heap.size < w1.heap.size := by omega
  refine ⟨⟨by simp; omega, fun i hi hg hr => ?_⟩, hlt, by simp, ge, gl, ?_, ?_, ?_, ?_⟩
  · have h1 := hk.2 i (by simp; omega) hg hr
    have e1 : (w1.alloc (.cells #[.int .i64 k, .int .i64 0, .int .i64 0, .slice none 0 0] 27)).heap[i]? = w1.heap[i]? := (below_alloc (Below.refl w1.heap.size w1) _).block i (by omega)
    have e2 : (w.alloc (.cells #[.int .i64 0, .int .i64 0, .int .i64 0, .slice none 0 0] 27)).heap[i]? = w.heap[i]? := (below_alloc (Below.refl w.heap.size w) _).block i hi
    rw [e1, h1, e2]
  · refine ⟨?_, ?_, ?_, ?_⟩ <;> (rw [World.cell?_alloc_lt w1 _ _ hlt, (c _).1]; simp [go_sem])
  · refine ⟨?_, ?_, ?_, ?_⟩ <;> (rw [(bcell (below_alloc (Below.refl w1.heap.size w1) _)).2 _ _ hlt, (c _).2]; simp [go_sem])
  · refine ⟨?_, ?_, ?_, ?_⟩ <;> simp [go_sem]
  · refine ⟨?_, ?_, ?_, ?_⟩ <;> simp [go_sem]
theorem Ev.call {w0 w W W' : World} {g E : Nat} {k i n : Int} {v : Value} (h : Ev w0 w W g E k i n v) (hk : KeepBut W W' g none) : Ev w0 w W' g E k i n v := by
  have h0 := h.lt0
  have h1 := h.lt1
  have hg := h.gl
  have c := fun o => keep_cells hk w.heap.size o (by omega) (by omega)
  have d := fun o => keep_cells hk E o (by omega) (by omega)
  refine ⟨keep_trans h.keep hk, h0, Nat.lt_of_lt_of_le h1 hk.1, h.ge, hg, ?_, ?_, ?_, ?_⟩
  · rw [(c _).1, (c _).1, (c _).1, (c _).1]; exact h.r
  · rw [(c _).2, (c _).2, (c _).2, (c _).2]; exact h.rf
  · rw [(d _).1, (d _).1, (d _).1, (d _).1]; exact h.e
  · rw [(d _).2, (d _).2, (d _).2, (d _).2]; exact h.ef
theorem Ev.set {w0 w W : World} {g E : Nat} {k i n : Int} {v : Value} (h : Ev w0 w W g E k i n v) (o : Nat) (u : Value) {k' i' n' : Int} {v' : Value}
    (ho : (o = 1 ∧ u = .int .i64 i' ∧ k' = k ∧ n' = n ∧ v' = v) ∨ (o = 2 ∧ u = .int .i64 n' ∧ k' = k ∧ i' = i ∧ v' = v) ∨ (o = 3 ∧ u = v' ∧ k' = k ∧ i' = i ∧ n' = n)) :
    ∃ W', W.setCell ⟨E, o, none⟩ u = W' ∧ Ev w0 w W' g E k' i' n' v' ∧ (∀ l A m c, Rd w0 W g l A m c → Rd w0 W' g l A m c) ∧ W'.heap.size = W.heap.size ∧ (∀ b, b ≠ E → W'.heap[b]? = W.heap[b]?) := by
  have h0 := h.lt0
  have h1 := h.lt1
  have hg := h.gl
  have hge := h.ge
  obtain ⟨a0, a1, a2, a3⟩ := h.r
  obtain ⟨b0, b1, b2, b3⟩ := h.rf
  obtain ⟨c0, c1, c2, c3⟩ := h.e
  obtain ⟨d0, d1, d2, d3⟩ := h.ef
  have hne : ¬ E = w.heap.size := by omega
  have hne' : ¬ w.heap.size = E := by omega
  refine ⟨_, rfl, ⟨⟨by simpa using h.keep.1, fun j hj hjg hr => ?_⟩, h0, by simpa using h1, hge, hg, ?_, ?_, ?_, ?_⟩, fun l A m c hr => hr.far E o (by omega) (by omega) u, by simp, fun b hb => Below.heap_setCell W ⟨E, o, none⟩ u b hb⟩
  · rw [Below.heap_setCell W ⟨E, o, none⟩ u j (by show j ≠ E; omega)]; exact h.keep.2 j hj hjg hr
  · refine ⟨?_, ?_, ?_, ?_⟩ <;> simp [go_sem, a0, a1, a2, a3, hne, hne']
  · refine ⟨?_, ?_, ?_, ?_⟩ <;> simp [go_sem, b0, b1, b2, b3]
  · rcases ho with ⟨rfl, rfl, rfl, rfl, rfl⟩ | ⟨rfl, rfl, rfl, rfl, rfl⟩ | ⟨rfl, rfl, rfl, rfl, rfl⟩ <;> (refine ⟨?_, ?_, ?_, ?_⟩ <;> simp [go_sem, c0, c1, c2, c3])
  · refine ⟨?_, ?_, ?_, ?_⟩ <;> simp [go_sem, d0, d1, d2, d3]
set_option maxHeartbeats 1000000 in
theorem named_yes (a : Int) (w : World) (h : a < 6) : Calls Try.prog 22 #[.int .i64 a] w fun e w' => e = .returned (.bool true) ∧ w = w' := by
  go_enter Try.func22, Try.ntmps22
  go_wp2
  go_ret
  exact ⟨rfl, rfl⟩
set_option maxHeartbeats 1000000 in
theorem named_no (a : Int) (w : World) (h : ¬ a < 6) : Calls Try.prog 22 #[.int .i64 a] w fun e w' => e = .returned (.bool false) ∧ w = w' := by
  go_enter Try.func22, Try.ntmps22
  go_wp2
  go_ret
  exact ⟨rfl, rfl⟩
set_option maxHeartbeats 1000000 in
theorem limit5 (w : World) : Calls Try.prog 24 #[.int .i64 5] w fun e w' => e = .returned (.int .i64 6) ∧ w = w' := by
  go_enter Try.func24, Try.ntmps24
  go_wp2
  go_ret
  exact ⟨rfl, rfl⟩
set_option maxHeartbeats 1000000 in
theorem limit7 (w : World) : Calls Try.prog 24 #[.int .i64 7] w fun e w' => e = .returned (.int .i64 7) ∧ w = w' := by
  go_enter Try.func24, Try.ntmps24
  go_wp2
  go_ret
  exact ⟨rfl, rfl⟩
/-- What event hands back. -/
def EvOk (w0 w : World) (g : Nat) (l : List Int) (k i m : Int) (b : List Int) (en : Ending) (w' : World) : Prop :=
  ∃ v, en = .returned (.agg #[.int .i64 k, .int .i64 i, .int .i64 m, v]) ∧ Kd.V (Kd.int .u8) 5 w' 0 (fun k => w.heap.size ≤ k) v b ∧ After w0 w g l w'
/-- How event ends where it panics. -/
def EvNo (w0 w : World) (g : Nat) (c : Int) (en : Ending) (w' : World) : Prop := en = Wrong c ∧ KeepBut w w' g none ∧ Below w0.heap.size w0 w'
theorem After.no {w0 w w' : World} {g : Nat} {l : List Int} (h : After w0 w g l w') : Below w0.heap.size w0 w' := by
  obtain ⟨_, _, _, _, hr⟩ := h
  exact hr.below
theorem keep_four {w W : World} {g : Nat} (h : KeepBut w W g none) (u0 u1 u2 u3 : Value) : KeepBut w ((((W.setCell ⟨w.heap.size, 0, none⟩ u0).setCell ⟨w.heap.size, 1, none⟩ u1).setCell ⟨w.heap.size, 2, none⟩ u2).setCell ⟨w.heap.size, 3, none⟩ u3) g none := by
  refine ⟨by simpa using h.1, fun i hi hg hr => ?_⟩
  rw [Below.heap_setCell _ ⟨w.heap.size, 3, none⟩ u3 i (by show i ≠ w.heap.size; omega), Below.heap_setCell _ ⟨w.heap.size, 2, none⟩ u2 i (by show i ≠ w.heap.size; omega), Below.heap_setCell _ ⟨w.heap.size, 1, none⟩ u1 i (by show i ≠ w.heap.size; omega), Below.heap_setCell _ ⟨w.heap.size, 0, none⟩ u0 i (by show i ≠ w.heap.size; omega)]
  exact h.2 i hi hg hr
theorem keep_of {w w' : World} {g : Nat} (h : Below w.heap.size w w') : KeepBut w w' g none := ⟨h.size, fun i hi _ _ => h.block i hi⟩
theorem V_of_F {w : World} {ok : Nat → Prop} {B : Option Addr} {m d b : Nat} {xs : List Int} (h : Kd.F (Kd.int .u8) w ok B m xs) (hm : m ≤ d) : Kd.V (Kd.int .u8) 5 w b ok (.slice B m d) xs := by
  have hl := Kd.F_len h
  subst hl
  exact ⟨B, d, rfl, hm, h⟩
set_option maxHeartbeats 4000000 in
theorem event_none (g : Nat) (w0 w : World) (A : Option Addr) (c : Nat) (hr : Rd w0 w g [] A 0 c) :
    Calls Try.prog 26 #[.pointer (some ⟨g, 0, none⟩)] w fun en w' => EvNo w0 w g 1 en w' := by
  have hgl := hr.lt
  have hge := hr.below.size
  have HR0 := Aside0.mk (hr.later (below_alloc (Below.refl w.heap.size w) (.cells #[.int .i64 0, .int .i64 0, .int .i64 0, .slice none 0 0] 27)))
  have HB0 := Aside0.mk hr.below
  clear hr
  go_enter Try.func26, Try.ntmps26
  go_wp2_with fail
  refine (small_none g 7 2 w0 _ A c HR0.out).mono ?_
  rintro en w1 ⟨rfl, rfl⟩
  unfold Wrong
  go_wp2_with fail
  exact ⟨rfl, rfl, ⟨by simp, fun i hi _ _ => (below_alloc (Below.refl w.heap.size w) _).block i hi⟩, below_alloc HB0.out _⟩
set_option maxHeartbeats 4000000 in
theorem event_big (g : Nat) (xr x : Int) (t : List Int) (w0 w : World) (A : Option Addr) (n c : Nat) (hr : Rd w0 w g (xr :: t) A n c) (hx : wrap64 xr = x) (hm : 7 < x) :
    Calls Try.prog 26 #[.pointer (some ⟨g, 0, none⟩)] w fun en w' => EvNo w0 w g 2 en w' := by
  have HX := Aside0.mk hx
  clear hx
  have hgl := hr.lt
  have hge := hr.below.size
  have HR0 := Aside0.mk (hr.later (below_alloc (Below.refl w.heap.size w) (.cells #[.int .i64 0, .int .i64 0, .int .i64 0, .slice none 0 0] 27)))
  have HB0 := Aside0.mk hr.below
  clear hr
  go_enter Try.func26, Try.ntmps26
  go_wp2_with fail
  refine (small_big g 7 2 xr x t w0 _ A n c HR0.out HX.out hm).mono ?_
  rintro en w1 ⟨rfl, rfl⟩
  unfold Wrong
  go_wp2_with fail
  exact ⟨rfl, rfl, ⟨by simp, fun i hi _ _ => (below_alloc (Below.refl w.heap.size w) _).block i hi⟩, below_alloc HB0.out _⟩
set_option maxHeartbeats 4000000 in
theorem event_none2 (g : Nat) (xr x : Int) (w0 w : World) (A : Option Addr) (n c : Nat) (hr : Rd w0 w g [xr] A n c) (hx : wrap64 xr = x) (h1 : x < 6) :
    Calls Try.prog 26 #[.pointer (some ⟨g, 0, none⟩)] w fun en w' => EvNo w0 w g 1 en w' := by
  have HX := Aside0.mk hx
  clear hx
  have hgl := hr.lt
  have hge := hr.below.size
  have HR0 := Aside0.mk (hr.later (below_alloc (Below.refl w.heap.size w) (.cells #[.int .i64 0, .int .i64 0, .int .i64 0, .slice none 0 0] 27)))
  have HB0 := Aside0.mk hr.below
  clear hr
  go_enter Try.func26, Try.ntmps26
  go_wp2_with fail
  refine (small_ok g 7 2 xr x [] w0 _ A n c HR0.out HX.out (by omega)).mono ?_
  rintro en w1 ⟨rfl, hk1, A1, n1, c1, hr1⟩
  have HV1 := Aside0.mk (Ev.made hge hgl hk1 x)
  have HR1 := Aside0.mk (hr1.later (below_alloc (Below.refl w1.heap.size w1) (.cells #[.int .i64 x, .int .i64 0, .int .i64 0, .slice none 0 0] 27)))
  clear hk1 hr1 HR0
  go_upto_region 2 with (fail)
  obtain ⟨W1, hW1⟩ : ∃ W1, w1.alloc (.cells #[.int .i64 x, .int .i64 0, .int .i64 0, .slice none 0 0] 27) = W1 := ⟨_, rfl⟩
  rw [hW1] at HV1 HR1
  rw [hW1]
  clear hW1
  obtain ⟨a0, a1, a2, a3⟩ := HV1.out.r; obtain ⟨b0, b1, b2, b3⟩ := HV1.out.rf; obtain ⟨c0', c1', c2', c3'⟩ := HV1.out.e; obtain ⟨d0, d1, d2, d3⟩ := HV1.out.ef
  go_wp2_with (go_at_call 22; refine (named_yes x _ (by omega)).mono ?_; rintro e w' ⟨rfl, rfl⟩)
  obtain rfl : n1 = 0 := by have := HR1.out.len; simpa using this.symm
  refine (small_none g 63 4 w0 _ A1 c1 HR1.out).mono ?_
  rintro en w2 ⟨rfl, rfl⟩
  unfold Wrong
  go_wp2_with fail
  exact ⟨rfl, rfl, HV1.out.keep, HR1.out.below⟩
set_option maxHeartbeats 4000000 in
theorem event_big2 (g : Nat) (xr x yr y : Int) (t : List Int) (w0 w : World) (A : Option Addr) (n c : Nat) (hr : Rd w0 w g (xr :: yr :: t) A n c) (hx : wrap64 xr = x) (h1 : x < 6) (hy : wrap64 yr = y) (hm : 63 < y) :
    Calls Try.prog 26 #[.pointer (some ⟨g, 0, none⟩)] w fun en w' => EvNo w0 w g 4 en w' := by
  have HX := Aside0.mk hx
  clear hx
  have HY := Aside0.mk hy
  clear hy
  have hgl := hr.lt
  have hge := hr.below.size
  have HR0 := Aside0.mk (hr.later (below_alloc (Below.refl w.heap.size w) (.cells #[.int .i64 0, .int .i64 0, .int .i64 0, .slice none 0 0] 27)))
  have HB0 := Aside0.mk hr.below
  clear hr
  go_enter Try.func26, Try.ntmps26
  go_wp2_with fail
  refine (small_ok g 7 2 xr x (yr :: t) w0 _ A n c HR0.out HX.out (by omega)).mono ?_
  rintro en w1 ⟨rfl, hk1, A1, n1, c1, hr1⟩
  have HV1 := Aside0.mk (Ev.made hge hgl hk1 x)
  have HR1 := Aside0.mk (hr1.later (below_alloc (Below.refl w1.heap.size w1) (.cells #[.int .i64 x, .int .i64 0, .int .i64 0, .slice none 0 0] 27)))
  clear hk1 hr1 HR0
  go_upto_region 2 with (fail)
  obtain ⟨W1, hW1⟩ : ∃ W1, w1.alloc (.cells #[.int .i64 x, .int .i64 0, .int .i64 0, .slice none 0 0] 27) = W1 := ⟨_, rfl⟩
  rw [hW1] at HV1 HR1
  rw [hW1]
  clear hW1
  obtain ⟨a0, a1, a2, a3⟩ := HV1.out.r; obtain ⟨b0, b1, b2, b3⟩ := HV1.out.rf; obtain ⟨c0', c1', c2', c3'⟩ := HV1.out.e; obtain ⟨d0, d1, d2, d3⟩ := HV1.out.ef
  go_wp2_with (go_at_call 22; refine (named_yes x _ (by omega)).mono ?_; rintro e w' ⟨rfl, rfl⟩)
  refine (small_big g 63 4 yr y t w0 _ A1 n1 c1 HR1.out HY.out hm).mono ?_
  rintro en w2 ⟨rfl, rfl⟩
  unfold Wrong
  go_wp2_with fail
  exact ⟨rfl, rfl, HV1.out.keep, HR1.out.below⟩
set_option maxHeartbeats 4000000 in
theorem event_plain (g : Nat) (xr x yr y : Int) (t : List Int) (w0 w : World) (A : Option Addr) (n c : Nat) (hr : Rd w0 w g (xr :: yr :: t) A n c) (hx : wrap64 xr = x) (hy : wrap64 yr = y) (g1 : y ≤ 63) (h1 : x < 6) (n1' : x ≠ 1) (n3' : x ≠ 3) (n5' : x ≠ 5) :
    Calls Try.prog 26 #[.pointer (some ⟨g, 0, none⟩)] w fun en w' => EvOk w0 w g t x y 0 [] en w' := by
  have z1 : (x == 1) = false := beq_eq_false_iff_ne.mpr n1'
  have z3 : (x == 3) = false := beq_eq_false_iff_ne.mpr n3'
  have z5 : (x == 5) = false := beq_eq_false_iff_ne.mpr n5'
  have z7 : (x == 7) = false := beq_eq_false_iff_ne.mpr (by omega)
  clear n1' n3' n5'
  have HX := Aside0.mk hx
  clear hx
  have HY := Aside0.mk hy
  clear hy
  have hgl := hr.lt
  have hge := hr.below.size
  have HR0 := Aside0.mk (hr.later (below_alloc (Below.refl w.heap.size w) (.cells #[.int .i64 0, .int .i64 0, .int .i64 0, .slice none 0 0] 27)))
  have HB0 := Aside0.mk hr.below
  clear hr
  go_enter Try.func26, Try.ntmps26
  go_wp2_with fail
  refine (small_ok g 7 2 xr x (yr :: t) w0 _ A n c HR0.out HX.out (by omega)).mono ?_
  rintro en w1 ⟨rfl, hk1, A1, n1, c1, hr1⟩
  have HV1 := Aside0.mk (Ev.made hge hgl hk1 x)
  have HR1 := Aside0.mk (hr1.later (below_alloc (Below.refl w1.heap.size w1) (.cells #[.int .i64 x, .int .i64 0, .int .i64 0, .slice none 0 0] 27)))
  clear hk1 hr1 HR0
  go_upto_region 2 with (fail)
  obtain ⟨W1, hW1⟩ : ∃ W1, w1.alloc (.cells #[.int .i64 x, .int .i64 0, .int .i64 0, .slice none 0 0] 27) = W1 := ⟨_, rfl⟩
  rw [hW1] at HV1 HR1
  rw [hW1]
  clear hW1
  obtain ⟨a0, a1, a2, a3⟩ := HV1.out.r; obtain ⟨b0, b1, b2, b3⟩ := HV1.out.rf; obtain ⟨c0', c1', c2', c3'⟩ := HV1.out.e; obtain ⟨d0, d1, d2, d3⟩ := HV1.out.ef
  go_wp2_with (go_at_call 22; refine (named_yes x _ (by omega)).mono ?_; rintro e w' ⟨rfl, rfl⟩)
  refine (small_ok g 63 4 yr y t w0 _ A1 n1 c1 HR1.out HY.out (by omega)).mono ?_
  rintro en w2 ⟨rfl, hk2, A2, n2, c2, hr2⟩
  have HVt := Aside0.mk (HV1.out.call hk2)
  obtain ⟨W2, hW2, hv2, hrd2, _, _⟩ := HVt.out.set 1 (.int .i64 y) (.inl ⟨rfl, rfl, rfl, rfl, rfl⟩)
  have HV2 := Aside0.mk hv2
  have HR2 := Aside0.mk (hrd2 _ _ _ _ hr2)
  have HW2 := Aside0.mk hW2
  clear hk2 hr2 hv2 hrd2 hW2 HV1 HR1
  clear a0 a1 a2 a3 b0 b1 b2 b3 c0' c1' c2' c3' d0 d1 d2 d3
  obtain ⟨a0, a1, a2, a3⟩ := HVt.out.r; obtain ⟨b0, b1, b2, b3⟩ := HVt.out.rf; obtain ⟨c0', c1', c2', c3'⟩ := HVt.out.e; obtain ⟨d0, d1, d2, d3⟩ := HVt.out.ef
  clear HVt
  go_upto_region 4 with (fail)
  rw [HW2.out]
  clear a0 a1 a2 a3 b0 b1 b2 b3 c0' c1' c2' c3' d0 d1 d2 d3
  clear HW2
  obtain ⟨a0, a1, a2, a3⟩ := HV2.out.r; obtain ⟨b0, b1, b2, b3⟩ := HV2.out.rf; obtain ⟨c0', c1', c2', c3'⟩ := HV2.out.e; obtain ⟨d0, d1, d2, d3⟩ := HV2.out.ef
  go_wp2_with fail
  have hsz := HV2.out.lt1
  refine bodyPost_ret (v := .agg #[.int .i64 x, .int .i64 y, .int .i64 0, .slice none 0 0]) (by simp [results, Try.results26, go_sem, a0, a1, a2, a3, b0, b1, b2, b3, c0', c1', c2', c3', d0, d1, d2, d3]) rfl ⟨_, rfl, Kd.V_nil _ _ _ _ _, ?_⟩
  refine ⟨?_, _, _, _, ((((HR2.out.far _ _ (by omega) (by omega) _).far _ _ (by omega) (by omega) _).far _ _ (by omega) (by omega) _).far _ _ (by omega) (by omega) _)⟩
  exact keep_four HV2.out.keep _ _ _ _
set_option maxHeartbeats 4000000 in
theorem event_plain6 (g : Nat) (xr : Int) (t : List Int) (w0 w : World) (A : Option Addr) (n c : Nat) (hr : Rd w0 w g (xr :: t) A n c) (hx : wrap64 xr = 6) :
    Calls Try.prog 26 #[.pointer (some ⟨g, 0, none⟩)] w fun en w' => EvOk w0 w g t 6 0 0 [] en w' := by
  have HX := Aside0.mk hx
  clear hx
  have hgl := hr.lt
  have hge := hr.below.size
  have HR0 := Aside0.mk (hr.later (below_alloc (Below.refl w.heap.size w) (.cells #[.int .i64 0, .int .i64 0, .int .i64 0, .slice none 0 0] 27)))
  have HB0 := Aside0.mk hr.below
  clear hr
  go_enter Try.func26, Try.ntmps26
  go_wp2_with fail
  refine (small_ok g 7 2 xr 6 t w0 _ A n c HR0.out HX.out (by omega)).mono ?_
  rintro en w1 ⟨rfl, hk1, A1, n1, c1, hr1⟩
  have HV1 := Aside0.mk (Ev.made hge hgl hk1 6)
  have HR1 := Aside0.mk (hr1.later (below_alloc (Below.refl w1.heap.size w1) (.cells #[.int .i64 6, .int .i64 0, .int .i64 0, .slice none 0 0] 27)))
  clear hk1 hr1 HR0
  go_upto_region 2 with (fail)
  obtain ⟨W1, hW1⟩ : ∃ W1, w1.alloc (.cells #[.int .i64 6, .int .i64 0, .int .i64 0, .slice none 0 0] 27) = W1 := ⟨_, rfl⟩
  rw [hW1] at HV1 HR1
  rw [hW1]
  clear hW1
  obtain ⟨a0, a1, a2, a3⟩ := HV1.out.r; obtain ⟨b0, b1, b2, b3⟩ := HV1.out.rf; obtain ⟨c0', c1', c2', c3'⟩ := HV1.out.e; obtain ⟨d0, d1, d2, d3⟩ := HV1.out.ef
  go_wp2_with (go_at_call 22; refine (named_no 6 _ (by omega)).mono ?_; rintro e w' ⟨rfl, rfl⟩)
  have HV2 := HV1
  have HR2 := HR1
  go_wp2_with fail
  have hsz := HV2.out.lt1
  refine bodyPost_ret (v := .agg #[.int .i64 6, .int .i64 0, .int .i64 0, .slice none 0 0]) (by simp [results, Try.results26, go_sem, a0, a1, a2, a3, b0, b1, b2, b3, c0', c1', c2', c3', d0, d1, d2, d3]) rfl ⟨_, rfl, Kd.V_nil _ _ _ _ _, ?_⟩
  refine ⟨?_, _, _, _, ((((HR2.out.far _ _ (by omega) (by omega) _).far _ _ (by omega) (by omega) _).far _ _ (by omega) (by omega) _).far _ _ (by omega) (by omega) _)⟩
  exact keep_four HV2.out.keep _ _ _ _
set_option maxHeartbeats 4000000 in
theorem event_grant (g : Nat) (xr yr y : Int) (t : List Int) (kk : Nat) (v : Int) (j : Nat) (w0 w : World) (A : Option Addr) (n c : Nat) (hr : Rd w0 w g (xr :: yr :: t) A n c) (hx : wrap64 xr = 3) (hy : wrap64 yr = y) (g1 : y ≤ 63) (hT : varint_Take.f kk t = some (v, (j : Int), 0)) (hv : v ≤ 4096) (hj : j ≤ t.length) :
    Calls Try.prog 26 #[.pointer (some ⟨g, 0, none⟩)] w fun en w' => EvOk w0 w g (t.drop j) 3 y v [] en w' := by
  have HT := Aside0.mk hT
  clear hT
  have HX := Aside0.mk hx
  clear hx
  have HY := Aside0.mk hy
  clear hy
  have hgl := hr.lt
  have hge := hr.below.size
  have HR0 := Aside0.mk (hr.later (below_alloc (Below.refl w.heap.size w) (.cells #[.int .i64 0, .int .i64 0, .int .i64 0, .slice none 0 0] 27)))
  have HB0 := Aside0.mk hr.below
  clear hr
  go_enter Try.func26, Try.ntmps26
  go_wp2_with fail
  refine (small_ok g 7 2 xr 3 (yr :: t) w0 _ A n c HR0.out HX.out (by omega)).mono ?_
  rintro en w1 ⟨rfl, hk1, A1, n1, c1, hr1⟩
  have HV1 := Aside0.mk (Ev.made hge hgl hk1 3)
  have HR1 := Aside0.mk (hr1.later (below_alloc (Below.refl w1.heap.size w1) (.cells #[.int .i64 3, .int .i64 0, .int .i64 0, .slice none 0 0] 27)))
  clear hk1 hr1 HR0
  go_upto_region 2 with (fail)
  obtain ⟨W1, hW1⟩ : ∃ W1, w1.alloc (.cells #[.int .i64 3, .int .i64 0, .int .i64 0, .slice none 0 0] 27) = W1 := ⟨_, rfl⟩
  rw [hW1] at HV1 HR1
  rw [hW1]
  clear hW1
  obtain ⟨a0, a1, a2, a3⟩ := HV1.out.r; obtain ⟨b0, b1, b2, b3⟩ := HV1.out.rf; obtain ⟨c0', c1', c2', c3'⟩ := HV1.out.e; obtain ⟨d0, d1, d2, d3⟩ := HV1.out.ef
  go_wp2_with (go_at_call 22; refine (named_yes 3 _ (by omega)).mono ?_; rintro e w' ⟨rfl, rfl⟩)
  refine (small_ok g 63 4 yr y t w0 _ A1 n1 c1 HR1.out HY.out (by omega)).mono ?_
  rintro en w2 ⟨rfl, hk2, A2, n2, c2, hr2⟩
  have HVt := Aside0.mk (HV1.out.call hk2)
  obtain ⟨W2, hW2, hv2, hrd2, _, _⟩ := HVt.out.set 1 (.int .i64 y) (.inl ⟨rfl, rfl, rfl, rfl, rfl⟩)
  have HV2 := Aside0.mk hv2
  have HR2 := Aside0.mk (hrd2 _ _ _ _ hr2)
  have HW2 := Aside0.mk hW2
  clear hk2 hr2 hv2 hrd2 hW2 HV1 HR1
  clear a0 a1 a2 a3 b0 b1 b2 b3 c0' c1' c2' c3' d0 d1 d2 d3
  obtain ⟨a0, a1, a2, a3⟩ := HVt.out.r; obtain ⟨b0, b1, b2, b3⟩ := HVt.out.rf; obtain ⟨c0', c1', c2', c3'⟩ := HVt.out.e; obtain ⟨d0, d1, d2, d3⟩ := HVt.out.ef
  clear HVt
  go_upto_region 4 with (fail)
  rw [HW2.out]
  clear a0 a1 a2 a3 b0 b1 b2 b3 c0' c1' c2' c3' d0 d1 d2 d3
  clear HW2
  obtain ⟨a0, a1, a2, a3⟩ := HV2.out.r; obtain ⟨b0, b1, b2, b3⟩ := HV2.out.rf; obtain ⟨c0', c1', c2', c3'⟩ := HV2.out.e; obtain ⟨d0, d1, d2, d3⟩ := HV2.out.ef
  go_wp2_with fail
  refine (number_ok g t w0 _ A2 n2 c2 HR2.out kk v j HT.out hv (by have := HR2.out.len; omega)).mono ?_
  rintro en w3 ⟨rfl, hk3, A3, n3, c3, hr3⟩
  have HVt := Aside0.mk (HV2.out.call hk3)
  obtain ⟨W3, hW3, hv3, hrd3, hz3, ho3⟩ := HVt.out.set 2 (.int .i64 v) (.inr (.inl ⟨rfl, rfl, rfl, rfl, rfl⟩))
  have HV3 := Aside0.mk hv3
  have HR3 := Aside0.mk (hrd3 _ _ _ _ hr3)
  have HW3 := Aside0.mk hW3
  clear hk3 hr3 hv3 hrd3 hW3 HV2 HR2 hz3 ho3
  clear a0 a1 a2 a3 b0 b1 b2 b3 c0' c1' c2' c3' d0 d1 d2 d3
  obtain ⟨a0, a1, a2, a3⟩ := HVt.out.r; obtain ⟨b0, b1, b2, b3⟩ := HVt.out.rf; obtain ⟨c0', c1', c2', c3'⟩ := HVt.out.e; obtain ⟨d0, d1, d2, d3⟩ := HVt.out.ef
  clear HVt
  go_upto_region 12 with (fail)
  rw [HW3.out]
  clear a0 a1 a2 a3 b0 b1 b2 b3 c0' c1' c2' c3' d0 d1 d2 d3
  clear HW3
  obtain ⟨a0, a1, a2, a3⟩ := HV3.out.r; obtain ⟨b0, b1, b2, b3⟩ := HV3.out.rf; obtain ⟨c0', c1', c2', c3'⟩ := HV3.out.e; obtain ⟨d0, d1, d2, d3⟩ := HV3.out.ef
  go_wp2_with fail
  have hsz := HV3.out.lt1
  refine bodyPost_ret (v := .agg #[.int .i64 3, .int .i64 y, .int .i64 v, .slice none 0 0]) (by simp [results, Try.results26, go_sem, a0, a1, a2, a3, b0, b1, b2, b3, c0', c1', c2', c3', d0, d1, d2, d3]) rfl ⟨_, rfl, Kd.V_nil _ _ _ _ _, ?_⟩
  refine ⟨?_, _, _, _, ((((HR3.out.far _ _ (by omega) (by omega) _).far _ _ (by omega) (by omega) _).far _ _ (by omega) (by omega) _).far _ _ (by omega) (by omega) _)⟩
  exact keep_four HV3.out.keep _ _ _ _
set_option maxHeartbeats 4000000 in
theorem event_grant_bad (g : Nat) (xr yr y : Int) (t : List Int) (kk : Nat) (v j x z : Int) (w0 w : World) (A : Option Addr) (n c : Nat) (hr : Rd w0 w g (xr :: yr :: t) A n c) (hx : wrap64 xr = 3) (hy : wrap64 yr = y) (g1 : y ≤ 63) (hT : varint_Take.f kk t = some (v, j, x)) (hz : (x ≠ 0 ∧ z = x) ∨ (x = 0 ∧ 4096 < v ∧ z = 3)) :
    Calls Try.prog 26 #[.pointer (some ⟨g, 0, none⟩)] w fun en w' => EvNo w0 w g z en w' := by
  have HT := Aside0.mk hT
  clear hT
  have HZ := Aside0.mk hz
  clear hz
  have HX := Aside0.mk hx
  clear hx
  have HY := Aside0.mk hy
  clear hy
  have hgl := hr.lt
  have hge := hr.below.size
  have HR0 := Aside0.mk (hr.later (below_alloc (Below.refl w.heap.size w) (.cells #[.int .i64 0, .int .i64 0, .int .i64 0, .slice none 0 0] 27)))
  have HB0 := Aside0.mk hr.below
  clear hr
  go_enter Try.func26, Try.ntmps26
  go_wp2_with fail
  refine (small_ok g 7 2 xr 3 (yr :: t) w0 _ A n c HR0.out HX.out (by omega)).mono ?_
  rintro en w1 ⟨rfl, hk1, A1, n1, c1, hr1⟩
  have HV1 := Aside0.mk (Ev.made hge hgl hk1 3)
  have HR1 := Aside0.mk (hr1.later (below_alloc (Below.refl w1.heap.size w1) (.cells #[.int .i64 3, .int .i64 0, .int .i64 0, .slice none 0 0] 27)))
  clear hk1 hr1 HR0
  go_upto_region 2 with (fail)
  obtain ⟨W1, hW1⟩ : ∃ W1, w1.alloc (.cells #[.int .i64 3, .int .i64 0, .int .i64 0, .slice none 0 0] 27) = W1 := ⟨_, rfl⟩
  rw [hW1] at HV1 HR1
  rw [hW1]
  clear hW1
  obtain ⟨a0, a1, a2, a3⟩ := HV1.out.r; obtain ⟨b0, b1, b2, b3⟩ := HV1.out.rf; obtain ⟨c0', c1', c2', c3'⟩ := HV1.out.e; obtain ⟨d0, d1, d2, d3⟩ := HV1.out.ef
  go_wp2_with (go_at_call 22; refine (named_yes 3 _ (by omega)).mono ?_; rintro e w' ⟨rfl, rfl⟩)
  refine (small_ok g 63 4 yr y t w0 _ A1 n1 c1 HR1.out HY.out (by omega)).mono ?_
  rintro en w2 ⟨rfl, hk2, A2, n2, c2, hr2⟩
  have HVt := Aside0.mk (HV1.out.call hk2)
  obtain ⟨W2, hW2, hv2, hrd2, _, _⟩ := HVt.out.set 1 (.int .i64 y) (.inl ⟨rfl, rfl, rfl, rfl, rfl⟩)
  have HV2 := Aside0.mk hv2
  have HR2 := Aside0.mk (hrd2 _ _ _ _ hr2)
  have HW2 := Aside0.mk hW2
  clear hk2 hr2 hv2 hrd2 hW2 HV1 HR1
  clear a0 a1 a2 a3 b0 b1 b2 b3 c0' c1' c2' c3' d0 d1 d2 d3
  obtain ⟨a0, a1, a2, a3⟩ := HVt.out.r; obtain ⟨b0, b1, b2, b3⟩ := HVt.out.rf; obtain ⟨c0', c1', c2', c3'⟩ := HVt.out.e; obtain ⟨d0, d1, d2, d3⟩ := HVt.out.ef
  clear HVt
  go_upto_region 4 with (fail)
  rw [HW2.out]
  clear a0 a1 a2 a3 b0 b1 b2 b3 c0' c1' c2' c3' d0 d1 d2 d3
  clear HW2
  obtain ⟨a0, a1, a2, a3⟩ := HV2.out.r; obtain ⟨b0, b1, b2, b3⟩ := HV2.out.rf; obtain ⟨c0', c1', c2', c3'⟩ := HV2.out.e; obtain ⟨d0, d1, d2, d3⟩ := HV2.out.ef
  go_wp2_with fail
  refine (number_bad g t w0 _ A2 n2 c2 HR2.out kk v j x z HT.out HZ.out).mono ?_
  rintro en w3 ⟨rfl, hb⟩
  have HB3 := Aside0.mk hb
  clear hb
  unfold Wrong
  go_wp2_with fail
  exact ⟨rfl, rfl, keep_trans HV2.out.keep (keep_of HB3.out), below_step HR2.out.below HB3.out⟩
set_option maxHeartbeats 4000000 in
theorem event_arrive_bad (g : Nat) (xr yr y : Int) (t : List Int) (kk : Nat) (v j x z : Int) (w0 w : World) (A : Option Addr) (n c : Nat) (hr : Rd w0 w g (xr :: yr :: t) A n c) (hx : wrap64 xr = 1) (hy : wrap64 yr = y) (g1 : y ≤ 63) (hT : varint_Take.f kk t = some (v, j, x)) (hz : (x ≠ 0 ∧ z = x) ∨ (x = 0 ∧ 4096 < v ∧ z = 3)) :
    Calls Try.prog 26 #[.pointer (some ⟨g, 0, none⟩)] w fun en w' => EvNo w0 w g z en w' := by
  have HT := Aside0.mk hT
  clear hT
  have HZ := Aside0.mk hz
  clear hz
  have HX := Aside0.mk hx
  clear hx
  have HY := Aside0.mk hy
  clear hy
  have hgl := hr.lt
  have hge := hr.below.size
  have HR0 := Aside0.mk (hr.later (below_alloc (Below.refl w.heap.size w) (.cells #[.int .i64 0, .int .i64 0, .int .i64 0, .slice none 0 0] 27)))
  have HB0 := Aside0.mk hr.below
  clear hr
  go_enter Try.func26, Try.ntmps26
  go_wp2_with fail
  refine (small_ok g 7 2 xr 1 (yr :: t) w0 _ A n c HR0.out HX.out (by omega)).mono ?_
  rintro en w1 ⟨rfl, hk1, A1, n1, c1, hr1⟩
  have HV1 := Aside0.mk (Ev.made hge hgl hk1 1)
  have HR1 := Aside0.mk (hr1.later (below_alloc (Below.refl w1.heap.size w1) (.cells #[.int .i64 1, .int .i64 0, .int .i64 0, .slice none 0 0] 27)))
  clear hk1 hr1 HR0
  go_upto_region 2 with (fail)
  obtain ⟨W1, hW1⟩ : ∃ W1, w1.alloc (.cells #[.int .i64 1, .int .i64 0, .int .i64 0, .slice none 0 0] 27) = W1 := ⟨_, rfl⟩
  rw [hW1] at HV1 HR1
  rw [hW1]
  clear hW1
  obtain ⟨a0, a1, a2, a3⟩ := HV1.out.r; obtain ⟨b0, b1, b2, b3⟩ := HV1.out.rf; obtain ⟨c0', c1', c2', c3'⟩ := HV1.out.e; obtain ⟨d0, d1, d2, d3⟩ := HV1.out.ef
  go_wp2_with (go_at_call 22; refine (named_yes 1 _ (by omega)).mono ?_; rintro e w' ⟨rfl, rfl⟩)
  refine (small_ok g 63 4 yr y t w0 _ A1 n1 c1 HR1.out HY.out (by omega)).mono ?_
  rintro en w2 ⟨rfl, hk2, A2, n2, c2, hr2⟩
  have HVt := Aside0.mk (HV1.out.call hk2)
  obtain ⟨W2, hW2, hv2, hrd2, _, _⟩ := HVt.out.set 1 (.int .i64 y) (.inl ⟨rfl, rfl, rfl, rfl, rfl⟩)
  have HV2 := Aside0.mk hv2
  have HR2 := Aside0.mk (hrd2 _ _ _ _ hr2)
  have HW2 := Aside0.mk hW2
  clear hk2 hr2 hv2 hrd2 hW2 HV1 HR1
  clear a0 a1 a2 a3 b0 b1 b2 b3 c0' c1' c2' c3' d0 d1 d2 d3
  obtain ⟨a0, a1, a2, a3⟩ := HVt.out.r; obtain ⟨b0, b1, b2, b3⟩ := HVt.out.rf; obtain ⟨c0', c1', c2', c3'⟩ := HVt.out.e; obtain ⟨d0, d1, d2, d3⟩ := HVt.out.ef
  clear HVt
  go_upto_region 4 with (fail)
  rw [HW2.out]
  clear a0 a1 a2 a3 b0 b1 b2 b3 c0' c1' c2' c3' d0 d1 d2 d3
  clear HW2
  obtain ⟨a0, a1, a2, a3⟩ := HV2.out.r; obtain ⟨b0, b1, b2, b3⟩ := HV2.out.rf; obtain ⟨c0', c1', c2', c3'⟩ := HV2.out.e; obtain ⟨d0, d1, d2, d3⟩ := HV2.out.ef
  go_wp2_with fail
  refine (number_bad g t w0 _ A2 n2 c2 HR2.out kk v j x z HT.out HZ.out).mono ?_
  rintro en w3 ⟨rfl, hb⟩
  have HB3 := Aside0.mk hb
  clear hb
  unfold Wrong
  go_wp2_with fail
  exact ⟨rfl, rfl, keep_trans HV2.out.keep (keep_of HB3.out), below_step HR2.out.below HB3.out⟩
set_option maxHeartbeats 4000000 in
theorem event_arrive_short (g : Nat) (xr yr y : Int) (t : List Int) (kk : Nat) (m j : Nat) (w0 w : World) (A : Option Addr) (n c : Nat) (hr : Rd w0 w g (xr :: yr :: t) A n c) (hx : wrap64 xr = 1) (hy : wrap64 yr = y) (g1 : y ≤ 63) (hT : varint_Take.f kk t = some ((m : Int), (j : Int), 0)) (hv : (m : Int) ≤ 4096) (hj : j ≤ t.length) (hs : t.length < j + m) :
    Calls Try.prog 26 #[.pointer (some ⟨g, 0, none⟩)] w fun en w' => EvNo w0 w g 1 en w' := by
  have HT := Aside0.mk hT
  clear hT
  have HX := Aside0.mk hx
  clear hx
  have HY := Aside0.mk hy
  clear hy
  have hgl := hr.lt
  have hge := hr.below.size
  have HR0 := Aside0.mk (hr.later (below_alloc (Below.refl w.heap.size w) (.cells #[.int .i64 0, .int .i64 0, .int .i64 0, .slice none 0 0] 27)))
  have HB0 := Aside0.mk hr.below
  clear hr
  go_enter Try.func26, Try.ntmps26
  go_wp2_with fail
  refine (small_ok g 7 2 xr 1 (yr :: t) w0 _ A n c HR0.out HX.out (by omega)).mono ?_
  rintro en w1 ⟨rfl, hk1, A1, n1, c1, hr1⟩
  have HV1 := Aside0.mk (Ev.made hge hgl hk1 1)
  have HR1 := Aside0.mk (hr1.later (below_alloc (Below.refl w1.heap.size w1) (.cells #[.int .i64 1, .int .i64 0, .int .i64 0, .slice none 0 0] 27)))
  clear hk1 hr1 HR0
  go_upto_region 2 with (fail)
  obtain ⟨W1, hW1⟩ : ∃ W1, w1.alloc (.cells #[.int .i64 1, .int .i64 0, .int .i64 0, .slice none 0 0] 27) = W1 := ⟨_, rfl⟩
  rw [hW1] at HV1 HR1
  rw [hW1]
  clear hW1
  obtain ⟨a0, a1, a2, a3⟩ := HV1.out.r; obtain ⟨b0, b1, b2, b3⟩ := HV1.out.rf; obtain ⟨c0', c1', c2', c3'⟩ := HV1.out.e; obtain ⟨d0, d1, d2, d3⟩ := HV1.out.ef
  go_wp2_with (go_at_call 22; refine (named_yes 1 _ (by omega)).mono ?_; rintro e w' ⟨rfl, rfl⟩)
  refine (small_ok g 63 4 yr y t w0 _ A1 n1 c1 HR1.out HY.out (by omega)).mono ?_
  rintro en w2 ⟨rfl, hk2, A2, n2, c2, hr2⟩
  have HVt := Aside0.mk (HV1.out.call hk2)
  obtain ⟨W2, hW2, hv2, hrd2, _, _⟩ := HVt.out.set 1 (.int .i64 y) (.inl ⟨rfl, rfl, rfl, rfl, rfl⟩)
  have HV2 := Aside0.mk hv2
  have HR2 := Aside0.mk (hrd2 _ _ _ _ hr2)
  have HW2 := Aside0.mk hW2
  clear hk2 hr2 hv2 hrd2 hW2 HV1 HR1
  clear a0 a1 a2 a3 b0 b1 b2 b3 c0' c1' c2' c3' d0 d1 d2 d3
  obtain ⟨a0, a1, a2, a3⟩ := HVt.out.r; obtain ⟨b0, b1, b2, b3⟩ := HVt.out.rf; obtain ⟨c0', c1', c2', c3'⟩ := HVt.out.e; obtain ⟨d0, d1, d2, d3⟩ := HVt.out.ef
  clear HVt
  go_upto_region 4 with (fail)
  rw [HW2.out]
  clear a0 a1 a2 a3 b0 b1 b2 b3 c0' c1' c2' c3' d0 d1 d2 d3
  clear HW2
  obtain ⟨a0, a1, a2, a3⟩ := HV2.out.r; obtain ⟨b0, b1, b2, b3⟩ := HV2.out.rf; obtain ⟨c0', c1', c2', c3'⟩ := HV2.out.e; obtain ⟨d0, d1, d2, d3⟩ := HV2.out.ef
  go_wp2_with fail
  refine (number_ok g t w0 _ A2 n2 c2 HR2.out kk (m : Int) j HT.out hv (by have := HR2.out.len; omega)).mono ?_
  rintro en w3 ⟨rfl, hk3a, A3, n3, c3, hr3a⟩
  have HK3a := Aside0.mk hk3a
  have HR3a := Aside0.mk hr3a
  clear hk3a hr3a
  go_wp2_with fail
  refine (bytes_short g (t.drop j) (m : Int) w0 _ A3 n3 c3 HR3a.out (by have := HR3a.out.len; rw [List.length_drop] at this; omega)).mono ?_
  rintro en w4 ⟨rfl, rfl⟩
  unfold Wrong
  go_wp2_with fail
  exact ⟨rfl, rfl, keep_trans HV2.out.keep HK3a.out, HR3a.out.below⟩
set_option maxHeartbeats 4000000 in
theorem event_arrive (g : Nat) (xr yr y : Int) (t : List Int) (kk : Nat) (m j : Nat) (w0 w : World) (A : Option Addr) (n c : Nat) (hr : Rd w0 w g (xr :: yr :: t) A n c) (hx : wrap64 xr = 1) (hy : wrap64 yr = y) (g1 : y ≤ 63) (hT : varint_Take.f kk t = some ((m : Int), (j : Int), 0)) (hv : (m : Int) ≤ 4096) (hj : j ≤ t.length) (hs : j + m ≤ t.length) :
    Calls Try.prog 26 #[.pointer (some ⟨g, 0, none⟩)] w fun en w' => EvOk w0 w g ((t.drop j).drop m) 1 y 0 ((t.drop j).take m) en w' := by
  have HT := Aside0.mk hT
  clear hT
  have HX := Aside0.mk hx
  clear hx
  have HY := Aside0.mk hy
  clear hy
  have hgl := hr.lt
  have hge := hr.below.size
  have HR0 := Aside0.mk (hr.later (below_alloc (Below.refl w.heap.size w) (.cells #[.int .i64 0, .int .i64 0, .int .i64 0, .slice none 0 0] 27)))
  have HB0 := Aside0.mk hr.below
  clear hr
  go_enter Try.func26, Try.ntmps26
  go_wp2_with fail
  refine (small_ok g 7 2 xr 1 (yr :: t) w0 _ A n c HR0.out HX.out (by omega)).mono ?_
  rintro en w1 ⟨rfl, hk1, A1, n1, c1, hr1⟩
  have HV1 := Aside0.mk (Ev.made hge hgl hk1 1)
  have HR1 := Aside0.mk (hr1.later (below_alloc (Below.refl w1.heap.size w1) (.cells #[.int .i64 1, .int .i64 0, .int .i64 0, .slice none 0 0] 27)))
  clear hk1 hr1 HR0
  go_upto_region 2 with (fail)
  obtain ⟨W1, hW1⟩ : ∃ W1, w1.alloc (.cells #[.int .i64 1, .int .i64 0, .int .i64 0, .slice none 0 0] 27) = W1 := ⟨_, rfl⟩
  rw [hW1] at HV1 HR1
  rw [hW1]
  clear hW1
  obtain ⟨a0, a1, a2, a3⟩ := HV1.out.r; obtain ⟨b0, b1, b2, b3⟩ := HV1.out.rf; obtain ⟨c0', c1', c2', c3'⟩ := HV1.out.e; obtain ⟨d0, d1, d2, d3⟩ := HV1.out.ef
  go_wp2_with (go_at_call 22; refine (named_yes 1 _ (by omega)).mono ?_; rintro e w' ⟨rfl, rfl⟩)
  refine (small_ok g 63 4 yr y t w0 _ A1 n1 c1 HR1.out HY.out (by omega)).mono ?_
  rintro en w2 ⟨rfl, hk2, A2, n2, c2, hr2⟩
  have HVt := Aside0.mk (HV1.out.call hk2)
  obtain ⟨W2, hW2, hv2, hrd2, _, _⟩ := HVt.out.set 1 (.int .i64 y) (.inl ⟨rfl, rfl, rfl, rfl, rfl⟩)
  have HV2 := Aside0.mk hv2
  have HR2 := Aside0.mk (hrd2 _ _ _ _ hr2)
  have HW2 := Aside0.mk hW2
  clear hk2 hr2 hv2 hrd2 hW2 HV1 HR1
  clear a0 a1 a2 a3 b0 b1 b2 b3 c0' c1' c2' c3' d0 d1 d2 d3
  obtain ⟨a0, a1, a2, a3⟩ := HVt.out.r; obtain ⟨b0, b1, b2, b3⟩ := HVt.out.rf; obtain ⟨c0', c1', c2', c3'⟩ := HVt.out.e; obtain ⟨d0, d1, d2, d3⟩ := HVt.out.ef
  clear HVt
  go_upto_region 4 with (fail)
  rw [HW2.out]
  clear a0 a1 a2 a3 b0 b1 b2 b3 c0' c1' c2' c3' d0 d1 d2 d3
  clear HW2
  obtain ⟨a0, a1, a2, a3⟩ := HV2.out.r; obtain ⟨b0, b1, b2, b3⟩ := HV2.out.rf; obtain ⟨c0', c1', c2', c3'⟩ := HV2.out.e; obtain ⟨d0, d1, d2, d3⟩ := HV2.out.ef
  go_wp2_with fail
  refine (number_ok g t w0 _ A2 n2 c2 HR2.out kk (m : Int) j HT.out hv (by have := HR2.out.len; omega)).mono ?_
  rintro en w3 ⟨rfl, hk3a, A3, n3, c3, hr3a⟩
  have HK3a := Aside0.mk hk3a
  have HR3a := Aside0.mk hr3a
  clear hk3a hr3a
  go_wp2_with fail
  refine (bytes_ok g (t.drop j) m w0 _ A3 n3 c3 HR3a.out (by have := HR3a.out.len; rw [List.length_drop] at this; omega) (by omega)).mono ?_
  rintro en w4 ⟨B5, d5, rfl, hmd, hF, hk4, A4, n4, c4, hr3⟩
  have hk3 := keep_trans HK3a.out hk4
  have HVt := Aside0.mk (HV2.out.call hk3)
  obtain ⟨W3, hW3, hv3, hrd3, hz3, ho3⟩ := HVt.out.set 3 (.slice B5 m d5) (.inr (.inr ⟨rfl, rfl, rfl, rfl, rfl⟩))
  have HV3 := Aside0.mk hv3
  have HR3 := Aside0.mk (hrd3 _ _ _ _ hr3)
  have HW3 := Aside0.mk hW3
  have hE3 : w1.heap.size < w3.heap.size := Nat.lt_of_lt_of_le HV2.out.lt1 HK3a.out.1
  have hw1 := HVt.out.lt0
  have HF := Aside0.mk (V_of_F (b := 0) (Kd.F_step (W1 := W3) (Kd.F_mono (ok' := fun k => w1.heap.size < k) hF (fun k hk => by have : w3.heap.size ≤ k := hk; omega)) (fun k hk _ => ho3 k (by have : w1.heap.size < k := hk; omega))) hmd)
  clear hF HK3a HR3a hk4
  clear hk3 hr3 hv3 hrd3 hW3 HV2 HR2 hz3 ho3
  clear a0 a1 a2 a3 b0 b1 b2 b3 c0' c1' c2' c3' d0 d1 d2 d3
  obtain ⟨a0, a1, a2, a3⟩ := HVt.out.r; obtain ⟨b0, b1, b2, b3⟩ := HVt.out.rf; obtain ⟨c0', c1', c2', c3'⟩ := HVt.out.e; obtain ⟨d0, d1, d2, d3⟩ := HVt.out.ef
  clear HVt
  go_upto_region 12 with (fail)
  rw [HW3.out]
  clear a0 a1 a2 a3 b0 b1 b2 b3 c0' c1' c2' c3' d0 d1 d2 d3
  clear HW3
  obtain ⟨a0, a1, a2, a3⟩ := HV3.out.r; obtain ⟨b0, b1, b2, b3⟩ := HV3.out.rf; obtain ⟨c0', c1', c2', c3'⟩ := HV3.out.e; obtain ⟨d0, d1, d2, d3⟩ := HV3.out.ef
  go_wp2_with fail
  have hsz := HV3.out.lt1
  refine bodyPost_ret (v := .agg #[.int .i64 1, .int .i64 y, .int .i64 0, .slice B5 m d5]) (by simp [results, Try.results26, go_sem, a0, a1, a2, a3, b0, b1, b2, b3, c0', c1', c2', c3', d0, d1, d2, d3]) rfl ⟨_, rfl, Kd.V_mono (Kd.V_far (Kd.V_far (Kd.V_far (Kd.V_far HF.out (fun k hk => by have : w1.heap.size < k := hk; show k ≠ w.heap.size; omega) _) (fun k hk => by have : w1.heap.size < k := hk; show k ≠ w.heap.size; omega) _) (fun k hk => by have : w1.heap.size < k := hk; show k ≠ w.heap.size; omega) _) (fun k hk => by have : w1.heap.size < k := hk; show k ≠ w.heap.size; omega) _) (fun k hk => by have : w1.heap.size < k := hk; omega), ?_⟩
  refine ⟨?_, _, _, _, ((((HR3.out.far _ _ (by omega) (by omega) _).far _ _ (by omega) (by omega) _).far _ _ (by omega) (by omega) _).far _ _ (by omega) (by omega) _)⟩
  exact keep_four HV3.out.keep _ _ _ _
set_option maxHeartbeats 4000000 in
theorem event_5none (g : Nat) (xr yr y : Int) (w0 w : World) (A : Option Addr) (n c : Nat) (hr : Rd w0 w g (xr :: yr :: []) A n c) (hx : wrap64 xr = 5) (hy : wrap64 yr = y) (g1 : y ≤ 63) :
    Calls Try.prog 26 #[.pointer (some ⟨g, 0, none⟩)] w fun en w' => EvNo w0 w g 1 en w' := by
  have HX := Aside0.mk hx
  clear hx
  have HY := Aside0.mk hy
  clear hy
  have hgl := hr.lt
  have hge := hr.below.size
  have HR0 := Aside0.mk (hr.later (below_alloc (Below.refl w.heap.size w) (.cells #[.int .i64 0, .int .i64 0, .int .i64 0, .slice none 0 0] 27)))
  have HB0 := Aside0.mk hr.below
  clear hr
  go_enter Try.func26, Try.ntmps26
  go_wp2_with fail
  refine (small_ok g 7 2 xr 5 (yr :: []) w0 _ A n c HR0.out HX.out (by omega)).mono ?_
  rintro en w1 ⟨rfl, hk1, A1, n1, c1, hr1⟩
  have HV1 := Aside0.mk (Ev.made hge hgl hk1 5)
  have HR1 := Aside0.mk (hr1.later (below_alloc (Below.refl w1.heap.size w1) (.cells #[.int .i64 5, .int .i64 0, .int .i64 0, .slice none 0 0] 27)))
  clear hk1 hr1 HR0
  go_upto_region 2 with (fail)
  obtain ⟨W1, hW1⟩ : ∃ W1, w1.alloc (.cells #[.int .i64 5, .int .i64 0, .int .i64 0, .slice none 0 0] 27) = W1 := ⟨_, rfl⟩
  rw [hW1] at HV1 HR1
  rw [hW1]
  clear hW1
  obtain ⟨a0, a1, a2, a3⟩ := HV1.out.r; obtain ⟨b0, b1, b2, b3⟩ := HV1.out.rf; obtain ⟨c0', c1', c2', c3'⟩ := HV1.out.e; obtain ⟨d0, d1, d2, d3⟩ := HV1.out.ef
  go_wp2_with (go_at_call 22; refine (named_yes 5 _ (by omega)).mono ?_; rintro e w' ⟨rfl, rfl⟩)
  refine (small_ok g 63 4 yr y [] w0 _ A1 n1 c1 HR1.out HY.out (by omega)).mono ?_
  rintro en w2 ⟨rfl, hk2, A2, n2, c2, hr2⟩
  have HVt := Aside0.mk (HV1.out.call hk2)
  obtain ⟨W2, hW2, hv2, hrd2, _, _⟩ := HVt.out.set 1 (.int .i64 y) (.inl ⟨rfl, rfl, rfl, rfl, rfl⟩)
  have HV2 := Aside0.mk hv2
  have HR2 := Aside0.mk (hrd2 _ _ _ _ hr2)
  have HW2 := Aside0.mk hW2
  clear hk2 hr2 hv2 hrd2 hW2 HV1 HR1
  clear a0 a1 a2 a3 b0 b1 b2 b3 c0' c1' c2' c3' d0 d1 d2 d3
  obtain ⟨a0, a1, a2, a3⟩ := HVt.out.r; obtain ⟨b0, b1, b2, b3⟩ := HVt.out.rf; obtain ⟨c0', c1', c2', c3'⟩ := HVt.out.e; obtain ⟨d0, d1, d2, d3⟩ := HVt.out.ef
  clear HVt
  go_upto_region 4 with (fail)
  rw [HW2.out]
  clear a0 a1 a2 a3 b0 b1 b2 b3 c0' c1' c2' c3' d0 d1 d2 d3
  clear HW2
  obtain ⟨a0, a1, a2, a3⟩ := HV2.out.r; obtain ⟨b0, b1, b2, b3⟩ := HV2.out.rf; obtain ⟨c0', c1', c2', c3'⟩ := HV2.out.e; obtain ⟨d0, d1, d2, d3⟩ := HV2.out.ef
  go_wp2_with (go_at_call 24; refine (limit5 _).mono ?_; rintro e w' ⟨rfl, rfl⟩)
  obtain rfl : n2 = 0 := by have := HR2.out.len; simpa using this.symm
  refine (small_none g 6 2 w0 _ A2 c2 HR2.out).mono ?_
  rintro en w3 ⟨rfl, rfl⟩
  unfold Wrong
  go_wp2_with fail
  exact ⟨rfl, rfl, HV2.out.keep, HR2.out.below⟩
set_option maxHeartbeats 4000000 in
theorem event_5big (g : Nat) (xr yr y : Int) (zr x : Int) (t : List Int) (w0 w : World) (A : Option Addr) (n c : Nat) (hr : Rd w0 w g (xr :: yr :: zr :: t) A n c) (hx : wrap64 xr = 5) (hy : wrap64 yr = y) (g1 : y ≤ 63) (hz : wrap64 zr = x) (q2 : 6 < x) :
    Calls Try.prog 26 #[.pointer (some ⟨g, 0, none⟩)] w fun en w' => EvNo w0 w g 2 en w' := by
  have HZX := Aside0.mk hz
  clear hz
  have HX := Aside0.mk hx
  clear hx
  have HY := Aside0.mk hy
  clear hy
  have hgl := hr.lt
  have hge := hr.below.size
  have HR0 := Aside0.mk (hr.later (below_alloc (Below.refl w.heap.size w) (.cells #[.int .i64 0, .int .i64 0, .int .i64 0, .slice none 0 0] 27)))
  have HB0 := Aside0.mk hr.below
  clear hr
  go_enter Try.func26, Try.ntmps26
  go_wp2_with fail
  refine (small_ok g 7 2 xr 5 (yr :: zr :: t) w0 _ A n c HR0.out HX.out (by omega)).mono ?_
  rintro en w1 ⟨rfl, hk1, A1, n1, c1, hr1⟩
  have HV1 := Aside0.mk (Ev.made hge hgl hk1 5)
  have HR1 := Aside0.mk (hr1.later (below_alloc (Below.refl w1.heap.size w1) (.cells #[.int .i64 5, .int .i64 0, .int .i64 0, .slice none 0 0] 27)))
  clear hk1 hr1 HR0
  go_upto_region 2 with (fail)
  obtain ⟨W1, hW1⟩ : ∃ W1, w1.alloc (.cells #[.int .i64 5, .int .i64 0, .int .i64 0, .slice none 0 0] 27) = W1 := ⟨_, rfl⟩
  rw [hW1] at HV1 HR1
  rw [hW1]
  clear hW1
  obtain ⟨a0, a1, a2, a3⟩ := HV1.out.r; obtain ⟨b0, b1, b2, b3⟩ := HV1.out.rf; obtain ⟨c0', c1', c2', c3'⟩ := HV1.out.e; obtain ⟨d0, d1, d2, d3⟩ := HV1.out.ef
  go_wp2_with (go_at_call 22; refine (named_yes 5 _ (by omega)).mono ?_; rintro e w' ⟨rfl, rfl⟩)
  refine (small_ok g 63 4 yr y (zr :: t) w0 _ A1 n1 c1 HR1.out HY.out (by omega)).mono ?_
  rintro en w2 ⟨rfl, hk2, A2, n2, c2, hr2⟩
  have HVt := Aside0.mk (HV1.out.call hk2)
  obtain ⟨W2, hW2, hv2, hrd2, _, _⟩ := HVt.out.set 1 (.int .i64 y) (.inl ⟨rfl, rfl, rfl, rfl, rfl⟩)
  have HV2 := Aside0.mk hv2
  have HR2 := Aside0.mk (hrd2 _ _ _ _ hr2)
  have HW2 := Aside0.mk hW2
  clear hk2 hr2 hv2 hrd2 hW2 HV1 HR1
  clear a0 a1 a2 a3 b0 b1 b2 b3 c0' c1' c2' c3' d0 d1 d2 d3
  obtain ⟨a0, a1, a2, a3⟩ := HVt.out.r; obtain ⟨b0, b1, b2, b3⟩ := HVt.out.rf; obtain ⟨c0', c1', c2', c3'⟩ := HVt.out.e; obtain ⟨d0, d1, d2, d3⟩ := HVt.out.ef
  clear HVt
  go_upto_region 4 with (fail)
  rw [HW2.out]
  clear a0 a1 a2 a3 b0 b1 b2 b3 c0' c1' c2' c3' d0 d1 d2 d3
  clear HW2
  obtain ⟨a0, a1, a2, a3⟩ := HV2.out.r; obtain ⟨b0, b1, b2, b3⟩ := HV2.out.rf; obtain ⟨c0', c1', c2', c3'⟩ := HV2.out.e; obtain ⟨d0, d1, d2, d3⟩ := HV2.out.ef
  go_wp2_with (go_at_call 24; refine (limit5 _).mono ?_; rintro e w' ⟨rfl, rfl⟩)
  refine (small_big g 6 2 zr x t w0 _ A2 n2 c2 HR2.out HZX.out q2).mono ?_
  rintro en w3 ⟨rfl, rfl⟩
  unfold Wrong
  go_wp2_with fail
  exact ⟨rfl, rfl, HV2.out.keep, HR2.out.below⟩
set_option maxHeartbeats 4000000 in
theorem event_5ok (g : Nat) (xr yr y : Int) (zr x : Int) (t : List Int) (w0 w : World) (A : Option Addr) (n c : Nat) (hr : Rd w0 w g (xr :: yr :: zr :: t) A n c) (hx : wrap64 xr = 5) (hy : wrap64 yr = y) (g1 : y ≤ 63) (hz : wrap64 zr = x) (q1 : x ≤ 6) :
    Calls Try.prog 26 #[.pointer (some ⟨g, 0, none⟩)] w fun en w' => EvOk w0 w g t 5 y x [] en w' := by
  have HZX := Aside0.mk hz
  clear hz
  have HX := Aside0.mk hx
  clear hx
  have HY := Aside0.mk hy
  clear hy
  have hgl := hr.lt
  have hge := hr.below.size
  have HR0 := Aside0.mk (hr.later (below_alloc (Below.refl w.heap.size w) (.cells #[.int .i64 0, .int .i64 0, .int .i64 0, .slice none 0 0] 27)))
  have HB0 := Aside0.mk hr.below
  clear hr
  go_enter Try.func26, Try.ntmps26
  go_wp2_with fail
  refine (small_ok g 7 2 xr 5 (yr :: zr :: t) w0 _ A n c HR0.out HX.out (by omega)).mono ?_
  rintro en w1 ⟨rfl, hk1, A1, n1, c1, hr1⟩
  have HV1 := Aside0.mk (Ev.made hge hgl hk1 5)
  have HR1 := Aside0.mk (hr1.later (below_alloc (Below.refl w1.heap.size w1) (.cells #[.int .i64 5, .int .i64 0, .int .i64 0, .slice none 0 0] 27)))
  clear hk1 hr1 HR0
  go_upto_region 2 with (fail)
  obtain ⟨W1, hW1⟩ : ∃ W1, w1.alloc (.cells #[.int .i64 5, .int .i64 0, .int .i64 0, .slice none 0 0] 27) = W1 := ⟨_, rfl⟩
  rw [hW1] at HV1 HR1
  rw [hW1]
  clear hW1
  obtain ⟨a0, a1, a2, a3⟩ := HV1.out.r; obtain ⟨b0, b1, b2, b3⟩ := HV1.out.rf; obtain ⟨c0', c1', c2', c3'⟩ := HV1.out.e; obtain ⟨d0, d1, d2, d3⟩ := HV1.out.ef
  go_wp2_with (go_at_call 22; refine (named_yes 5 _ (by omega)).mono ?_; rintro e w' ⟨rfl, rfl⟩)
  refine (small_ok g 63 4 yr y (zr :: t) w0 _ A1 n1 c1 HR1.out HY.out (by omega)).mono ?_
  rintro en w2 ⟨rfl, hk2, A2, n2, c2, hr2⟩
  have HVt := Aside0.mk (HV1.out.call hk2)
  obtain ⟨W2, hW2, hv2, hrd2, _, _⟩ := HVt.out.set 1 (.int .i64 y) (.inl ⟨rfl, rfl, rfl, rfl, rfl⟩)
  have HV2 := Aside0.mk hv2
  have HR2 := Aside0.mk (hrd2 _ _ _ _ hr2)
  have HW2 := Aside0.mk hW2
  clear hk2 hr2 hv2 hrd2 hW2 HV1 HR1
  clear a0 a1 a2 a3 b0 b1 b2 b3 c0' c1' c2' c3' d0 d1 d2 d3
  obtain ⟨a0, a1, a2, a3⟩ := HVt.out.r; obtain ⟨b0, b1, b2, b3⟩ := HVt.out.rf; obtain ⟨c0', c1', c2', c3'⟩ := HVt.out.e; obtain ⟨d0, d1, d2, d3⟩ := HVt.out.ef
  clear HVt
  go_upto_region 4 with (fail)
  rw [HW2.out]
  clear a0 a1 a2 a3 b0 b1 b2 b3 c0' c1' c2' c3' d0 d1 d2 d3
  clear HW2
  obtain ⟨a0, a1, a2, a3⟩ := HV2.out.r; obtain ⟨b0, b1, b2, b3⟩ := HV2.out.rf; obtain ⟨c0', c1', c2', c3'⟩ := HV2.out.e; obtain ⟨d0, d1, d2, d3⟩ := HV2.out.ef
  go_wp2_with (go_at_call 24; refine (limit5 _).mono ?_; rintro e w' ⟨rfl, rfl⟩)
  refine (small_ok g 6 2 zr x t w0 _ A2 n2 c2 HR2.out HZX.out q1).mono ?_
  rintro en w3 ⟨rfl, hk3, A3, n3, c3, hr3⟩
  have HVt := Aside0.mk (HV2.out.call hk3)
  obtain ⟨W3, hW3, hv3, hrd3, hz3, ho3⟩ := HVt.out.set 2 (.int .i64 x) (.inr (.inl ⟨rfl, rfl, rfl, rfl, rfl⟩))
  have HV3 := Aside0.mk hv3
  have HR3 := Aside0.mk (hrd3 _ _ _ _ hr3)
  have HW3 := Aside0.mk hW3
  clear hk3 hr3 hv3 hrd3 hW3 HV2 HR2 hz3 ho3
  clear a0 a1 a2 a3 b0 b1 b2 b3 c0' c1' c2' c3' d0 d1 d2 d3
  obtain ⟨a0, a1, a2, a3⟩ := HVt.out.r; obtain ⟨b0, b1, b2, b3⟩ := HVt.out.rf; obtain ⟨c0', c1', c2', c3'⟩ := HVt.out.e; obtain ⟨d0, d1, d2, d3⟩ := HVt.out.ef
  clear HVt
  go_upto_region 12 with (fail)
  rw [HW3.out]
  clear a0 a1 a2 a3 b0 b1 b2 b3 c0' c1' c2' c3' d0 d1 d2 d3
  clear HW3
  obtain ⟨a0, a1, a2, a3⟩ := HV3.out.r; obtain ⟨b0, b1, b2, b3⟩ := HV3.out.rf; obtain ⟨c0', c1', c2', c3'⟩ := HV3.out.e; obtain ⟨d0, d1, d2, d3⟩ := HV3.out.ef
  go_wp2_with fail
  have hsz := HV3.out.lt1
  refine bodyPost_ret (v := .agg #[.int .i64 5, .int .i64 y, .int .i64 x, .slice none 0 0]) (by simp [results, Try.results26, go_sem, a0, a1, a2, a3, b0, b1, b2, b3, c0', c1', c2', c3', d0, d1, d2, d3]) rfl ⟨_, rfl, Kd.V_nil _ _ _ _ _, ?_⟩
  refine ⟨?_, _, _, _, ((((HR3.out.far _ _ (by omega) (by omega) _).far _ _ (by omega) (by omega) _).far _ _ (by omega) (by omega) _).far _ _ (by omega) (by omega) _)⟩
  exact keep_four HV3.out.keep _ _ _ _
set_option maxHeartbeats 4000000 in
theorem event_7none (g : Nat) (xr : Int) (w0 w : World) (A : Option Addr) (n c : Nat) (hr : Rd w0 w g (xr :: []) A n c) (hx : wrap64 xr = 7) :
    Calls Try.prog 26 #[.pointer (some ⟨g, 0, none⟩)] w fun en w' => EvNo w0 w g 1 en w' := by
  have HX := Aside0.mk hx
  clear hx
  have hgl := hr.lt
  have hge := hr.below.size
  have HR0 := Aside0.mk (hr.later (below_alloc (Below.refl w.heap.size w) (.cells #[.int .i64 0, .int .i64 0, .int .i64 0, .slice none 0 0] 27)))
  have HB0 := Aside0.mk hr.below
  clear hr
  go_enter Try.func26, Try.ntmps26
  go_wp2_with fail
  refine (small_ok g 7 2 xr 7 ([]) w0 _ A n c HR0.out HX.out (by omega)).mono ?_
  rintro en w1 ⟨rfl, hk1, A1, n1, c1, hr1⟩
  have HV1 := Aside0.mk (Ev.made hge hgl hk1 7)
  have HR1 := Aside0.mk (hr1.later (below_alloc (Below.refl w1.heap.size w1) (.cells #[.int .i64 7, .int .i64 0, .int .i64 0, .slice none 0 0] 27)))
  clear hk1 hr1 HR0
  go_upto_region 2 with (fail)
  obtain ⟨W1, hW1⟩ : ∃ W1, w1.alloc (.cells #[.int .i64 7, .int .i64 0, .int .i64 0, .slice none 0 0] 27) = W1 := ⟨_, rfl⟩
  rw [hW1] at HV1 HR1
  rw [hW1]
  clear hW1
  obtain ⟨a0, a1, a2, a3⟩ := HV1.out.r; obtain ⟨b0, b1, b2, b3⟩ := HV1.out.rf; obtain ⟨c0', c1', c2', c3'⟩ := HV1.out.e; obtain ⟨d0, d1, d2, d3⟩ := HV1.out.ef
  go_wp2_with (go_at_call 22; refine (named_no 7 _ (by omega)).mono ?_; rintro e w' ⟨rfl, rfl⟩)
  have HV2 := HV1
  have HR2 := HR1
  go_wp2_with (go_at_call 24; refine (limit7 _).mono ?_; rintro e w' ⟨rfl, rfl⟩)
  obtain rfl : n1 = 0 := by have := HR2.out.len; simpa using this.symm
  refine (small_none g 7 2 w0 _ A1 c1 HR2.out).mono ?_
  rintro en w3 ⟨rfl, rfl⟩
  unfold Wrong
  go_wp2_with fail
  exact ⟨rfl, rfl, HV2.out.keep, HR2.out.below⟩
set_option maxHeartbeats 4000000 in
theorem event_7big (g : Nat) (xr : Int) (zr x : Int) (t : List Int) (w0 w : World) (A : Option Addr) (n c : Nat) (hr : Rd w0 w g (xr :: zr :: t) A n c) (hx : wrap64 xr = 7) (hz : wrap64 zr = x) (q2 : 7 < x) :
    Calls Try.prog 26 #[.pointer (some ⟨g, 0, none⟩)] w fun en w' => EvNo w0 w g 2 en w' := by
  have HZX := Aside0.mk hz
  clear hz
  have HX := Aside0.mk hx
  clear hx
  have hgl := hr.lt
  have hge := hr.below.size
  have HR0 := Aside0.mk (hr.later (below_alloc (Below.refl w.heap.size w) (.cells #[.int .i64 0, .int .i64 0, .int .i64 0, .slice none 0 0] 27)))
  have HB0 := Aside0.mk hr.below
  clear hr
  go_enter Try.func26, Try.ntmps26
  go_wp2_with fail
  refine (small_ok g 7 2 xr 7 (zr :: t) w0 _ A n c HR0.out HX.out (by omega)).mono ?_
  rintro en w1 ⟨rfl, hk1, A1, n1, c1, hr1⟩
  have HV1 := Aside0.mk (Ev.made hge hgl hk1 7)
  have HR1 := Aside0.mk (hr1.later (below_alloc (Below.refl w1.heap.size w1) (.cells #[.int .i64 7, .int .i64 0, .int .i64 0, .slice none 0 0] 27)))
  clear hk1 hr1 HR0
  go_upto_region 2 with (fail)
  obtain ⟨W1, hW1⟩ : ∃ W1, w1.alloc (.cells #[.int .i64 7, .int .i64 0, .int .i64 0, .slice none 0 0] 27) = W1 := ⟨_, rfl⟩
  rw [hW1] at HV1 HR1
  rw [hW1]
  clear hW1
  obtain ⟨a0, a1, a2, a3⟩ := HV1.out.r; obtain ⟨b0, b1, b2, b3⟩ := HV1.out.rf; obtain ⟨c0', c1', c2', c3'⟩ := HV1.out.e; obtain ⟨d0, d1, d2, d3⟩ := HV1.out.ef
  go_wp2_with (go_at_call 22; refine (named_no 7 _ (by omega)).mono ?_; rintro e w' ⟨rfl, rfl⟩)
  have HV2 := HV1
  have HR2 := HR1
  go_wp2_with (go_at_call 24; refine (limit7 _).mono ?_; rintro e w' ⟨rfl, rfl⟩)
  refine (small_big g 7 2 zr x t w0 _ A1 n1 c1 HR2.out HZX.out q2).mono ?_
  rintro en w3 ⟨rfl, rfl⟩
  unfold Wrong
  go_wp2_with fail
  exact ⟨rfl, rfl, HV2.out.keep, HR2.out.below⟩
set_option maxHeartbeats 4000000 in
theorem event_7ok (g : Nat) (xr : Int) (zr x : Int) (t : List Int) (w0 w : World) (A : Option Addr) (n c : Nat) (hr : Rd w0 w g (xr :: zr :: t) A n c) (hx : wrap64 xr = 7) (hz : wrap64 zr = x) (q1 : x ≤ 7) :
    Calls Try.prog 26 #[.pointer (some ⟨g, 0, none⟩)] w fun en w' => EvOk w0 w g t 7 0 x [] en w' := by
  have HZX := Aside0.mk hz
  clear hz
  have HX := Aside0.mk hx
  clear hx
  have hgl := hr.lt
  have hge := hr.below.size
  have HR0 := Aside0.mk (hr.later (below_alloc (Below.refl w.heap.size w) (.cells #[.int .i64 0, .int .i64 0, .int .i64 0, .slice none 0 0] 27)))
  have HB0 := Aside0.mk hr.below
  clear hr
  go_enter Try.func26, Try.ntmps26
  go_wp2_with fail
  refine (small_ok g 7 2 xr 7 (zr :: t) w0 _ A n c HR0.out HX.out (by omega)).mono ?_
  rintro en w1 ⟨rfl, hk1, A1, n1, c1, hr1⟩
  have HV1 := Aside0.mk (Ev.made hge hgl hk1 7)
  have HR1 := Aside0.mk (hr1.later (below_alloc (Below.refl w1.heap.size w1) (.cells #[.int .i64 7, .int .i64 0, .int .i64 0, .slice none 0 0] 27)))
  clear hk1 hr1 HR0
  go_upto_region 2 with (fail)
  obtain ⟨W1, hW1⟩ : ∃ W1, w1.alloc (.cells #[.int .i64 7, .int .i64 0, .int .i64 0, .slice none 0 0] 27) = W1 := ⟨_, rfl⟩
  rw [hW1] at HV1 HR1
  rw [hW1]
  clear hW1
  obtain ⟨a0, a1, a2, a3⟩ := HV1.out.r; obtain ⟨b0, b1, b2, b3⟩ := HV1.out.rf; obtain ⟨c0', c1', c2', c3'⟩ := HV1.out.e; obtain ⟨d0, d1, d2, d3⟩ := HV1.out.ef
  go_wp2_with (go_at_call 22; refine (named_no 7 _ (by omega)).mono ?_; rintro e w' ⟨rfl, rfl⟩)
  have HV2 := HV1
  have HR2 := HR1
  go_wp2_with (go_at_call 24; refine (limit7 _).mono ?_; rintro e w' ⟨rfl, rfl⟩)
  refine (small_ok g 7 2 zr x t w0 _ A1 n1 c1 HR2.out HZX.out q1).mono ?_
  rintro en w3 ⟨rfl, hk3, A3, n3, c3, hr3⟩
  have HVt := Aside0.mk (HV2.out.call hk3)
  obtain ⟨W3, hW3, hv3, hrd3, hz3, ho3⟩ := HVt.out.set 2 (.int .i64 x) (.inr (.inl ⟨rfl, rfl, rfl, rfl, rfl⟩))
  have HV3 := Aside0.mk hv3
  have HR3 := Aside0.mk (hrd3 _ _ _ _ hr3)
  have HW3 := Aside0.mk hW3
  clear hk3 hr3 hv3 hrd3 hW3 HV2 HR2 hz3 ho3
  clear a0 a1 a2 a3 b0 b1 b2 b3 c0' c1' c2' c3' d0 d1 d2 d3
  obtain ⟨a0, a1, a2, a3⟩ := HVt.out.r; obtain ⟨b0, b1, b2, b3⟩ := HVt.out.rf; obtain ⟨c0', c1', c2', c3'⟩ := HVt.out.e; obtain ⟨d0, d1, d2, d3⟩ := HVt.out.ef
  clear HVt
  go_upto_region 12 with (fail)
  rw [HW3.out]
  clear a0 a1 a2 a3 b0 b1 b2 b3 c0' c1' c2' c3' d0 d1 d2 d3
  clear HW3
  obtain ⟨a0, a1, a2, a3⟩ := HV3.out.r; obtain ⟨b0, b1, b2, b3⟩ := HV3.out.rf; obtain ⟨c0', c1', c2', c3'⟩ := HV3.out.e; obtain ⟨d0, d1, d2, d3⟩ := HV3.out.ef
  go_wp2_with fail
  have hsz := HV3.out.lt1
  refine bodyPost_ret (v := .agg #[.int .i64 7, .int .i64 0, .int .i64 x, .slice none 0 0]) (by simp [results, Try.results26, go_sem, a0, a1, a2, a3, b0, b1, b2, b3, c0', c1', c2', c3', d0, d1, d2, d3]) rfl ⟨_, rfl, Kd.V_nil _ _ _ _ _, ?_⟩
  refine ⟨?_, _, _, _, ((((HR3.out.far _ _ (by omega) (by omega) _).far _ _ (by omega) (by omega) _).far _ _ (by omega) (by omega) _).far _ _ (by omega) (by omega) _)⟩
  exact keep_four HV3.out.keep _ _ _ _
set_option maxHeartbeats 2000000 in
/-- The deferred closure, where the call panicked. -/
theorem catch_panicking (g : Nat) (c : Int) (older : List PanicEntry) (w : World) (hlt : g + 1 + 1 < w.heap.size)
    (hc : w.cell? ⟨g, 0, none⟩ = some (.int .i64 0) ∧ w.cell? ⟨g, 1, none⟩ = some (.int .i64 0) ∧ w.cell? ⟨g, 2, none⟩ = some (.int .i64 0) ∧ w.cell? ⟨g, 3, none⟩ = some (.slice none 0 0) ∧ w.cell? ⟨g + 1, 0, none⟩ = some (.int .i64 0) ∧ w.cell? ⟨g + 1 + 1, 0, none⟩ = some (.int .i64 0))
    (hz : w.frozen? ⟨g, 0, none⟩ = false ∧ w.frozen? ⟨g, 1, none⟩ = false ∧ w.frozen? ⟨g, 2, none⟩ = false ∧ w.frozen? ⟨g, 3, none⟩ = false ∧ w.frozen? ⟨g + 1, 0, none⟩ = false ∧ w.frozen? ⟨g + 1 + 1, 0, none⟩ = false) :
    CallsD Try.prog 25 #[.pointer (some ⟨g, 0, none⟩), .pointer (some ⟨g + 1, 0, none⟩), .pointer (some ⟨g + 1 + 1, 0, none⟩)] (.panicking ({ v := .iface 51 (.int .i64 c), recovered := false } :: older)) w fun e u' w' =>
      e = .returned (.tuple #[]) ∧ u' = .panicking ({ v := .iface 51 (.int .i64 c), recovered := true } :: older) ∧ (∀ w0 : World, w0.heap.size ≤ g → Below w0.heap.size w0 w → Below w0.heap.size w0 w') ∧
      w'.cell? ⟨g, 0, none⟩ = some (.int .i64 0) ∧ w'.cell? ⟨g, 1, none⟩ = some (.int .i64 0) ∧ w'.cell? ⟨g, 2, none⟩ = some (.int .i64 0) ∧ w'.cell? ⟨g, 3, none⟩ = some (.slice none 0 0) ∧ w'.cell? ⟨g + 1, 0, none⟩ = some (.int .i64 0) ∧ w'.cell? ⟨g + 1 + 1, 0, none⟩ = some (.int .i64 c) := by
  obtain ⟨c0, c1, c2, c3, c4, c5⟩ := hc
  obtain ⟨z0, z1, z2, z3, z4, z5⟩ := hz
  have hu27 := Try.underlying27
  have hta : ∀ W : World, (Instr.typeAssert (.iface 51 (.int .i64 c)) 20 51 false).run Try.prog W = .ok (.int .i64 c) W := fun _ => by kernel_rfl
  refine callsD_of_wpS Try.func25 rfl fun c₀ cs hu => ?_
  apply wpS_seq
  apply wpS_region
  simp [wpOpsS, go_sem, recoverD, hu, Try.ntmps25, Exit.thenS]
  refine wpS_of_wp ?_
  change Code.wp Try.prog _ _ { tmps := #[.pointer (some ⟨g, 0, none⟩), .pointer (some ⟨g + 1, 0, none⟩), .pointer (some ⟨g + 1 + 1, 0, none⟩), .iface 51 (.int .i64 c), .iface 51 (.int .i64 c), undef, undef, undef, undef, undef], defers := [] } _
  go_wp2_with fail
  refine start_ (n := 6) (S := fun w' => True) (ds := [5]) #[false, false, false, false, false, false] (by kernel_rfl) rfl rfl trivial (fun hHeld => ?_)
  refine pure_ (i := 0) (N := some 7) (v := ?_) (a' := ?_) #[true, false, false, false, false, false] rfl rfl (by kernel_rfl) (fun _ _ _ h => h) (Or.inl ⟨by rfl, ?_⟩) ?_ ?_
  rotate_left
  · intro w'
    go_simp
    with_reducible rfl
  rotate_left
  · simp only [Act.put, List.setIfInBounds_toArray, List.set_cons_zero, List.set_cons_succ, i64_w, i32_w]
    rfl
  refine pure_ (i := 1) (N := some 8) (v := ?_) (a' := ?_) #[true, true, false, false, false, false] rfl rfl (by kernel_rfl) (fun _ _ _ h => h) (Or.inl ⟨by rfl, ?_⟩) ?_ ?_
  rotate_left
  · intro w'
    go_simp
    with_reducible rfl
  rotate_left
  · simp only [Act.put, List.setIfInBounds_toArray, List.set_cons_zero, List.set_cons_succ, i64_w, i32_w]
    rfl
  refine pure_ (i := 2) (N := some 9) (v := ?_) (a' := ?_) #[true, true, true, false, false, false] rfl rfl (by kernel_rfl) (fun _ _ _ h => h) (Or.inl ⟨by rfl, ?_⟩) ?_ ?_
  rotate_left
  · intro w'
    go_simp
    with_reducible rfl
  rotate_left
  · simp only [Act.put, List.setIfInBounds_toArray, List.set_cons_zero, List.set_cons_succ, i64_w, i32_w]
    rfl
  refine one_ (i := 3) (N := none) #[true, true, true, true, false, false] rfl rfl (by kernel_rfl) (by decide) (fun K hK => ?_)
  refine skip_ (w1 := ?_) (by rfl) rfl ?_ ?_
  rotate_left 1
  · go_simp
    rfl
  refine hK.out _ _ trivial (fun hHeld => ?_)
  clear hK K
  refine one_ (i := 4) (N := none) #[true, true, true, true, true, false] rfl rfl (by kernel_rfl) (by decide) (fun K hK => ?_)
  refine skip_ (w1 := ?_) (by rfl) rfl ?_ ?_
  rotate_left 1
  · go_simp
    rfl
  refine hK.out _ _ trivial (fun hHeld => ?_)
  clear hK K
  refine last_ (i := 5) (N := none) #[true, true, true, true, true, true] rfl rfl (by kernel_rfl) (by decide) (fun K hK => ?_)
  refine skip_ (w1 := ?_) (by rfl) rfl ?_ ?_
  rotate_left 1
  · go_simp
    rfl
  refine hK.out _ _ ?_
  clear hK K
  refine done_ (by kernel_rfl) ?_
  go_wp2_with fail
  refine ⟨rfl, _, rfl, .tuple #[], by simp [results, Try.results25, go_sem], rfl, rfl, fun w0 hg hb => below_drew ((((((hb.setCell (by simpa using hg) _).setCell (by simpa using hg) _).setCell (by simpa using hg) _).setCell (by simpa using hg) _).setCell (by simp; omega) _).setCell (by simp; omega) _), ?_⟩
  refine ⟨?_, ?_, ?_, ?_, ?_, ?_⟩ <;> simp [go_sem, c0, c1, c2, c3, c4, c5]
theorem catch_idle (p q r : Value) (w : World) :
    CallsD Try.prog 25 #[p, q, r] .returning w fun e u' w' => e = .returned (.tuple #[]) ∧ u' = .returning ∧ w' = w := by
  refine callsD_of_wpS Try.func25 rfl fun c₀ cs hu => ?_
  apply wpS_seq
  apply wpS_region
  simp [wpOpsS, go_sem, recoverD, hu, Try.ntmps25, Exit.thenS]
  refine wpS_of_wp ?_
  change Code.wp Try.prog _ _ { tmps := #[p, q, r, .nilIface, .nilIface, undef, undef, undef, undef, undef], defers := [] } _
  go_wp2_with fail
  cases c₀
  simp_all [bodyPostS, results, Try.results25]
/-- The three results of a call of Get that began in w, as they were made. -/
structure Gt (w W : World) : Prop where
  lt : w.heap.size + 1 + 1 < W.heap.size
  c : W.cell? ⟨w.heap.size, 0, none⟩ = some (.int .i64 0) ∧ W.cell? ⟨w.heap.size, 1, none⟩ = some (.int .i64 0) ∧ W.cell? ⟨w.heap.size, 2, none⟩ = some (.int .i64 0) ∧ W.cell? ⟨w.heap.size, 3, none⟩ = some (.slice none 0 0) ∧ W.cell? ⟨w.heap.size + 1, 0, none⟩ = some (.int .i64 0) ∧ W.cell? ⟨w.heap.size + 1 + 1, 0, none⟩ = some (.int .i64 0)
  f : W.frozen? ⟨w.heap.size, 0, none⟩ = false ∧ W.frozen? ⟨w.heap.size, 1, none⟩ = false ∧ W.frozen? ⟨w.heap.size, 2, none⟩ = false ∧ W.frozen? ⟨w.heap.size, 3, none⟩ = false ∧ W.frozen? ⟨w.heap.size + 1, 0, none⟩ = false ∧ W.frozen? ⟨w.heap.size + 1 + 1, 0, none⟩ = false
theorem Gt.made (w : World) (o : Obj) : Gt w ((((w.alloc (.cells #[.int .i64 0, .int .i64 0, .int .i64 0, .slice none 0 0] 27)).alloc (.cells #[.int .i64 0] 3)).alloc (.cells #[.int .i64 0] 30)).alloc o) := by
  refine ⟨by simp, ?_, ?_⟩
  · refine ⟨?_, ?_, ?_, ?_, ?_, ?_⟩ <;> simp [go_sem]
  · refine ⟨?_, ?_, ?_, ?_, ?_, ?_⟩ <;> simp [go_sem]
theorem Gt.keep {w W W' : World} (h : Gt w W) (hk : KeepBut W W' (w.heap.size + 1 + 1 + 1) none) : Gt w W' := by
  have hlt := h.lt
  have c := fun b o (h1 : b < w.heap.size + 1 + 1 + 1) => keep_cells hk b o (by omega) (by omega)
  refine ⟨Nat.lt_of_lt_of_le hlt hk.1, ?_, ?_⟩
  · rw [(c _ _ (by omega)).1, (c _ _ (by omega)).1, (c _ _ (by omega)).1, (c _ _ (by omega)).1, (c _ _ (by omega)).1, (c _ _ (by omega)).1]; exact h.c
  · rw [(c _ _ (by omega)).2, (c _ _ (by omega)).2, (c _ _ (by omega)).2, (c _ _ (by omega)).2, (c _ _ (by omega)).2, (c _ _ (by omega)).2]; exact h.f
theorem rd_made (w : World) (A : Option Addr) (c : Nat) (l : List Int) (hle : l.length ≤ c) (hF : Kd.F (Kd.int .u8) w (fun k => k < w.heap.size) A l.length l) :
    Rd w ((((w.alloc (.cells #[.int .i64 0, .int .i64 0, .int .i64 0, .slice none 0 0] 27)).alloc (.cells #[.int .i64 0] 3)).alloc (.cells #[.int .i64 0] 30)).alloc (.cells #[.slice A l.length c] 54)) (w.heap.size + 1 + 1 + 1) l A l.length c :=
  ⟨below_alloc (below_alloc (below_alloc (below_alloc (Below.refl _ _) _) _) _) _, by omega, by simp, by simp [go_sem], by simp [go_sem], rfl, hle, hF⟩
set_option maxHeartbeats 2000000 in
theorem get_no (P0 : Nat → Prop) (A : Option Addr) (c : Nat) (l : List Int) (z : Int) (w : World) (hs : Kd.V (Kd.int .u8) 5 w w.heap.size P0 (.slice A l.length c) l)
    (hev : ∀ w4, Rd w w4 (w.heap.size + 1 + 1 + 1) l A l.length c → Calls Try.prog 26 #[.pointer (some ⟨w.heap.size + 1 + 1 + 1, 0, none⟩)] w4 (EvNo w w4 (w.heap.size + 1 + 1 + 1) z)) :
    Calls Try.prog 13 #[.slice A l.length c] w fun e w' => Aside0 (e = .returned (.tuple #[.agg #[.int .i64 0, .int .i64 0, .int .i64 0, .slice none 0 0], .int .i64 0, .int .i64 z]) ∧ Below w.heap.size w w') := by
  have hmf : ∀ (fn : Fn) (first cap : Array Value) (w : World), (Instr.makeFunc fn first cap).run Try.prog w = .ok (.func fn first cap) w := fun _ _ _ _ => rfl
  have hu27 := Try.underlying27
  have hu54 := Try.underlying54
  obtain ⟨_, hle, hF⟩ := Kd.V_at (Kd.V_bound hs)
  have HR := Aside0.mk (rd_made w A c l hle (Kd.F_mono hF (fun _ hk => hk.2)))
  have HE := Aside0.mk hev
  clear hs hev hle hF
  go_enter_defers Try.func13, Try.ntmps13
  go_wp2_with fail
  refine (HE.out _ HR.out).mono ?_
  rintro en w5 ⟨rfl, hk, hb⟩
  have HG := Aside0.mk ((Gt.made w _).keep hk)
  have HB := Aside0.mk hb
  clear hk hb
  unfold Wrong
  go_wp2_with fail
  refine leaves_cons (f := 25) (args := #[.pointer (some ⟨w.heap.size, 0, none⟩), .pointer (some ⟨w.heap.size + 1, 0, none⟩), .pointer (some ⟨w.heap.size + 1 + 1, 0, none⟩)]) (by simp) (by simp [go_sem]) ?_
  refine (catch_panicking w.heap.size z [] _ HG.out.lt HG.out.c HG.out.f).mono ?_
  rintro e u' w6 ⟨rfl, rfl, hbb, k0, k1, k2, k3, k4, k5⟩
  have hb6 := hbb w (Nat.le_refl _) HB.out
  have HB6 := Aside0.mk hb6
  clear hbb hb6
  simp [Leaves, settle, results, Try.results13, go_sem, k0, k1, k2, k3, k4, k5]
  exact HB6
theorem leaves_same {fn : Func} {t1 t2 : Array Value} {R : Ending → World → Prop} (h : results fn t1 = results fn t2) : ∀ (ds : List Deferred) (u : FrameMode) (w : World), Leaves Try.prog fn t1 R ds u w → Leaves Try.prog fn t2 R ds u w
  | [], .returning, w => fun ⟨v, h1, h2⟩ => ⟨v, by rw [← h]; exact h1, h2⟩
  | [], .panicking chain, w => fun h => h
  | [], .run, w => fun h => h
  | d :: ds, u, w => fun ⟨hu, fv, cap, f, args, h1, h2, h3⟩ => ⟨hu, fv, cap, f, args, h1, h2, h3.mono fun e u' w' hq => by
      cases e with
      | returned v => exact leaves_same h ds _ _ hq
      | panicked c => exact leaves_same h ds _ _ hq
      | outgrown => exact hq⟩
theorem get_res (t : Array Value) (i : Nat) (v : Value) (hi : 5 ≤ i) : results Try.f13 (t.setIfInBounds i v) = results Try.f13 t := by
  have h2 : ¬ i = 2 := by omega
  have h3 : ¬ i = 3 := by omega
  have h4 : ¬ i = 4 := by omega
  simp [results, Try.results13, Array.getD_eq_getD_getElem?, Array.getElem?_setIfInBounds, h2, h3, h4]
theorem results_get {t : Array Value} {g : Nat} {W : World} (k i m : Int) (v : Value) (q r : Int) (c0 : W.cell? ⟨g, 0, none⟩ = some (.int .i64 k)) (c1 : W.cell? ⟨g, 1, none⟩ = some (.int .i64 i)) (c2 : W.cell? ⟨g, 2, none⟩ = some (.int .i64 m)) (c3 : W.cell? ⟨g, 3, none⟩ = some v)
    (c4 : W.cell? ⟨g + 1, 0, none⟩ = some (.int .i64 q)) (c5 : W.cell? ⟨g + 1 + 1, 0, none⟩ = some (.int .i64 r)) (t2 : t[2]? = some (.pointer (some ⟨g, 0, none⟩))) (t3 : t[3]? = some (.pointer (some ⟨g + 1, 0, none⟩))) (t4 : t[4]? = some (.pointer (some ⟨g + 1 + 1, 0, none⟩))) :
    (results Try.f13 t).run Try.prog W = .ok (.tuple #[.agg #[.int .i64 k, .int .i64 i, .int .i64 m, v], .int .i64 q, .int .i64 r]) W := by
  have hu27 := Try.underlying27
  simp [results, Try.results13, go_sem, Array.getD_eq_getD_getElem?, t2, t3, t4, c0, c1, c2, c3, c4, c5]
set_option maxRecDepth 100000 in
set_option maxHeartbeats 4000000 in
theorem get_ok (P0 : Nat → Prop) (A : Option Addr) (c : Nat) (l l' : List Int) (k i m : Int) (b : List Int) (w : World) (hs : Kd.V (Kd.int .u8) 5 w w.heap.size P0 (.slice A l.length c) l) (hl' : l'.length ≤ l.length) (hd9 : l.length ≤ l'.length + 9000)
    (hev : ∀ w4, Rd w w4 (w.heap.size + 1 + 1 + 1) l A l.length c → Calls Try.prog 26 #[.pointer (some ⟨w.heap.size + 1 + 1 + 1, 0, none⟩)] w4 (EvOk w w4 (w.heap.size + 1 + 1 + 1) l' k i m b)) :
    Calls Try.prog 13 #[.slice A l.length c] w fun e w' => Aside0 (∃ v, e = .returned (.tuple #[.agg #[.int .i64 k, .int .i64 i, .int .i64 m, v], .int .i64 ((l.length : Int) - l'.length), .int .i64 0]) ∧ Kd.V (Kd.int .u8) 5 w' 0 (fun j => w.heap.size ≤ j) v b ∧ Below w.heap.size w w') := by
  have hmf : ∀ (fn : Fn) (first cap : Array Value) (w : World), (Instr.makeFunc fn first cap).run Try.prog w = .ok (.func fn first cap) w := fun _ _ _ _ => rfl
  have hu27 := Try.underlying27
  have hu54 := Try.underlying54
  obtain ⟨_, hle, hF⟩ := Kd.V_at (Kd.V_bound hs)
  have HR := Aside0.mk (rd_made w A c l hle (Kd.F_mono hF (fun _ hk => hk.2)))
  have HE := Aside0.mk hev
  clear hs hev hle hF
  go_enter_defers Try.func13, Try.ntmps13
  go_wp2_with fail
  refine (HE.out _ HR.out).mono ?_
  rintro en w5 ⟨v, rfl, hv, hk, A1, n1, c1, hr5⟩
  have HG := Aside0.mk ((Gt.made w _).keep hk)
  obtain ⟨Av, nv, cv, hv0, hv1, hv2⟩ : ∃ Av nv cv, v = .slice Av nv cv ∧ True ∧ True := by obtain ⟨Av, cv, h, _⟩ := hv; exact ⟨Av, _, cv, h, trivial, trivial⟩
  subst hv0
  have HV := Aside0.mk (Kd.V_mono (ok' := fun j => w.heap.size + 1 + 1 + 1 < j) hv (fun j hj => by simp at hj; omega))
  have HR5 := Aside0.mk hr5
  clear hk hv hv1 hv2 hr5
  obtain ⟨e0, e1, e2, e3, k4, k5⟩ := HG.out.c
  obtain ⟨f0, f1, f2, f3, f4, f5⟩ := HG.out.f
  have hlt := HG.out.lt
  have r0 := HR5.out.cell
  have q0 := HR5.out.free
  have hn1 := HR5.out.len
  go_upto_region 4 with (fail)
  obtain ⟨W6, hW6⟩ : ∃ W6, (((w5.setCell ⟨w.heap.size, 0, none⟩ (.int .i64 k)).setCell ⟨w.heap.size, 1, none⟩ (.int .i64 i)).setCell ⟨w.heap.size, 2, none⟩ (.int .i64 m)).setCell ⟨w.heap.size, 3, none⟩ (.slice Av nv cv) = W6 := ⟨_, rfl⟩
  have h30 : ¬ w.heap.size + 1 + 1 + 1 = w.heap.size := by omega
  have h31 : ¬ w.heap.size = w.heap.size + 1 + 1 + 1 := by omega
  have h32 : ¬ w.heap.size + 1 + 1 + 1 = w.heap.size + 1 := by omega
  have h33 : ¬ w.heap.size + 1 + 1 + 1 = w.heap.size + 1 + 1 := by omega
  have E0 : W6.cell? ⟨w.heap.size, 0, none⟩ = some (.int .i64 k) := by rw [← hW6]; simp [go_sem, e0, e1, e2, e3]
  have E1 : W6.cell? ⟨w.heap.size, 1, none⟩ = some (.int .i64 i) := by rw [← hW6]; simp [go_sem, e0, e1, e2, e3]
  have E2 : W6.cell? ⟨w.heap.size, 2, none⟩ = some (.int .i64 m) := by rw [← hW6]; simp [go_sem, e0, e1, e2, e3]
  have E3 : W6.cell? ⟨w.heap.size, 3, none⟩ = some (.slice Av nv cv) := by rw [← hW6]; simp [go_sem, e0, e1, e2, e3]
  have K4 : W6.cell? ⟨w.heap.size + 1, 0, none⟩ = some (.int .i64 0) := by rw [← hW6]; simp [go_sem, k4]
  have K5 : W6.cell? ⟨w.heap.size + 1 + 1, 0, none⟩ = some (.int .i64 0) := by rw [← hW6]; simp [go_sem, k5]
  have R0 : W6.cell? ⟨w.heap.size + 1 + 1 + 1, 0, none⟩ = some (.slice A1 n1 c1) := by rw [← hW6]; simp [go_sem, r0, h30, h31]
  have F0 : W6.frozen? ⟨w.heap.size, 0, none⟩ = false := by rw [← hW6]; simp [go_sem, f0]
  have F1 : W6.frozen? ⟨w.heap.size, 1, none⟩ = false := by rw [← hW6]; simp [go_sem, f1]
  have F2 : W6.frozen? ⟨w.heap.size, 2, none⟩ = false := by rw [← hW6]; simp [go_sem, f2]
  have F3 : W6.frozen? ⟨w.heap.size, 3, none⟩ = false := by rw [← hW6]; simp [go_sem, f3]
  have F4 : W6.frozen? ⟨w.heap.size + 1, 0, none⟩ = false := by rw [← hW6]; simp [go_sem, f4]
  have F5 : W6.frozen? ⟨w.heap.size + 1 + 1, 0, none⟩ = false := by rw [← hW6]; simp [go_sem, f5]
  have HZ6 : w.heap.size + 1 + 1 < W6.heap.size := by rw [← hW6]; simpa using hlt
  have HB6 : Aside0 (Below w.heap.size w W6) := ⟨by rw [← hW6]; exact (((HR5.out.below.setCell (Nat.le_refl _) _).setCell (Nat.le_refl _) _).setCell (Nat.le_refl _) _).setCell (Nat.le_refl _) _⟩
  have HV6 : Aside0 (Kd.V (Kd.int .u8) 5 W6 0 (fun j => w.heap.size + 1 + 1 + 1 < j) (.slice Av nv cv) b) := ⟨by rw [← hW6]; exact Kd.V_far (Kd.V_far (Kd.V_far (Kd.V_far HV.out (fun j hj => by have : w.heap.size + 1 + 1 + 1 < j := hj; show j ≠ w.heap.size; omega) _) (fun j hj => by have : w.heap.size + 1 + 1 + 1 < j := hj; show j ≠ w.heap.size; omega) _) (fun j hj => by have : w.heap.size + 1 + 1 + 1 < j := hj; show j ≠ w.heap.size; omega) _) (fun j hj => by have : w.heap.size + 1 + 1 + 1 < j := hj; show j ≠ w.heap.size; omega) _⟩
  rw [hW6]
  clear hW6 e0 e1 e2 e3 k4 k5 f0 f1 f2 f3 f4 f5 hlt r0 q0 HG HV
  refine start_ (n := 12) (S := fun w' => w'.cell? ⟨w.heap.size, 0, none⟩ = some (.int .i64 k) ∧ w'.cell? ⟨w.heap.size, 1, none⟩ = some (.int .i64 i) ∧ w'.cell? ⟨w.heap.size, 2, none⟩ = some (.int .i64 m) ∧ w'.cell? ⟨w.heap.size, 3, none⟩ = some (.slice Av nv cv) ∧ w'.cell? ⟨w.heap.size + 1 + 1 + 1, 0, none⟩ = some (.slice A1 n1 c1)) (ds := []) #[false, false, false, false, false, false, false, false, false, false, false, false] (by kernel_rfl) rfl rfl ⟨E0, E1, E2, E3, R0⟩ (fun hHeld => ?_)
  refine take_ (i := 0) (N := some 12) (v := ?_) (a' := ?_) #[true, false, false, false, false, false, false, false, false, false, false, false] rfl rfl (by kernel_rfl) (fun c a w h => leaves_same (get_res _ _ _ (by decide)) _ _ _ h) (Or.inl ⟨by rfl, ?_⟩) ⟨E0, E1, E2, E3, R0⟩ ?_ ?_
  rotate_left
  · intro w' hw'
    obtain ⟨s0, s1, s2, s3, s4⟩ := hw'
    go_simp
    with_reducible rfl
  rotate_left
  · simp only [Act.put, List.setIfInBounds_toArray, List.set_cons_zero, List.set_cons_succ, i64_w, i32_w]
    rfl
  refine pure_ (i := 1) (N := some 13) (v := ?_) (a' := ?_) #[true, true, false, false, false, false, false, false, false, false, false, false] rfl rfl (by kernel_rfl) (fun c a w h => leaves_same (get_res _ _ _ (by decide)) _ _ _ h) (Or.inl ⟨by rfl, ?_⟩) ?_ ?_
  rotate_left
  · intro w'
    go_simp
    with_reducible rfl
  rotate_left
  · simp only [Act.put, List.setIfInBounds_toArray, List.set_cons_zero, List.set_cons_succ, i64_w, i32_w]
    rfl
  refine pure_ (i := 2) (N := some 14) (v := ?_) (a' := ?_) #[true, true, true, false, false, false, false, false, false, false, false, false] rfl rfl (by kernel_rfl) (fun c a w h => leaves_same (get_res _ _ _ (by decide)) _ _ _ h) (Or.inl ⟨by rfl, ?_⟩) ?_ ?_
  rotate_left
  · intro w'
    go_simp
    with_reducible rfl
  rotate_left
  · simp only [Act.put, List.setIfInBounds_toArray, List.set_cons_zero, List.set_cons_succ, i64_w, i32_w]
    rfl
  refine pure_ (i := 3) (N := some 15) (v := ?_) (a' := ?_) #[true, true, true, true, false, false, false, false, false, false, false, false] rfl rfl (by kernel_rfl) (fun c a w h => leaves_same (get_res _ _ _ (by decide)) _ _ _ h) (Or.inl ⟨by rfl, ?_⟩) ?_ ?_
  rotate_left
  · intro w'
    go_simp
    with_reducible rfl
  rotate_left
  · simp only [Act.put, List.setIfInBounds_toArray, List.set_cons_zero, List.set_cons_succ, i64_w, i32_w]
    rfl
  refine pure_ (i := 4) (N := some 16) (v := ?_) (a' := ?_) #[true, true, true, true, true, false, false, false, false, false, false, false] rfl rfl (by kernel_rfl) (fun c a w h => leaves_same (get_res _ _ _ (by decide)) _ _ _ h) (Or.inl ⟨by rfl, ?_⟩) ?_ ?_
  rotate_left
  · intro w'
    go_simp
    with_reducible rfl
  rotate_left
  · simp only [Act.put, List.setIfInBounds_toArray, List.set_cons_zero, List.set_cons_succ, i64_w, i32_w]
    rfl
  refine pure_ (i := 5) (N := some 17) (v := ?_) (a' := ?_) #[true, true, true, true, true, true, false, false, false, false, false, false] rfl rfl (by kernel_rfl) (fun c a w h => leaves_same (get_res _ _ _ (by decide)) _ _ _ h) (Or.inl ⟨by rfl, ?_⟩) ?_ ?_
  rotate_left
  · intro w'
    go_simp
    with_reducible rfl
  rotate_left
  · simp only [Act.put, List.setIfInBounds_toArray, List.set_cons_zero, List.set_cons_succ, i64_w, i32_w]
    rfl
  refine take_ (i := 6) (N := some 18) (v := ?_) (a' := ?_) #[true, true, true, true, true, true, true, false, false, false, false, false] rfl rfl (by kernel_rfl) (fun c a w h => leaves_same (get_res _ _ _ (by decide)) _ _ _ h) (Or.inl ⟨by rfl, ?_⟩) ⟨E0, E1, E2, E3, R0⟩ ?_ ?_
  rotate_left
  · intro w' hw'
    obtain ⟨s0, s1, s2, s3, s4⟩ := hw'
    go_simp
    with_reducible rfl
  rotate_left
  · simp only [Act.put, List.setIfInBounds_toArray, List.set_cons_zero, List.set_cons_succ, i64_w, i32_w]
    rfl
  refine pure_ (i := 7) (N := some 19) (v := ?_) (a' := ?_) #[true, true, true, true, true, true, true, true, false, false, false, false] rfl rfl (by kernel_rfl) (fun c a w h => leaves_same (get_res _ _ _ (by decide)) _ _ _ h) (Or.inl ⟨by rfl, ?_⟩) ?_ ?_
  rotate_left
  · intro w'
    go_simp
    with_reducible rfl
  rotate_left
  · simp only [Act.put, List.setIfInBounds_toArray, List.set_cons_zero, List.set_cons_succ, i64_w, i32_w]
    rfl
  refine pure_ (i := 8) (N := some 20) (v := ?_) (a' := ?_) #[true, true, true, true, true, true, true, true, true, false, false, false] rfl rfl (by kernel_rfl) (fun c a w h => leaves_same (get_res _ _ _ (by decide)) _ _ _ h) (Or.inl ⟨by rfl, ?_⟩) ?_ ?_
  rotate_left
  · intro w'
    go_simp
    with_reducible rfl
  rotate_left
  · simp only [Act.put, List.setIfInBounds_toArray, List.set_cons_zero, List.set_cons_succ, i64_w, i32_w]
    rfl
  refine one_ (i := 9) (N := none) #[true, true, true, true, true, true, true, true, true, true, false, false] rfl rfl (by kernel_rfl) (by decide) (fun K hK => ?_)
  refine skip_ (w1 := ?_) (by rfl) rfl ?_ ?_
  rotate_left 1
  · go_simp
    rfl
  refine hK.out _ _ ⟨by simp [go_sem, E0, E1, E2, E3, R0, h30, h31, h32, h33], by simp [go_sem, E0, E1, E2, E3, R0, h30, h31, h32, h33], by simp [go_sem, E0, E1, E2, E3, R0, h30, h31, h32, h33], by simp [go_sem, E0, E1, E2, E3, R0, h30, h31, h32, h33], by simp [go_sem, E0, E1, E2, E3, R0, h30, h31, h32, h33]⟩ (fun hHeld => ?_)
  clear hK K
  refine one_ (i := 10) (N := none) #[true, true, true, true, true, true, true, true, true, true, true, false] rfl rfl (by kernel_rfl) (by decide) (fun K hK => ?_)
  refine skip_ (w1 := ?_) (by rfl) rfl ?_ ?_
  rotate_left 1
  · go_simp
    rfl
  refine hK.out _ _ ⟨by simp [go_sem, E0, E1, E2, E3, R0, h30, h31, h32, h33], by simp [go_sem, E0, E1, E2, E3, R0, h30, h31, h32, h33], by simp [go_sem, E0, E1, E2, E3, R0, h30, h31, h32, h33], by simp [go_sem, E0, E1, E2, E3, R0, h30, h31, h32, h33], by simp [go_sem, E0, E1, E2, E3, R0, h30, h31, h32, h33]⟩ (fun hHeld => ?_)
  clear hK K
  refine one_ (i := 11) (N := none) #[true, true, true, true, true, true, true, true, true, true, true, true] rfl rfl (by kernel_rfl) (by decide) (fun K hK => ?_)
  refine skip_ (w1 := ?_) (by rfl) rfl ?_ ?_
  rotate_left 1
  · go_simp
    rfl
  refine hK.out _ _ ⟨by simp [go_sem, E0, E1, E2, E3, R0, h30, h31, h32, h33], by simp [go_sem, E0, E1, E2, E3, R0, h30, h31, h32, h33], by simp [go_sem, E0, E1, E2, E3, R0, h30, h31, h32, h33], by simp [go_sem, E0, E1, E2, E3, R0, h30, h31, h32, h33], by simp [go_sem, E0, E1, E2, E3, R0, h30, h31, h32, h33]⟩ (fun hHeld => ?_)
  clear hK K
  refine done_ (by kernel_rfl) ?_
  go_wp2_with fail
  refine leaves_cons (f := 25) (args := #[.pointer (some ⟨w.heap.size, 0, none⟩), .pointer (some ⟨w.heap.size + 1, 0, none⟩), .pointer (some ⟨w.heap.size + 1 + 1, 0, none⟩)]) (by simp) (by simp [go_sem]) ?_
  refine (catch_idle _ _ _ _).mono ?_
  rintro e u' w7 ⟨rfl, rfl, rfl⟩
  have hwr : wrap64 ((l.length : Int) - (n1 : Int)) = (l.length : Int) - (l'.length : Int) := by unfold wrap64; omega
  rw [hwr]
  refine ⟨_, results_get (g := w.heap.size) k i m (.slice Av nv cv) ((l.length : Int) - (l'.length : Int)) 0 (by simp [go_sem, E0, E1, E2, E3, K4, K5]) (by simp [go_sem, E0, E1, E2, E3, K4, K5]) (by simp [go_sem, E0, E1, E2, E3, K4, K5]) (by simp [go_sem, E0, E1, E2, E3, K4, K5]) (by simp [go_sem, E0, E1, E2, E3, K4, K5]) (by simp [go_sem, E0, E1, E2, E3, K4, K5]) rfl rfl rfl, _, rfl, ?_, ?_⟩
  · exact Kd.V_mono (Kd.V_drew (Kd.V_far (Kd.V_far (Kd.V_far (Kd.V_far (Kd.V_far (Kd.V_far HV6.out (fun j hj => by have : w.heap.size + 1 + 1 + 1 < j := hj; show j ≠ w.heap.size; omega) _) (fun j hj => by have : w.heap.size + 1 + 1 + 1 < j := hj; show j ≠ w.heap.size; omega) _) (fun j hj => by have : w.heap.size + 1 + 1 + 1 < j := hj; show j ≠ w.heap.size; omega) _) (fun j hj => by have : w.heap.size + 1 + 1 + 1 < j := hj; show j ≠ w.heap.size; omega) _) (fun j hj => by have : w.heap.size + 1 + 1 + 1 < j := hj; show j ≠ w.heap.size + 1; omega) _) (fun j hj => by have : w.heap.size + 1 + 1 + 1 < j := hj; show j ≠ w.heap.size + 1 + 1; omega) _)) (fun j hj => by have : w.heap.size + 1 + 1 + 1 < j := hj; show w.heap.size ≤ j; omega)
  · exact below_drew ((((((HB6.out.setCell (Nat.le_refl _) _).setCell (Nat.le_refl _) _).setCell (Nat.le_refl _) _).setCell (Nat.le_refl _) _).setCell (by show w.heap.size ≤ w.heap.size + 1; omega) _).setCell (by show w.heap.size ≤ w.heap.size + 1 + 1; omega) _)
theorem take_l0 (l : List Int) (v j : Int) : ∀ (k : Nat) (x : Int) (m i : Nat), i ≤ m → m ≤ 4 → m ≤ l.length → varint_Take.l0 k l x (l.take m) m i = some (v, j, 0) →
    ∃ jn : Nat, j = jn ∧ jn ≤ m ∧ -9223372036854775808 ≤ v := by
  intro k
  induction k with
  | zero => intro x m i _ _ _ h; simp [varint_Take.l0] at h
  | succ k ih =>
    intro x m i hi hm4 hml h
    by_cases c6 : i < m
    · rw [varint_Take.step k l x m i c6 hm4 hml] at h
      by_cases a1 : 128 ≤ rdOf 0 (l.take m) (i : Int)
      · rw [if_pos a1] at h
        exact ih _ m (i + 1) (by omega) hm4 hml h
      · rw [if_neg a1] at h
        by_cases a2 : rdOf 0 (l.take m) (i : Int) = 0
        · rw [if_pos a2] at h
          by_cases a3 : (i : Int) > 0
          · rw [if_pos a3] at h; simp at h
          · rw [if_neg a3] at h
            simp only [Option.some.injEq, Prod.mk.injEq] at h
            exact ⟨i + 1, h.2.1.symm, c6, by rw [← h.1]; exact bits_lo_i64 _ _ _⟩
        · rw [if_neg a2] at h
          simp only [Option.some.injEq, Prod.mk.injEq] at h
          exact ⟨i + 1, h.2.1.symm, c6, by rw [← h.1]; exact bits_lo_i64 _ _ _⟩
    · simp only [varint_Take.l0] at h
      rw [if_neg (by omega)] at h
      by_cases a1 : (l.length : Int) ≥ 4
      · rw [if_pos a1] at h; simp at h
      · rw [if_neg a1] at h; simp at h
theorem take_ok {k : Nat} {l : List Int} {v j : Int} (h : varint_Take.f k l = some (v, j, 0)) : ∃ jn : Nat, j = jn ∧ jn ≤ 4 ∧ jn ≤ l.length ∧ -9223372036854775808 ≤ v := by
  obtain ⟨m, hm, hml, hm4⟩ : ∃ m : Nat, mn (l.length : Int) 4 = (m : Int) ∧ m ≤ l.length ∧ m ≤ 4 := ⟨min l.length 4, by unfold mn; split <;> omega, by omega, by omega⟩
  have hl : (l.take m).length = m := by rw [List.length_take]; omega
  unfold varint_Take.f at h
  rw [hm, if_pos (by omega), if_pos (by omega), Int.toNat_natCast, hl] at h
  obtain ⟨jn, h1, h2, h3⟩ := take_l0 l v j k 0 m 0 (Nat.zero_le _) hm4 hml h
  exact ⟨jn, h1, by omega, by omega, h3⟩
theorem wrap_2j (jn : Nat) (h : jn ≤ 4) : wrap64 (2 + (jn : Int)) = 2 + jn := by unfold wrap64; omega
theorem wrap_2jv (jn : Nat) (h : jn ≤ 4) (v : Int) (h0 : -9223372036854775808 ≤ v) (h4 : v ≤ 4096) : wrap64 (2 + (jn : Int) + v) = 2 + jn + v := by unfold wrap64; omega
/-- What Get answers: bytes that are no event, or one. -/
def GetIs (P0 : Nat → Prop) (A : Option Addr) (c n : Nat) (w : World) (r1 r2 r3 : Int) (r4 : List Int) (r5 r6 : Int) : Prop :=
  Calls Try.prog 13 #[.slice A n c] w fun e w' => ∃ v : Value, e = .returned (.tuple #[.agg #[.int .i64 r1, .int .i64 r2, .int .i64 r3, v], .int .i64 r5, .int .i64 r6]) ∧ Kd.V (Kd.int .u8) 5 w' w.heap.size (fun k_ => (P0 k_ ∨ w.heap.size ≤ k_)) v r4 ∧ Below w.heap.size w w'
theorem GetIs.no {P0 : Nat → Prop} {A : Option Addr} {c : Nat} {l : List Int} {z : Int} {w : World} (hs : Kd.V (Kd.int .u8) 5 w w.heap.size P0 (.slice A l.length c) l)
    (hev : ∀ w4, Rd w w4 (w.heap.size + 1 + 1 + 1) l A l.length c → Calls Try.prog 26 #[.pointer (some ⟨w.heap.size + 1 + 1 + 1, 0, none⟩)] w4 (EvNo w w4 (w.heap.size + 1 + 1 + 1) z)) : GetIs P0 A c l.length w 0 0 0 [] 0 z :=
  (get_no P0 A c l z w hs hev).mono fun e w' h => ⟨_, h.out.1, Kd.V_nil _ _ _ _ _, h.out.2⟩
theorem GetIs.ok {P0 : Nat → Prop} {A : Option Addr} {c : Nat} {l l' : List Int} {k i m q : Int} {b : List Int} {w : World} (hs : Kd.V (Kd.int .u8) 5 w w.heap.size P0 (.slice A l.length c) l) (hl' : l'.length ≤ l.length) (hl9 : l.length ≤ l'.length + 9000) (hq : q = (l.length : Int) - l'.length)
    (hev : ∀ w4, Rd w w4 (w.heap.size + 1 + 1 + 1) l A l.length c → Calls Try.prog 26 #[.pointer (some ⟨w.heap.size + 1 + 1 + 1, 0, none⟩)] w4 (EvOk w w4 (w.heap.size + 1 + 1 + 1) l' k i m b)) : GetIs P0 A c l.length w k i m b q 0 := by
  subst hq
  exact (get_ok P0 A c l l' k i m b w hs hl' hl9 hev).mono fun e w' ⟨⟨v, h1, h2, h3⟩⟩ => ⟨v, h1, Kd.V_mono h2 (fun _ hk => .inr hk), h3⟩
theorem GetIs.of {P0 : Nat → Prop} {A : Option Addr} {c n : Nat} {w : World} {a1 a2 a3 : Int} {a4 : List Int} {a5 a6 : Int} {r1 r2 r3 : Int} {r4 : List Int} {r5 r6 : Int} (hg : GetIs P0 A c n w a1 a2 a3 a4 a5 a6) (h : some (a1, a2, a3, a4, a5, a6) = some (r1, r2, r3, r4, r5, r6)) : GetIs P0 A c n w r1 r2 r3 r4 r5 r6 := by
  simp only [Option.some.injEq, Prod.mk.injEq] at h
  obtain ⟨rfl, rfl, rfl, rfl, rfl, rfl⟩ := h
  exact hg
set_option maxHeartbeats 400000 in
theorem script_Get.calls (k : Nat) (P0_ : Nat → Prop) (A0 : Option Addr) (c0 : Nat) (l0 : List Int) (r1 : Int) (r2 : Int) (r3 : Int) (r4 : List Int) (r5 : Int) (r6 : Int) (w : World) (hs0 : Kd.V (Kd.int .u8) 5 w w.heap.size (fun k_ => P0_ k_) (.slice A0 l0.length c0) l0) (h : script_Get.f k l0 = some (r1, r2, r3, r4, r5, r6)) :
    Calls Try.prog 13 #[.slice A0 l0.length c0] w fun e w' => ∃ v3_ : Value, e = .returned (.tuple #[.agg #[.int .i64 r1, .int .i64 r2, .int .i64 r3, v3_], .int .i64 r5, .int .i64 r6]) ∧ Kd.V (Kd.int .u8) 5 w' w.heap.size (fun k_ => (P0_ k_ ∨ w.heap.size ≤ k_)) v3_ r4 ∧ Below w.heap.size w w' := by
  change GetIs P0_ A0 c0 l0.length w r1 r2 r3 r4 r5 r6
  unfold script_Get.f at h
  cases l0 with
  | nil =>
    rw [if_pos (by simp)] at h
    exact (GetIs.no hs0 fun w4 hr => event_none _ w w4 A0 c0 hr).of h
  | cons xr t0 =>
    have e0 : rd (xr :: t0) 0 = xr := rfl
    rw [e0, if_neg (by simp only [List.length_cons]; omega), if_pos (by simp only [List.length_cons]; omega)] at h
    obtain ⟨x, hx⟩ : ∃ x, wrap64 xr = x := ⟨_, rfl⟩
    rw [hx] at h
    have HX := Aside0.mk hx
    clear hx e0
    by_cases b7 : x > 7
    · rw [if_pos b7] at h
      exact (GetIs.no hs0 fun w4 hr => event_big _ xr x t0 w w4 A0 _ c0 hr HX.out b7).of h
    rw [if_neg b7] at h
    by_cases b6 : x < 6
    · rw [if_pos b6] at h
      cases t0 with
      | nil =>
        rw [if_pos (by simp)] at h
        exact (GetIs.no hs0 fun w4 hr => event_none2 _ xr x w w4 A0 _ c0 hr HX.out b6).of h
      | cons yr t =>
        have e1 : rd (xr :: yr :: t) 1 = yr := rfl
        have hlen : ((xr :: yr :: t).length : Int) = (t.length : Int) + 2 := by simp; omega
        rw [e1, hlen, if_neg (by omega), if_pos (by omega)] at h
        obtain ⟨y, hy⟩ : ∃ y, wrap64 yr = y := ⟨_, rfl⟩
        rw [hy] at h
        have HY := Aside0.mk hy
        clear hy e1
        by_cases b63 : y > 63
        · rw [if_pos b63] at h
          exact (GetIs.no hs0 fun w4 hr => event_big2 _ xr x yr y t w w4 A0 _ c0 hr HX.out b6 HY.out b63).of h
        rw [if_neg b63] at h
        have g1 : y ≤ 63 := Int.not_lt.mp b63
        have ed : (xr :: yr :: t).drop 2 = t := rfl
        rw [ed] at h
        by_cases k1 : x = 1
        · subst k1
          rw [if_pos rfl, if_pos (by omega)] at h
          rcases hT : varint_Take.f k t with _ | ⟨v, j, er⟩
          · rw [hT] at h; simp at h
          rw [hT, Option.bind_some] at h
          dsimp only at h
          by_cases x0 : er = 0
          · rw [if_pos x0] at h
            subst x0
            obtain ⟨jn, rfl, j4, jl, v0⟩ := take_ok hT
            by_cases v4 : v > 4096
            · rw [if_pos v4] at h
              exact (GetIs.no hs0 fun w4 hr => event_arrive_bad _ xr yr y t k v jn 0 3 w w4 A0 _ c0 hr HX.out HY.out g1 hT (.inr ⟨rfl, v4, rfl⟩)).of h
            rw [if_neg v4] at h
            have w1 := wrap_2j jn j4
            have w2 := wrap_2jv jn j4 v v0 (Int.not_lt.mp v4)
            rw [w1, w2] at h
            clear w1 w2
            by_cases s1 : 2 + (jn : Int) + v > (t.length : Int) + 2
            · rw [if_pos s1] at h
              obtain ⟨m, rfl⟩ := Int.eq_ofNat_of_zero_le (show 0 ≤ v by omega)
              exact (GetIs.no hs0 fun w4 hr => event_arrive_short _ xr yr y t k m jn w w4 A0 _ c0 hr HX.out HY.out g1 hT (by omega) jl (by omega)).of h
            rw [if_neg s1, if_pos (by omega)] at h
            by_cases s2 : 2 + (jn : Int) ≤ 2 + (jn : Int) + v
            · rw [if_pos s2, if_pos (by omega)] at h
              obtain ⟨m, rfl⟩ := Int.eq_ofNat_of_zero_le (show 0 ≤ v by omega)
              have ec : ((xr :: yr :: t).take (2 + (jn : Int) + (m : Int)).toNat).drop (2 + (jn : Int)).toNat = (t.drop jn).take m := by
                rw [show (2 + (jn : Int) + (m : Int)).toNat = (jn + m) + 2 from by omega, show (2 + (jn : Int)).toNat = jn + 2 from by omega]
                show (t.take (jn + m)).drop jn = (t.drop jn).take m
                rw [List.drop_take, Nat.add_sub_cancel_left]
              rw [ec] at h
              refine (GetIs.ok hs0 (l' := (t.drop jn).drop m) ?_ ?_ ?_ fun w4 hr => event_arrive _ xr yr y t k m jn w w4 A0 _ c0 hr HX.out HY.out g1 hT (by omega) jl (by omega)).of h
              · simp only [List.length_drop, List.length_cons]; omega
              · simp only [List.length_drop, List.length_cons]; omega
              · simp only [List.length_drop, List.length_cons]; omega
            · rw [if_neg s2] at h; simp at h
          · rw [if_neg x0] at h
            exact (GetIs.no hs0 fun w4 hr => event_arrive_bad _ xr yr y t k v j er er w w4 A0 _ c0 hr HX.out HY.out g1 hT (.inl ⟨x0, rfl⟩)).of h
        rw [if_neg k1] at h
        by_cases k3 : x = 3
        · subst k3
          rw [if_pos rfl, if_pos (by omega)] at h
          rcases hT : varint_Take.f k t with _ | ⟨v, j, er⟩
          · rw [hT] at h; simp at h
          rw [hT, Option.bind_some] at h
          dsimp only at h
          by_cases x0 : er = 0
          · rw [if_pos x0] at h
            subst x0
            obtain ⟨jn, rfl, j4, jl, v0⟩ := take_ok hT
            by_cases v4 : v > 4096
            · rw [if_pos v4] at h
              exact (GetIs.no hs0 fun w4 hr => event_grant_bad _ xr yr y t k v jn 0 3 w w4 A0 _ c0 hr HX.out HY.out g1 hT (.inr ⟨rfl, v4, rfl⟩)).of h
            rw [if_neg v4] at h
            have w1 := wrap_2j jn j4
            rw [w1] at h
            clear w1
            refine (GetIs.ok hs0 (l' := t.drop jn) ?_ ?_ ?_ fun w4 hr => event_grant _ xr yr y t k v jn w w4 A0 _ c0 hr HX.out HY.out g1 hT (by omega) jl).of h
            · simp only [List.length_drop, List.length_cons]; omega
            · simp only [List.length_drop, List.length_cons]; omega
            · simp only [List.length_drop, List.length_cons]; omega
          · rw [if_neg x0] at h
            exact (GetIs.no hs0 fun w4 hr => event_grant_bad _ xr yr y t k v j er er w w4 A0 _ c0 hr HX.out HY.out g1 hT (.inl ⟨x0, rfl⟩)).of h
        rw [if_neg k3] at h
        by_cases k5 : x = 5
        · subst k5
          rw [if_pos rfl] at h
          cases t with
          | nil =>
            rw [if_pos (by simp)] at h
            exact (GetIs.no hs0 fun w4 hr => event_5none _ xr yr y w w4 A0 _ c0 hr HX.out HY.out g1).of h
          | cons zr t =>
            have e2 : rd (xr :: yr :: zr :: t) 2 = zr := rfl
            rw [e2, if_neg (by simp only [List.length_cons]; omega), if_pos (by simp only [List.length_cons]; omega)] at h
            obtain ⟨z, hz⟩ : ∃ z, wrap64 zr = z := ⟨_, rfl⟩
            rw [hz] at h
            have HZ := Aside0.mk hz
            clear hz e2
            by_cases q6 : z > 6
            · rw [if_pos q6] at h
              exact (GetIs.no hs0 fun w4 hr => event_5big _ xr yr y zr z t w w4 A0 _ c0 hr HX.out HY.out g1 HZ.out q6).of h
            rw [if_neg q6] at h
            refine (GetIs.ok hs0 (l' := t) ?_ ?_ ?_ fun w4 hr => event_5ok _ xr yr y zr z t w w4 A0 _ c0 hr HX.out HY.out g1 HZ.out (Int.not_lt.mp q6)).of h
            · simp only [List.length_drop, List.length_cons]; omega
            · simp only [List.length_drop, List.length_cons]; omega
            · simp only [List.length_drop, List.length_cons]; omega
        rw [if_neg k5] at h
        refine (GetIs.ok hs0 (l' := t) ?_ ?_ ?_ fun w4 hr => event_plain _ xr x yr y t w w4 A0 _ c0 hr HX.out HY.out g1 b6 k1 k3 k5).of h
        · simp only [List.length_drop, List.length_cons]; omega
        · simp only [List.length_drop, List.length_cons]; omega
        · simp only [List.length_drop, List.length_cons]; omega
    rw [if_neg b6] at h
    by_cases k7 : x = 7
    · subst k7
      rw [if_pos rfl] at h
      cases t0 with
      | nil =>
        rw [if_pos (by simp)] at h
        exact (GetIs.no hs0 fun w4 hr => event_7none _ xr w w4 A0 _ c0 hr HX.out).of h
      | cons zr t =>
        have e2 : rd (xr :: zr :: t) 1 = zr := rfl
        rw [e2, if_neg (by simp only [List.length_cons]; omega), if_pos (by simp only [List.length_cons]; omega)] at h
        obtain ⟨z, hz⟩ : ∃ z, wrap64 zr = z := ⟨_, rfl⟩
        rw [hz] at h
        have HZ := Aside0.mk hz
        clear hz e2
        by_cases q7 : z > 7
        · rw [if_pos q7] at h
          exact (GetIs.no hs0 fun w4 hr => event_7big _ xr zr z t w w4 A0 _ c0 hr HX.out HZ.out q7).of h
        rw [if_neg q7] at h
        refine (GetIs.ok hs0 (l' := t) ?_ ?_ ?_ fun w4 hr => event_7ok _ xr zr z t w w4 A0 _ c0 hr HX.out HZ.out (Int.not_lt.mp q7)).of h
        · simp only [List.length_drop, List.length_cons]; omega
        · simp only [List.length_drop, List.length_cons]; omega
        · simp only [List.length_drop, List.length_cons]; omega
    rw [if_neg k7] at h
    refine (GetIs.ok hs0 (l' := t0) ?_ ?_ ?_ fun w4 hr => event_plain6 _ xr t0 w w4 A0 _ c0 hr (by rw [HX.out]; omega)).of h
    · simp only [List.length_drop, List.length_cons]; omega
    · simp only [List.length_drop, List.length_cons]; omega
    · simp only [List.length_drop, List.length_cons]; omega

end Go.Proofs.Ytdnglfodlhhikaa.Q
