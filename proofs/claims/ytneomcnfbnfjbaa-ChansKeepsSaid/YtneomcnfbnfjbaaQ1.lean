-- Laid by mix.py, a program of this session, with the kit's print.py; walks by hand come out of wip/over.
import Derived.Test.YtneomcnfbnfjbaaQ0
namespace Go.Proofs.Ytneomcnfbnfjbaa.Q
open Go.RowKit Go.Proofs.YtneomcnfbnfjbaaW.PrintWords Go.Proofs.YtneomcnfbnfjbaaW.PrintLast Go.Proofs.YtneomcnfbnfjbaaW.PrintMore
attribute [local go_sem] max2_int min2_int max_two min_two max_three min_three max_four min_four   -- for this text's walks alone
set_option linter.unusedVariables false
set_option linter.unusedSimpArgs false

/-! ### chans_Sane: function 11 -/
def chans_Sane.l0 : Nat → Int → List (List Int) → Bool → Option (Bool)
  | 0, _, _, _ => none
  | k + 1, x3, x102000, x102001 => if x3 < (x102000.length : Int) then (if 0 ≤ x3 then (if ((rd_L1 x102000 x3).length : Int) < 1 then (some false) else (if ((rd_L1 x102000 x3).length : Int) > 8 then (some false) else (chans_Sane.l0 k (wrap64 (x3 + 1)) x102000 x102001))) else (none)) else (some (decide ((x102000.length : Int) ≤ 2)))
def chans_Sane.f (k : Nat) (l0_0 : List (List Int)) (a0_1 : Bool) : Option (Bool) := chans_Sane.l0 k 0 l0_0 a0_1
theorem chans_Sane.mono_l : ∀ k, (∀ y0 y1 y2, LeO (chans_Sane.l0 k y0 y1 y2) (chans_Sane.l0 (k + 1) y0 y1 y2))
  | 0 => fun _ _ _ r h => by simp [chans_Sane.l0] at h
  | k + 1 => by
    have ih0 := chans_Sane.mono_l k
    · intro y0 y1 y2
      unfold chans_Sane.l0
      repeat' first
      | (with_reducible exact ih0 _ _ _)
      | (with_reducible exact LeO.refl _)
      | (with_reducible exact LeO.none _)
      | (with_reducible refine LeO.ite ?_ ?_)
      | (with_reducible refine LeO.bind ?_ (fun _ => ?_))
      | exact ih0 _ _ _
      | exact LeO.none _
      | refine LeO.ite ?_ ?_
      | refine LeO.bind ?_ (fun _ => ?_)
theorem chans_Sane.mono : ∀ a0 a1 k, LeO (chans_Sane.f k a0 a1) (chans_Sane.f (k + 1) a0 a1) := by
  intro a0 a1 k
  have ih0 := chans_Sane.mono_l k
  unfold chans_Sane.f
  repeat' first
      | (with_reducible exact ih0 _ _ _)
      | (with_reducible exact LeO.refl _)
      | (with_reducible exact LeO.none _)
      | (with_reducible refine LeO.ite ?_ ?_)
      | (with_reducible refine LeO.bind ?_ (fun _ => ?_))
      | exact ih0 _ _ _
      | exact LeO.none _
      | refine LeO.ite ?_ ?_
      | refine LeO.bind ?_ (fun _ => ?_)
theorem ret_bool {a b : Bool} (h : a = b) : Ending.returned (.bool a) = Ending.returned (.bool b) := by rw [h]
/-- May a block be? -/
def fitsB (l : List Int) : Bool := decide (1 ≤ l.length) && decide (l.length ≤ 8)
theorem fitsB_iff (l : List Int) : fitsB l = true ↔ 1 ≤ l.length ∧ l.length ≤ 8 := by simp [fitsB]
/-- May a channel be? -/
def saneB (l : List (List Int)) : Bool := decide (l.length ≤ 2) && l.all fitsB
/-- The place of the first block that may not be, from k on; -1: there is none. -/
def badAt : Nat → List (List Int) → Int
  | _, [] => -1
  | k, x :: t => if fitsB x = true then badAt (k + 1) t else (k : Int)
theorem badAt_all : ∀ (l : List (List Int)) (k : Nat), (badAt k l < 0) ↔ l.all fitsB = true
  | [], k => by simp [badAt]
  | x :: t, k => by
    simp only [badAt, List.all_cons]
    by_cases c : fitsB x = true
    · rw [if_pos c, badAt_all t (k + 1), c]; simp
    · rw [if_neg c]
      have : fitsB x = false := by simpa using c
      rw [this]; simp
theorem rd_L1_getD (l : List (List Int)) (k : Nat) : rd_L1 l (k : Int) = l.getD k [] := by unfold rd_L1; rw [Int.toNat_natCast]
theorem chans_Sane.loop (l : List (List Int)) (b : Bool) (hl : l.length ≤ 9223372036854775807) : ∀ (d i k : Nat), i + d = l.length → d < k → chans_Sane.l0 k i l b = some (decide (l.length ≤ 2) && (l.drop i).all fitsB) := by
  intro d
  induction d with
  | zero =>
    intro i k hi hk
    obtain ⟨k, rfl⟩ : ∃ j, k = j + 1 := ⟨k - 1, by omega⟩
    rw [chans_Sane.l0, if_neg (by omega), List.drop_eq_nil_of_le (by omega)]
    simp
    omega
  | succ d ih =>
    intro i k hi hk
    obtain ⟨k, rfl⟩ : ∃ j, k = j + 1 := ⟨k - 1, by omega⟩
    have h : i < l.length := by omega
    have e3 : wrap64 ((i : Int) + 1) = ((i + 1 : Nat) : Int) := by unfold wrap64; omega
    rw [chans_Sane.l0, if_pos (by omega), if_pos (by omega), rd_L1_getD, e3, List.getD_eq_getElem?_getD, List.getElem?_eq_getElem h, Option.getD_some, List.drop_eq_getElem_cons h, List.all_cons, ih (i + 1) k (by omega) (by omega)]
    by_cases c : fitsB l[i] = true
    · have := (fitsB_iff _).1 c
      rw [if_neg (by omega), if_neg (by omega), c]; simp
    · have c' : fitsB l[i] = false := by simpa using c
      have := mt (fitsB_iff l[i]).2 c
      rw [c']
      by_cases q : (l[i].length : Int) < 1
      · rw [if_pos q]; simp
      · rw [if_neg q, if_pos (by omega)]; simp
theorem chans_Sane.is (l : List (List Int)) (b : Bool) (hl : l.length ≤ 9223372036854775807) (k : Nat) (hk : l.length < k) : chans_Sane.f k l b = some (saneB l) := by
  unfold chans_Sane.f
  exact chans_Sane.loop l b hl l.length 0 k (by omega) hk
theorem chans_Sane.told {l : List (List Int)} {b : Bool} (hl : l.length ≤ 9223372036854775807) {k : Nat} {r : Bool} (h : chans_Sane.f k l b = some r) : r = saneB l := by
  have h1 : chans_Sane.f (k + (l.length + 1)) l b = some r := at_rounds (g := fun k => chans_Sane.f k l b) (chans_Sane.mono l b) (Nat.le_add_right _ _) h
  rw [chans_Sane.is l b hl _ (by omega)] at h1
  exact (Option.some.inj h1).symm
theorem fits_on (A : Option Addr) (c : Nat) (l : List Int) (w : World) (hc : l.length ≤ c) :
    Calls Try.prog 29 #[.slice A l.length c] w fun e w' => e = .returned (.bool (fitsB l)) ∧ w = w' := by
  by_cases h1 : 1 ≤ l.length
  · by_cases h2 : l.length ≤ 8
    · have e : fitsB l = true := (fitsB_iff l).2 ⟨h1, h2⟩
      rw [e]
      clear e
      go_enter Try.func29, Try.ntmps29
      go_wp2
      go_ret
      exact ⟨ret_bool (decide_eq_true (by omega)), rfl⟩
    · have e : fitsB l = false := Bool.eq_false_iff.mpr fun h => h2 ((fitsB_iff l).1 h).2
      rw [e]
      clear e
      go_enter Try.func29, Try.ntmps29
      go_wp2
      go_ret
      exact ⟨ret_bool (decide_eq_false (by omega)), rfl⟩
  · have e : fitsB l = false := Bool.eq_false_iff.mpr fun h => h1 ((fitsB_iff l).1 h).1
    rw [e]
    clear e
    go_enter Try.func29, Try.ntmps29
    go_wp2
    go_ret
    exact ⟨rfl, rfl⟩
theorem clos_on (A : Option Addr) (c : Nat) (l : List Int) (w : World) (hr : Kd.C (Kd.int .i64) w A l.length l) (hc : l.length ≤ c) :
    Calls Try.prog 28 #[.slice A l.length c] w fun e w' => e = .returned (.bool (!fitsB l)) ∧ w = w' := by
  have HR := Aside0.mk hr
  clear hr
  go_enter Try.func28, Try.ntmps28
  go_wp2_with (go_at_call 29; refine (fits_on _ _ _ _ hc).mono ?_; rintro e w' ⟨rfl, rfl⟩)
  go_ret
  exact ⟨rfl, rfl⟩
set_option maxHeartbeats 1000000 in
theorem index_on (A : Option Addr) (c : Nat) (l : List (List Int)) (w : World) (hr : Kd.C (Kd.slice 3 (Kd.int .i64)) w A l.length l) (hc : l.length ≤ c) :
    Calls Try.prog 34 #[.slice A l.length c, .func (.func 28) #[] #[]] w fun e w' => e = .returned (.int .i64 (badAt 0 l)) ∧ w = w' := by
  have hl : l.length ≤ 9223372036854775807 := hr.2.1
  have HR := Aside0.mk hr
  clear hr
  go_enter Try.func34, Try.ntmps34
  go_wp2
  go_loopg [8] l.length (fun kq v8 w' => ∃ i : Nat, v8 = .int .i64 i ∧ Aside0 (i + kq = l.length) ∧ Aside0 (badAt i (l.drop i) = badAt 0 l) ∧ Aside0 (w = w'))
  case atStart => exact ⟨0, rfl, ⟨by omega⟩, ⟨rfl⟩, ⟨rfl⟩⟩
  case round =>
    obtain ⟨i, rfl, HI, HB, ⟨rfl⟩⟩ := hrel
    have hi := HI.out
    by_cases c6 : i < l.length
    · obtain ⟨ad, A1, c1, rfl, hx, hc1, hC⟩ := at_L1 HR.out i (by omega) (by omega)
      rw [Int.toNat_natCast] at hx
      have e := rd_L1_getD l i
      rw [List.getD_eq_getElem?_getD, List.getElem?_eq_getElem c6, Option.getD_some] at e
      rw [e] at hx hc1 hC
      have HC := Aside0.mk hC
      have hB := HB.out
      rw [List.drop_eq_getElem_cons c6] at hB
      simp only [badAt] at hB
      generalize l[i] = x at *
      clear hC e HB
      by_cases f : fitsB x = true
      · rw [if_pos f] at hB
        have HB' := Aside0.mk hB
        clear hB
        go_wp2_with (go_at_call 28; refine (clos_on _ _ _ _ HC.out hc1).mono ?_; rintro e w' ⟨rfl, rfl⟩)
        have HK := HI.out
        cases gk with
        | zero => omega
        | succ g1 =>
          go_roundg g1
          case measure => exact Nat.lt_succ_self _
          case rel => exact ⟨i + 1, by go_num, ⟨by omega⟩, HB', ⟨rfl⟩⟩
      · have f' : fitsB x = false := Bool.eq_false_iff.mpr f
        rw [if_neg f] at hB
        clear f
        have HB' := Aside0.mk hB
        clear hB
        go_wp2_with (go_at_call 28; refine (clos_on _ _ _ _ HC.out hc1).mono ?_; rintro e w' ⟨rfl, rfl⟩)
        go_ret
        exact ⟨by rw [← HB'.out]; rfl, rfl⟩
    · have hB := HB.out
      rw [List.drop_eq_nil_of_le (by omega)] at hB
      simp only [badAt] at hB
      have HB' := Aside0.mk hB
      clear hB HB
      go_wp2
      go_ret
      exact ⟨by rw [← HB'.out]; rfl, rfl⟩
set_option maxHeartbeats 400000 in
theorem contains_on (A : Option Addr) (c : Nat) (l : List (List Int)) (w : World) (hr : Kd.C (Kd.slice 3 (Kd.int .i64)) w A l.length l) (hc : l.length ≤ c) :
    Calls Try.prog 27 #[.slice A l.length c, .func (.func 28) #[] #[]] w fun e w' => e = .returned (.bool (!l.all fitsB)) ∧ w = w' := by
  have HR := Aside0.mk hr
  clear hr
  have hb := badAt_all l 0
  by_cases f : l.all fitsB = true
  · have h0 := hb.2 f
    have HF := Aside0.mk f
    clear hb f
    generalize hx : badAt 0 l = x at h0
    have HX := Aside0.mk hx
    clear hx
    have g : decide (0 ≤ x) = false := decide_eq_false (by omega)
    clear h0
    go_enter Try.func27, Try.ntmps27
    go_wp2_with (go_at_call 34; refine (index_on _ _ _ _ HR.out hc).mono ?_; rw [HX.out]; rintro e w' ⟨rfl, rfl⟩)
    go_ret
    exact ⟨by rw [HF.out]; rfl, rfl⟩
  · have h0 : ¬ badAt 0 l < 0 := fun h => f (hb.1 h)
    have HF := Aside0.mk (Bool.eq_false_iff.mpr f)
    clear hb f
    generalize hx : badAt 0 l = x at h0
    have HX := Aside0.mk hx
    clear hx
    have g : decide (0 ≤ x) = true := decide_eq_true (by omega)
    clear h0
    go_enter Try.func27, Try.ntmps27
    go_wp2_with (go_at_call 34; refine (index_on _ _ _ _ HR.out hc).mono ?_; rw [HX.out]; rintro e w' ⟨rfl, rfl⟩)
    go_ret
    exact ⟨by rw [HF.out]; rfl, rfl⟩
set_option maxHeartbeats 400000 in
theorem sane_on (A : Option Addr) (c : Nat) (l : List (List Int)) (b : Bool) (w : World) (hr : Kd.C (Kd.slice 3 (Kd.int .i64)) w A l.length l) (hc : l.length ≤ c) :
    Calls Try.prog 11 #[.agg #[.slice A l.length c, .bool b]] w fun e w' => e = .returned (.bool (saneB l)) ∧ Below w.heap.size w w' := by
  have HR := Aside0.mk (Kd.C_alloc hr (.cells #[.slice A l.length c, .bool b] 28))
  clear hr
  by_cases h : l.length ≤ 2
  · have HE : Aside0 (saneB l = !!l.all fitsB) := ⟨by unfold saneB; rw [decide_eq_true h]; simp⟩
    go_enter Try.func11, Try.ntmps11
    go_wp2_with (go_at_call 27; refine (contains_on _ _ _ _ HR.out hc).mono ?_; rintro e w' ⟨rfl, rfl⟩)
    go_ret
    exact ⟨by rw [HE.out]; first | rfl | (simp; done), below_alloc (Below.refl _ _) _⟩
  · have HE : Aside0 (saneB l = false) := ⟨by unfold saneB; rw [decide_eq_false h]; rfl⟩
    go_enter Try.func11, Try.ntmps11
    go_wp2_with fail
    go_ret
    exact ⟨by rw [HE.out]; first | rfl | (simp; done), below_alloc (Below.refl _ _) _⟩
theorem chans_Sane.calls (k : Nat) (A0_0 : Option Addr) (c0_0 : Nat) (l0_0 : List (List Int)) (a0_1 : Bool) (r : Bool) (w : World) (hr0_0 : Kd.C (Kd.slice 3 (Kd.int .i64)) w A0_0 l0_0.length l0_0) (hc0_0 : l0_0.length ≤ c0_0) (h : chans_Sane.f k l0_0 a0_1 = some r) :
    Calls Try.prog 11 #[.agg #[.slice A0_0 l0_0.length c0_0, .bool a0_1]] w fun e w' => e = .returned (.bool r) ∧ Below w.heap.size w w' := by
  rw [chans_Sane.told hr0_0.2.1 h]
  exact sane_on A0_0 c0_0 l0_0 a0_1 w hr0_0 hc0_0

/-! ### chans_sane: function 30 -/
def chans_sane.f (k : Nat) (l0_0 : List (List Int)) (a0_1 : Bool) : Option ((List (List Int)) × Bool) := (chans_Sane.f k l0_0 a0_1).bind fun t106 => (if t106 = true then (some (l0_0, a0_1)) else (some (([] : List (List Int)), false)))
theorem chans_sane.mono : ∀ a0 a1 k, LeO (chans_sane.f k a0 a1) (chans_sane.f (k + 1) a0 a1) := by
  intro a0 a1 k
  unfold chans_sane.f
  repeat' first
      | (with_reducible exact chans_Sane.mono _ _ _)
      | (with_reducible exact LeO.refl _)
      | (with_reducible exact LeO.none _)
      | (with_reducible refine LeO.ite ?_ ?_)
      | (with_reducible refine LeO.bind ?_ (fun _ => ?_))
      | exact chans_Sane.mono _ _ _
      | exact LeO.none _
      | refine LeO.ite ?_ ?_
      | refine LeO.bind ?_ (fun _ => ?_)
theorem bcell {W w1 : World} (hb : Below W.heap.size W w1) : (∀ b o, b < W.heap.size → w1.cell? ⟨b, o, none⟩ = W.cell? ⟨b, o, none⟩) ∧ (∀ b o, b < W.heap.size → w1.frozen? ⟨b, o, none⟩ = W.frozen? ⟨b, o, none⟩) :=
  ⟨fun b o h => hb.cell (p := ⟨b, o, none⟩) h, fun b o h => hb.frozen (p := ⟨b, o, none⟩) h⟩
theorem two_new {w w1 : World} {o o2 : Obj} (hb : Below ((w.alloc o).alloc o2).heap.size ((w.alloc o).alloc o2) w1) : w.heap.size + 1 < w1.heap.size := by have := hb.size; simp at this; omega
theorem below_two {w w1 : World} {o o2 : Obj} (hb : Below ((w.alloc o).alloc o2).heap.size ((w.alloc o).alloc o2) w1) : Below w.heap.size w w1 := below_step (below_alloc (below_alloc (Below.refl _ _) _) _) hb
/-- A channel as what it counts. -/
def asL (l : List (List Int)) : List (List Int) := if saneB l = true then l else []
def asC (l : List (List Int)) (b : Bool) : Bool := if saneB l = true then b else false
theorem sane_val (l : List (List Int)) (b : Bool) (hl : l.length ≤ 9223372036854775807) (k : Nat) (hk : l.length < k) : chans_sane.f k l b = some (asL l, asC l b) := by
  unfold chans_sane.f asL asC
  rw [chans_Sane.is l b hl k hk, Option.bind_some]
  by_cases c : saneB l = true
  · rw [if_pos c, if_pos c, if_pos c]
  · rw [if_neg c, if_neg c, if_neg c]
theorem told_of {α : Type} {f : Nat → Option α} (hm : ∀ k, LeO (f k) (f (k + 1))) {k n : Nat} {r v : α} (h : f k = some r) (hv : ∀ k, n < k → f k = some v) : r = v := by
  have h1 : f (k + (n + 1)) = some r := at_rounds hm (Nat.le_add_right _ _) h
  rw [hv _ (by omega)] at h1
  exact (Option.some.inj h1).symm
theorem asL_len (l : List (List Int)) : (asL l).length ≤ 2 := by
  unfold asL
  split
  · rename_i h
    simp only [saneB, Bool.and_eq_true, decide_eq_true_eq] at h
    exact h.1
  · simp
set_option maxHeartbeats 1000000 in
theorem sane_walk (A : Option Addr) (c : Nat) (l : List (List Int)) (b : Bool) (w : World) (hr : Kd.C (Kd.slice 3 (Kd.int .i64)) w A l.length l) (hc : l.length ≤ c) :
    Calls Try.prog 30 #[.agg #[.slice A l.length c, .bool b]] w fun e w' => Aside0 (∃ A' c', e = .returned (.agg #[.slice A' (asL l).length c', .bool (asC l b)]) ∧ (asL l).length ≤ c' ∧ ((A' = A ∧ asL l = l) ∨ asL l = []) ∧ Below w.heap.size w w') := by
  have HR := Aside0.mk (Kd.C_alloc (Kd.C_alloc hr (.cells #[.slice A l.length c, .bool b] 28)) (.cells #[.slice none 0 0, .bool false] 28))
  clear hr
  have hu28 := Try.underlying28
  by_cases h : saneB l = true
  · have HL : Aside0 (asL l = l ∧ asC l b = b) := ⟨by unfold asL; rw [if_pos h], by unfold asC; rw [if_pos h]⟩
    have HS := Aside0.mk h
    clear h
    go_enter Try.func30, Try.ntmps30
    go_wp2_with (go_at_call 11; refine (sane_on _ _ _ _ _ HR.out hc).mono ?_; rw [HS.out]; rintro e w1 ⟨rfl, hb⟩; obtain ⟨hcl, hfr⟩ := bcell hb; have hz := two_new hb; have HB := Aside0.mk hb; clear hb)
    exact bodyPost_ret (v := .agg #[.slice A l.length c, .bool b]) (by simp [results, Try.results30, go_sem, hcl, hz]) rfl ⟨A, c, by rw [HL.out.1, HL.out.2], by rw [HL.out.1]; exact hc, .inl ⟨rfl, HL.out.1⟩, ((below_two HB.out).setCell (by simp) _).setCell (by simp) _⟩
  · have HL : Aside0 (asL l = [] ∧ asC l b = false) := ⟨by unfold asL; rw [if_neg h], by unfold asC; rw [if_neg h]⟩
    have HS := Aside0.mk (Bool.eq_false_iff.mpr h)
    clear h
    go_enter Try.func30, Try.ntmps30
    go_wp2_with (go_at_call 11; refine (sane_on _ _ _ _ _ HR.out hc).mono ?_; rw [HS.out]; rintro e w1 ⟨rfl, hb⟩; obtain ⟨hcl, hfr⟩ := bcell hb; have hz := two_new hb; have HB := Aside0.mk hb; clear hb)
    exact bodyPost_ret (v := .agg #[.slice none 0 0, .bool false]) (by simp [results, Try.results30, go_sem, hcl, hz]) rfl ⟨none, 0, by rw [HL.out.1, HL.out.2]; rfl, by rw [HL.out.1]; exact Nat.le_refl _, .inr HL.out.1, ((below_two HB.out).setCell (by simp) _).setCell (by simp) _⟩
theorem asL_V {P : Nat → Prop} {A A' : Option Addr} {c : Nat} {l : List (List Int)} {w w' : World} (h : Kd.V (Kd.slice 3 (Kd.int .i64)) 32 w w.heap.size P (.slice A l.length c) l) (hA : (A' = A ∧ asL l = l) ∨ asL l = []) (hb : Below w.heap.size w w') : Kd.F (Kd.slice 3 (Kd.int .i64)) w' P A' (asL l).length (asL l) := by
  rcases hA with ⟨rfl, e⟩ | e
  · rw [e]; exact Kd.F_below (Kd.V_F h) hb
  · rw [e]; exact Kd.F_imp (Kd.F_nil (Kd.slice 3 (Kd.int .i64)) w' P) (fun W' _ => ⟨rfl, by simp, fun hn => absurd hn (by simp)⟩)
theorem chans_sane.told {l : List (List Int)} {b : Bool} (hl : l.length ≤ 9223372036854775807) {k : Nat} {r1 : List (List Int)} {r2 : Bool} (h : chans_sane.f k l b = some (r1, r2)) : r1 = asL l ∧ r2 = asC l b := by
  have e := told_of (chans_sane.mono l b) h (fun k hk => sane_val l b hl k hk)
  simpa using e
theorem chans_sane.calls (k : Nat) (P0_0_ : Nat → Prop) (A0_0 : Option Addr) (c0_0 : Nat) (l0_0 : List (List Int)) (a0_1 : Bool) (r1 : List (List Int)) (r2 : Bool) (w : World) (hs0_0 : Kd.V (Kd.slice 3 (Kd.int .i64)) 32 w w.heap.size (fun k_ => P0_0_ k_) (.slice A0_0 l0_0.length c0_0) l0_0) (h : chans_sane.f k l0_0 a0_1 = some (r1, r2)) :
    Calls Try.prog 30 #[.agg #[.slice A0_0 l0_0.length c0_0, .bool a0_1]] w fun e w' => ∃ v0_ : Value, e = .returned (.agg #[v0_, .bool r2]) ∧ Kd.V (Kd.slice 3 (Kd.int .i64)) 32 w' w.heap.size (fun k_ => (P0_0_ k_ ∨ w.heap.size ≤ k_)) v0_ r1 ∧ Below w.heap.size w w' := by
  have hC := Kd.F_now (Kd.V_F hs0_0)
  obtain ⟨rfl, rfl⟩ := chans_sane.told hC.2.1 h
  refine (sane_walk A0_0 c0_0 l0_0 a0_1 w hC (Kd.V_at hs0_0).2.1).mono fun e w' h => ?_
  obtain ⟨A', c', he, hc', hA, hb⟩ := h.out
  exact ⟨_, he, Kd.V_mono (Kd.V_mk hc' (asL_V hs0_0 hA hb)) (fun _ hk => .inl hk), hb⟩
theorem one_new {w w1 : World} {o : Obj} (hb : Below (w.alloc o).heap.size (w.alloc o) w1) : w.heap.size < w1.heap.size := by have := hb.size; simp at this; omega
theorem below_one {w w1 : World} {o : Obj} (hb : Below (w.alloc o).heap.size (w.alloc o) w1) : Below w.heap.size w w1 := below_step (below_alloc (Below.refl _ _) _) hb
/-- The two blocks that were just made, behind a call: their cells, none frozen. -/
theorem two_cells {w w1 : World} {a b c d : Value} {s t : TypeId} (hb : Below ((w.alloc (.cells #[a, b] s)).alloc (.cells #[c, d] t)).heap.size ((w.alloc (.cells #[a, b] s)).alloc (.cells #[c, d] t)) w1) :
    w1.cell? ⟨w.heap.size, 0, none⟩ = some a ∧ w1.cell? ⟨w.heap.size, 1, none⟩ = some b ∧ w1.cell? ⟨w.heap.size + 1, 0, none⟩ = some c ∧ w1.cell? ⟨w.heap.size + 1, 1, none⟩ = some d ∧
    w1.frozen? ⟨w.heap.size, 0, none⟩ = false ∧ w1.frozen? ⟨w.heap.size, 1, none⟩ = false ∧ w1.frozen? ⟨w.heap.size + 1, 0, none⟩ = false ∧ w1.frozen? ⟨w.heap.size + 1, 1, none⟩ = false ∧ w.heap.size + 1 < w1.heap.size := by
  obtain ⟨hc, hf⟩ := bcell hb
  have hz := two_new hb
  refine ⟨?_, ?_, ?_, ?_, ?_, ?_, ?_, ?_, hz⟩ <;> first | (rw [hc _ _ (by simp; try omega)]; simp [go_sem]; done) | (rw [hf _ _ (by simp; try omega)]; simp [go_sem]; done)
theorem one_cells {w w1 : World} {a b : Value} {s : TypeId} (hb : Below (w.alloc (.cells #[a, b] s)).heap.size (w.alloc (.cells #[a, b] s)) w1) :
    w1.cell? ⟨w.heap.size, 0, none⟩ = some a ∧ w1.cell? ⟨w.heap.size, 1, none⟩ = some b ∧ w1.frozen? ⟨w.heap.size, 0, none⟩ = false ∧ w1.frozen? ⟨w.heap.size, 1, none⟩ = false ∧ w.heap.size < w1.heap.size := by
  obtain ⟨hc, hf⟩ := bcell hb
  have hz := one_new hb
  refine ⟨?_, ?_, ?_, ?_, hz⟩ <;> first | (rw [hc _ _ (by simp; try omega)]; simp [go_sem]; done) | (rw [hf _ _ (by simp; try omega)]; simp [go_sem]; done)
theorem set_set (w : World) (b o : Nat) (u v : Value) : (w.setCell ⟨b, o, none⟩ u).setCell ⟨b, o, none⟩ v = w.setCell ⟨b, o, none⟩ v := by
  have h : ((w.setCell ⟨b, o, none⟩ u).setCell ⟨b, o, none⟩ v).heap = (w.setCell ⟨b, o, none⟩ v).heap := by
    apply Array.ext_getElem?
    intro i
    simp only [World.setCell, Array.getElem?_modify]
    by_cases hb : b = i
    · rw [if_pos hb, if_pos hb, if_pos hb]
      cases w.heap[i]? with
      | none => rfl
      | some x => cases x <;> simp
    · rw [if_neg hb, if_neg hb, if_neg hb]
  unfold World.setCell at h ⊢
  simp only at h ⊢
  rw [h]
theorem sane_V (P : Nat → Prop) (A : Option Addr) (c : Nat) (l L : List (List Int)) (b B : Bool) (w : World) (hV : Kd.V (Kd.slice 3 (Kd.int .i64)) 32 w w.heap.size P (.slice A l.length c) l) (hL : asL l = L) (hB : asC l b = B) :
    Calls Try.prog 30 #[.agg #[.slice A l.length c, .bool b]] w fun e w' => Aside0 (∃ A' c', e = .returned (.agg #[.slice A' L.length c', .bool B]) ∧ L.length ≤ c' ∧ Kd.F (Kd.slice 3 (Kd.int .i64)) w' P A' L.length L ∧ Below w.heap.size w w') := by
  subst hL
  subst hB
  refine (sane_walk A c l b w (Kd.F_now (Kd.V_F hV)) (Kd.V_at hV).2.1).mono fun e w' h => ?_
  obtain ⟨A', c', he, hc', hA, hb⟩ := h.out
  exact ⟨A', c', he, hc', asL_V hV hA hb, hb⟩
theorem V_two {d : Kd (List Int)} {P : Nat → Prop} {v : Value} {l : List (List Int)} {w : World} (h : Kd.V d 32 w w.heap.size P v l) (o o2 : Obj) :
    Kd.V d 32 ((w.alloc o).alloc o2) ((w.alloc o).alloc o2).heap.size (fun k => P k ∧ k < w.heap.size) v l := Kd.V_alloc (Kd.V_alloc (Kd.V_bound h) o) o2
theorem F_low {α : Type} {d : Kd α} {P : Nat → Prop} {A : Option Addr} {n N : Nat} {xs : List α} {W W' : World} (h : Kd.F d W (fun k => P k ∧ k < N) A n xs) (hb : Below N W W') : Kd.F d W' (fun k => P k ∧ k < N) A n xs :=
  Kd.F_step h (fun k hk _ => hb.block k hk.2)
theorem field0 (A : Option Addr) (n c : Nat) (b : Bool) (w : World) : (Instr.field 28 (.agg #[.slice A n c, .bool b]) 0).run Try.prog w = .ok (.slice A n c) w := by kernel_rfl

end Go.Proofs.Ytneomcnfbnfjbaa.Q
