-- Laid by mix.py, a program of this session, with the kit's print.py; walks by hand come out of wip/over.
import Derived.Deep.RegionLawGrows
import Derived.Deep.RegionHeld3
import Derived.ArgAppend
import Derived.Deep.Slices
import Derived.Test.YtneomcnfbnfjbaaQ0
import Derived.Test.YtneomcnfbnfjbaaQ1
namespace Go.Proofs.Ytneomcnfbnfjbaa.Q
open Go.RowKit Go.Proofs.YtneomcnfbnfjbaaW.PrintWords Go.Proofs.YtneomcnfbnfjbaaW.PrintLast Go.Proofs.YtneomcnfbnfjbaaW.PrintMore
attribute [local go_sem] max2_int min2_int max_two min_two max_three min_three max_four min_four   -- for this text's walks alone
set_option linter.unusedVariables false
set_option linter.unusedSimpArgs false

/-! ### chans_Put: function 13 -/
def chans_Put.f (k : Nat) (l0_0 : List (List Int)) (a0_1 : Bool) (l1 : List Int) : Option ((List (List Int)) × Bool × Bool) := (chans_sane.f k l0_0 a0_1).bind fun bt109 => (if (l1.length : Int) < 1 then (some (bt109.1, bt109.2, false)) else (if (l1.length : Int) > 8 then (some (bt109.1, bt109.2, false)) else (if bt109.2 = true then (some (bt109.1, bt109.2, false)) else (if (bt109.1.length : Int) ≥ 2 then (some (bt109.1, bt109.2, false)) else ((some (([] : List (List Int)) : List (List Int))).bind fun y114 => (if y114.length + bt109.1.length < 5864062014805 then ((some (y114 ++ bt109.1 : List (List Int))).bind fun y117 => (if y117.length < 5864062014805 then (some ((y117 ++ [l1]), false, true)) else (none))) else (none)))))))
theorem chans_Put.mono : ∀ a0 a1 a2 k, LeO (chans_Put.f k a0 a1 a2) (chans_Put.f (k + 1) a0 a1 a2) := by
  intro a0 a1 a2 k
  unfold chans_Put.f
  repeat' first
      | (with_reducible exact chans_sane.mono _ _ _)
      | (with_reducible exact LeO.refl _)
      | (with_reducible exact LeO.none _)
      | (with_reducible refine LeO.ite ?_ ?_)
      | (with_reducible refine LeO.bind ?_ (fun _ => ?_))
      | exact chans_sane.mono _ _ _
      | exact LeO.none _
      | refine LeO.ite ?_ ?_
      | refine LeO.bind ?_ (fun _ => ?_)
-- import Derived.Deep.RegionLawGrows
-- import Derived.Deep.RegionHeld3
-- import Derived.ArgAppend
-- import Derived.Deep.Slices
theorem info3' : (Try.prog.info? 3).map (fun i => (i.zero, i.size, i.bytes)) = some (some (.int .i64 0), 1, 8) := by kernel_rfl
set_option maxHeartbeats 1000000 in
/-- A copy of a row that has elements. -/
theorem clone_on (ad : Addr) (c : Nat) (l : List Int) (w : World) (hC : Kd.C (Kd.int .i64) w (some ad) l.length l) (hc : l.length ≤ c) (h0 : 0 < l.length) (h8 : l.length ≤ 1000000) :
    Calls Try.prog 31 #[.slice (some ad) l.length c] w fun e w' => Aside0 (∃ A' c', e = .returned (.slice A' l.length c') ∧ l.length ≤ c' ∧ Kd.F (Kd.int .i64) w' (fun k => w.heap.size ≤ k) A' l.length l ∧ Below w.heap.size w w') := by
  obtain ⟨i3, hi3, hz3, hsz3, hby3⟩ := info_parts info3'
  have heq : ∀ w, (binOp .eql 32 (.slice (some ad) l.length c) (.slice none 0 0)).run Try.prog w = .ok (.bool false) w := fun _ => by kernel_rfl
  have hrd := Kd.reads_of_C (enc := Value.int .i64) (d := (0 : Int)) (h1 := fun _ => rfl) hC
  have HC := Aside0.mk hrd
  clear hC hrd
  have hcells : ∀ j u, (nums .i64 l)[j]? = some u → (w.alloc (.cells #[] 3)).cell? (ad.add j) = some u := by
    intro j u hj
    obtain ⟨ad', e, hcl⟩ := HC.out.2.2 h0
    injection e with e
    subst e
    have hjl : j < l.length := by
      rcases Nat.lt_or_ge j l.length with h | h
      · exact h
      · rw [List.getElem?_eq_none (by rw [nums_length]; exact h)] at hj; cases hj
    have h2 := hcl j hjl
    rw [World.cell?_alloc_lt w _ _ (World.block_lt_of_cell? w _ h2), h2]
    rw [nums, List.getElem?_map, List.getElem?_eq_getElem hjl] at hj
    simp at hj
    subst hj
    simp [List.getD_eq_getElem?_getD, List.getElem?_eq_getElem hjl]
  have HCC := Aside0.mk hcells
  clear hcells
  go_enter Try.func31, Try.ntmps31
  go_wp2_with (at_builtin; refine wpList_append_grows _ rfl (.tmp 5) (.tmp 6) 32 rfl 3 i3 (.int .i64 0) 1 8 Try.underlying32 hi3 hz3 hsz3 hby3 rfl (by decide) (some ⟨w.heap.size, 0, none⟩) 0 0 [] (by simp [Act.eval]) (by simp) rfl (fun _ _ j u hj => by simp at hj) ad l.length c (nums .i64 l) (by simp [Act.eval]) (by rw [nums_length]; omega) HCC.out (by simp [nums, Value.oneCell']) (by omega) (by unfold maxLen; omega) (by omega) ?_; intro v' w1 hown hgrow; simp only [Nat.zero_add, List.nil_append] at hown; have HO := Aside0.mk hown; have HG := Aside0.mk hgrow; clear hown hgrow)
  obtain ⟨A', c', rfl⟩ := own_slice HO.out
  go_ret
  have hR := Kd.R_of_own (enc := Value.int .i64) (h1 := fun _ => rfl) (ok := fun k => w.heap.size ≤ k) (e := 3) (xs := l) HO.out (fun k hk => by have := own_base HO.out k hk; simp at this; omega)
  exact ⟨A', c', rfl, (Kd.R_reads' hR).2.1, Kd.R_F hR, (below_alloc (Below.refl _ _) _).grown HG.out (by simp) (fun _ h => by cases h)⟩
def putS (l : List (List Int)) (b : Bool) (x : List Int) : List (List Int) × Bool × Bool :=
  if asC l b = true then (asL l, asC l b, false) else if (asL l).length = 2 then (asL l, asC l b, false) else if fitsB x = true then (asL l ++ [x], false, true) else (asL l, asC l b, false)
theorem Put_val (l : List (List Int)) (b : Bool) (x : List Int) (hl : l.length ≤ 9223372036854775807) (k : Nat) (hk : l.length < k) : chans_Put.f k l b x = some (putS l b x) := by
  unfold chans_Put.f putS
  have h2 := asL_len l
  have hf := fitsB_iff x
  rw [sane_val l b hl k hk, Option.bind_some]
  generalize asL l = L at h2 ⊢
  generalize asC l b = B
  dsimp only
  cases B with
  | true =>
    simp only [if_true]
    by_cases q1 : (x.length : Int) < 1
    · rw [if_pos q1]
    · rw [if_neg q1]
      by_cases q2 : (x.length : Int) > 8
      · rw [if_pos q2]
      · rw [if_neg q2]
  | false =>
    simp only [Bool.false_eq_true, if_false]
    by_cases q : fitsB x = true
    · have := hf.1 q
      rw [if_neg (by omega), if_neg (by omega)]
      by_cases z : L.length = 2
      · rw [if_pos z, if_pos (by omega)]
      · rw [if_neg z, if_neg (by omega), if_pos q]
        simp only [Option.bind_some, List.nil_append, List.length_nil, Nat.zero_add]
        rw [if_pos (by omega), if_pos (by omega)]
    · have hn : ¬ (1 ≤ x.length ∧ x.length ≤ 8) := fun h => q (hf.2 h)
      have e : (if L.length = 2 then (L, false, false) else if fitsB x = true then (L ++ [x], false, true) else (L, false, false)) = (L, false, false) := by
        rw [if_neg q]; split <;> rfl
      rw [e]
      by_cases q1 : (x.length : Int) < 1
      · rw [if_pos q1]
      · rw [if_neg q1, if_pos (by omega)]
set_option maxHeartbeats 2000000 in
theorem Put_no (P : Nat → Prop) (A : Option Addr) (c : Nat) (l : List (List Int)) (b : Bool) (A1 : Option Addr) (cx : Nat) (x : List Int) (w : World) (hV : Kd.V (Kd.slice 3 (Kd.int .i64)) 32 w w.heap.size P (.slice A l.length c) l) (hX : Kd.C (Kd.int .i64) w A1 x.length x) (hcx : x.length ≤ cx)
    (hno : asC l b = true ∨ (asC l b = false ∧ (asL l).length = 2) ∨ (asC l b = false ∧ (asL l).length ≠ 2 ∧ fitsB x = false)) :
    Calls Try.prog 13 #[.agg #[.slice A l.length c, .bool b], .slice A1 x.length cx] w fun e w' => Aside0 (∃ A' c', e = .returned (.tuple #[.agg #[.slice A' (asL l).length c', .bool (asC l b)], .bool false]) ∧ (asL l).length ≤ c' ∧ Kd.F (Kd.slice 3 (Kd.int .i64)) w' P A' (asL l).length (asL l) ∧ Below w.heap.size w w') := by
  have HV := Aside0.mk (V_two hV (.cells #[.slice A l.length c, .bool b] 28) (.cells #[.slice none 0 0, .bool false] 28))
  have HX := Aside0.mk hX
  obtain ⟨L, hL⟩ : ∃ L, asL l = L := ⟨_, rfl⟩
  rw [hL] at hno ⊢
  have HL := Aside0.mk hL
  have hu28 := Try.underlying28
  clear hV hL hX
  have fin : ∀ (w1 : World) (A2 : Option Addr) (c2 : Nat) (u v u2 v2 : Value), Kd.F (Kd.slice 3 (Kd.int .i64)) w1 (fun k => P k ∧ k < w.heap.size) A2 L.length L →
      Kd.F (Kd.slice 3 (Kd.int .i64)) ((((w1.setCell ⟨w.heap.size, 0, none⟩ u).setCell ⟨w.heap.size, 1, none⟩ v).setCell ⟨w.heap.size + 1, 0, none⟩ u2).setCell ⟨w.heap.size + 1, 1, none⟩ v2) P A2 L.length L := fun w1 A2 c2 u v u2 v2 h =>
    Kd.F_mono (F_low h (((((Below.refl _ _).setCell (by simp) _).setCell (by simp) _).setCell (by simp) _).setCell (by simp) _)) (fun _ hk => hk.1)
  have FIN := Aside0.mk fin
  clear fin
  rcases hno with h | ⟨h, h2⟩ | ⟨h, h2, h3⟩
  · go_enter Try.func13, Try.ntmps13
    go_wp2_with (first | (go_at_call 30; refine (sane_V _ _ _ _ _ _ _ _ HV.out HL.out rfl).mono ?_; rintro e w1 ⟨⟨A2, c1, rfl, hc1, hA, hb⟩⟩; obtain ⟨k0, k1, k2, k3, q0, q1, q2, q3, hz⟩ := two_cells hb; have HB := Aside0.mk hb; have HA := Aside0.mk hA; have HC1 := Aside0.mk hc1; clear hb hA hc1) | (go_at_call 29; refine (fits_on _ _ _ _ hcx).mono ?_; rintro e w' ⟨rfl, rfl⟩))
    exact bodyPost_ret (v := .tuple #[.agg #[.slice A2 L.length c1, .bool (asC l b)], .bool false]) (by simp [results, Try.results13, go_sem, k0, k1, k2, k3, hz, h]) rfl ⟨A2, c1, rfl, HC1.out, FIN.out _ _ c1 _ _ _ _ HA.out, ((((below_two HB.out).setCell (by simp) _).setCell (by simp) _).setCell (by simp) _).setCell (by simp) _⟩
  · have z1 : ((L.length : Int) == 2) = true := by rw [h2]; rfl
    clear h2
    go_enter Try.func13, Try.ntmps13
    go_wp2_with (first | (go_at_call 30; refine (sane_V _ _ _ _ _ _ _ _ HV.out HL.out rfl).mono ?_; rintro e w1 ⟨⟨A2, c1, rfl, hc1, hA, hb⟩⟩; obtain ⟨k0, k1, k2, k3, q0, q1, q2, q3, hz⟩ := two_cells hb; have HB := Aside0.mk hb; have HA := Aside0.mk hA; have HC1 := Aside0.mk hc1; clear hb hA hc1) | (go_at_call 29; refine (fits_on _ _ _ _ hcx).mono ?_; rintro e w' ⟨rfl, rfl⟩))
    exact bodyPost_ret (v := .tuple #[.agg #[.slice A2 L.length c1, .bool (asC l b)], .bool false]) (by simp [results, Try.results13, go_sem, k0, k1, k2, k3, hz, h]) rfl ⟨A2, c1, rfl, HC1.out, FIN.out _ _ c1 _ _ _ _ HA.out, ((((below_two HB.out).setCell (by simp) _).setCell (by simp) _).setCell (by simp) _).setCell (by simp) _⟩
  · have z1 : ((L.length : Int) == 2) = false := beq_eq_false_iff_ne.mpr (by omega)
    clear h2
    go_enter Try.func13, Try.ntmps13
    go_wp2_with (first | (go_at_call 30; refine (sane_V _ _ _ _ _ _ _ _ HV.out HL.out rfl).mono ?_; rintro e w1 ⟨⟨A2, c1, rfl, hc1, hA, hb⟩⟩; obtain ⟨k0, k1, k2, k3, q0, q1, q2, q3, hz⟩ := two_cells hb; have HB := Aside0.mk hb; have HA := Aside0.mk hA; have HC1 := Aside0.mk hc1; clear hb hA hc1) | (go_at_call 29; refine (fits_on _ _ _ _ hcx).mono ?_; rintro e w' ⟨rfl, rfl⟩))
    exact bodyPost_ret (v := .tuple #[.agg #[.slice A2 L.length c1, .bool (asC l b)], .bool false]) (by simp [results, Try.results13, go_sem, k0, k1, k2, k3, hz, h]) rfl ⟨A2, c1, rfl, HC1.out, FIN.out _ _ c1 _ _ _ _ HA.out, ((((below_two HB.out).setCell (by simp) _).setCell (by simp) _).setCell (by simp) _).setCell (by simp) _⟩
/-- The cells of a row of rows that is read, and what each leads to. -/
theorem olds_of {W : World} {ok : Nat → Prop} {A : Option Addr} {L : List (List Int)} (h : Kd.F (Kd.slice 3 (Kd.int .i64)) W ok A L.length L) :
    ∃ olds : List Value, olds.length = L.length ∧ (∀ ad, A = some ad → ∀ j u, olds[j]? = some u → W.cell? (ad.add j) = some u) ∧
      (∀ (j : Nat) (l : List Int) (u : Value), L[j]? = some l → olds[j]? = some u → ∃ A c, u = .slice A l.length c ∧ l.length ≤ c ∧ Kd.F (Kd.int .i64) W ok A l.length l) := by
  have hex : ∀ j, j < L.length → ∃ u : Value, (∀ ad, A = some ad → W.cell? (ad.add j) = some u) ∧ ∀ l, L[j]? = some l → ∃ A c, u = .slice A l.length c ∧ l.length ≤ c ∧ Kd.F (Kd.int .i64) W ok A l.length l := by
    intro j hj
    obtain ⟨ad, c, rfl, hc, hK, hcell, _⟩ := Kd.F_get h ([] : List Int) (j : Int) (by omega) (by omega)
    obtain ⟨A5, c5, rfl, h5, hF5⟩ := Kd.FK_slice_open hK
    refine ⟨.slice A5 (L.getD (j : Int).toNat []).length c5, fun ad' e => ?_, fun l hl => ?_⟩
    · injection e with e
      subst e
      have := hcell 0 _ rfl
      simpa [Kd.slice] using this
    · have e : L.getD (j : Int).toNat [] = l := by rw [Int.toNat_natCast, List.getD_eq_getElem?_getD, hl]; rfl
      rw [e] at h5 hF5 ⊢
      exact ⟨A5, c5, rfl, h5, hF5⟩
  obtain ⟨f, hf⟩ := Go.Deep.choose_lt hex
  refine ⟨(List.range L.length).map f, by simp, fun ad e j u hu => ?_, fun j l u hl hu => ?_⟩
  · have hj : j < L.length := by
      rcases Nat.lt_or_ge j L.length with h' | h'
      · exact h'
      · rw [List.getElem?_eq_none (by simpa using h')] at hu; cases hu
    rw [List.getElem?_map, List.getElem?_range hj] at hu
    simp at hu
    subst hu
    exact (hf j hj).1 ad e
  · have hj : j < L.length := (List.getElem?_eq_some_iff.1 hl).1
    rw [List.getElem?_map, List.getElem?_range hj] at hu
    simp at hu
    subst hu
    exact (hf j hj).2 l hl
/-- A row of the call's own whose elements are rows that are read. -/
theorem V_of_own {w : World} {base : Nat} {ok : Nat → Prop} {v : Value} {ls : List (List Int)} {vs : List Value} (hown : w.ownsRow base 32 1 v ls.length vs) (hok : ∀ k, v.ownBlock = some k → ok k)
    (hrow : ∀ (j : Nat) (l : List Int) (u : Value), ls[j]? = some l → vs[j]? = some u → ∃ A c, u = .slice A l.length c ∧ l.length ≤ c ∧ Kd.F (Kd.int .i64) w (fun k => ok k ∧ some k ≠ v.ownBlock) A l.length l) (b : Nat) : Kd.V (Kd.slice 3 (Kd.int .i64)) 32 w b ok v ls := by
  have hlen : vs.length = ls.length := by have := hown.1; omega
  refine Kd.N_V (base := base) ⟨hok, vs.map fun u => [u], by simp [hlen], ?_, fun j x c hx hc => ?_⟩
  · refine ⟨fun k hk => hk.symm, vs, by rw [List.length_map, hlen]; exact hown, ⟨by rw [List.length_map]; exact (Nat.mul_one _).symm, fun j p hj => ?_⟩⟩
    rw [List.getElem?_map] at hj
    cases hv : vs[j]? with
    | none => rw [hv] at hj; simp at hj
    | some u =>
      rw [hv] at hj
      simp at hj
      subst hj
      have hjl := (List.getElem?_eq_some_iff.1 hv)
      obtain ⟨hjl, hju⟩ := hjl
      have hls : ls[j]? = some ls[j] := List.getElem?_eq_getElem (by omega)
      obtain ⟨A, c, rfl, _⟩ := hrow j _ u hls hv
      have e : (vs.drop (j * (Kd.raw (Kd.slice 3 (Kd.int IntKind.i64)).sz).sz)).take (Kd.raw (Kd.slice 3 (Kd.int IntKind.i64)).sz).sz = [Value.slice A ls[j].length c] := by
        show (vs.drop (j * 1)).take 1 = _
        rw [Nat.mul_one, List.drop_eq_getElem_cons hjl, hju]; rfl
      rw [e]
      exact ⟨rfl, rfl, by simp [Value.oneCell']⟩
  · rw [List.getElem?_map] at hc
    cases hv : vs[j]? with
    | none => rw [hv] at hc; simp at hc
    | some u =>
      rw [hv] at hc
      simp at hc
      subst hc
      obtain ⟨A, c, rfl, hl, hF⟩ := hrow j x u hx hv
      exact Kd.FK_slice_mk hl hF
set_option maxRecDepth 100000 in
set_option maxHeartbeats 4000000 in
theorem Put_yes (P : Nat → Prop) (A : Option Addr) (c : Nat) (l : List (List Int)) (b : Bool) (A1 : Option Addr) (cx : Nat) (x : List Int) (w : World) (hV : Kd.V (Kd.slice 3 (Kd.int .i64)) 32 w w.heap.size P (.slice A l.length c) l) (hX : Kd.C (Kd.int .i64) w A1 x.length x) (hcx : x.length ≤ cx)
    (h : asC l b = false) (h2 : (asL l).length ≠ 2) (h3 : fitsB x = true) :
    Calls Try.prog 13 #[.agg #[.slice A l.length c, .bool b], .slice A1 x.length cx] w fun e w' => Aside0 (∃ v, e = .returned (.tuple #[.agg #[v, .bool false], .bool true]) ∧ Kd.V (Kd.slice 3 (Kd.int .i64)) 32 w' w.heap.size (fun k => P k ∨ w.heap.size ≤ k) v (asL l ++ [x]) ∧ Below w.heap.size w w') := by
  have HV := Aside0.mk (V_two hV (.cells #[.slice A l.length c, .bool b] 28) (.cells #[.slice none 0 0, .bool false] 28))
  have hXF := Kd.C_F (Kd.heap_int .i64) hX
  have hx0 := (fitsB_iff x).1 h3
  obtain ⟨ad, rfl⟩ : ∃ ad, A1 = some ad := by obtain ⟨ad, e, _⟩ := hX.2.2 (by omega); exact ⟨ad, e⟩
  have hl2 := asL_len l
  obtain ⟨L, hL⟩ : ∃ L, asL l = L := ⟨_, rfl⟩
  rw [hL] at h2 hl2 ⊢
  have HL := Aside0.mk hL
  have hu28 := Try.underlying28
  obtain ⟨i32, hi32, hz32, hsz32, hby32⟩ := info_parts info32
  have z1 : ((L.length : Int) == 2) = false := beq_eq_false_iff_ne.mpr (by omega)
  have hl1 : L.length ≤ 1 := by omega
  clear hV hL hX h2 hl2
  go_enter Try.func13, Try.ntmps13
  go_wp2_with (first | (go_at_call 30; refine (sane_V _ _ _ _ _ _ _ _ HV.out HL.out rfl).mono ?_; rintro e w1 ⟨⟨A2, c1, rfl, hc1, hA, hb⟩⟩; obtain ⟨k0, k1, k2, k3, q0, q1, q2, q3, hz⟩ := two_cells hb; have HB := Aside0.mk hb; have HA := Aside0.mk hA; have HC1 := Aside0.mk hc1; clear hb hA hc1) | (go_at_call 29; refine (fits_on _ _ _ _ hcx).mono ?_; rintro e w' ⟨rfl, rfl⟩))
  have hBW : Below w.heap.size w1 ((w1.setCell ⟨w.heap.size, 0, none⟩ (.slice A2 L.length c1)).setCell ⟨w.heap.size, 1, none⟩ (.bool false)) := ((Below.refl _ _).setCell (by simp) _).setCell (by simp) _
  obtain ⟨W2, hW2⟩ : ∃ W2, (w1.setCell ⟨w.heap.size, 0, none⟩ (.slice A2 L.length c1)).setCell ⟨w.heap.size, 1, none⟩ (.bool false) = W2 := ⟨_, rfl⟩
  have m0 : W2.cell? ⟨w.heap.size, 0, none⟩ = some (.slice A2 L.length c1) := by rw [← hW2]; simp [go_sem, k0, k1]
  have m1 : W2.cell? ⟨w.heap.size, 1, none⟩ = some (.bool false) := by rw [← hW2]; simp [go_sem, k0, k1]
  have m2 : W2.cell? ⟨w.heap.size + 1, 0, none⟩ = some (.slice none 0 0) := by rw [← hW2]; simp [go_sem, k2]
  have m3 : W2.cell? ⟨w.heap.size + 1, 1, none⟩ = some (.bool false) := by rw [← hW2]; simp [go_sem, k3]
  have g0 : W2.frozen? ⟨w.heap.size, 0, none⟩ = false := by rw [← hW2]; simp [go_sem, q0]
  have g1 : W2.frozen? ⟨w.heap.size, 1, none⟩ = false := by rw [← hW2]; simp [go_sem, q1]
  have g2 : W2.frozen? ⟨w.heap.size + 1, 0, none⟩ = false := by rw [← hW2]; simp [go_sem, q2]
  have g3 : W2.frozen? ⟨w.heap.size + 1, 1, none⟩ = false := by rw [← hW2]; simp [go_sem, q3]
  have hz2 : w.heap.size + 1 < W2.heap.size := by rw [← hW2]; simpa [go_sem] using hz
  rw [hW2] at hBW ⊢
  have hB2 := Aside0.mk (Below.trans (below_two HB.out) hBW)
  have HA2 := Aside0.mk (F_low HA.out hBW)
  have HX2 := Aside0.mk (Kd.F_now (Kd.F_step hXF (fun k hk _ => hB2.out.block k hk)))
  obtain ⟨olds, ho1, ho2, ho3⟩ := olds_of HA2.out
  have HO3 := Aside0.mk ho3
  have HO2 := Aside0.mk ho2
  have hnone : A2 = none → L.length = 0 ∧ L.length = 0 := fun e => by
    rcases Nat.eq_zero_or_pos L.length with h0 | h0
    · exact ⟨h0, h0⟩
    · obtain ⟨ad', e', _⟩ := (Kd.F_now HA2.out).2.2 h0
      rw [e] at e'; cases e'
  have HN := Aside0.mk hnone
  have HO1 := Aside0.mk ho1
  have HC1' := HC1.out
  have hsl : ∀ W : World, (Instr.slice 22 (.slice A2 L.length c1) none (some (.int .i64 (L.length : Int))) (some (.int .i64 (L.length : Int)))).run Try.prog W = .ok (.slice A2 L.length L.length) W := by
    intro W
    rw [run_slice_hm W 22 A2 L.length c1 (by kernel_rfl) .i64 .i64 (L.length : Int) (L.length : Int) (by omega) (by omega) (by omega)]
    go_simp
  clear hBW hW2 k0 k1 k2 k3 q0 q1 q2 q3 hz ho1 ho2 ho3 hnone HC1' hXF
  refine start_ (n := 15) (S := fun w' => w'.cell? ⟨w.heap.size, 0, none⟩ = some (.slice A2 L.length c1)) (ds := [14]) #[false, false, false, false, false, false, false, false, false, false, false, false, false, false, false] (by kernel_rfl) rfl rfl m0 (fun hHeld => ?_)
  refine pure_ (i := 0) (N := some 22) (v := ?_) (a' := ?_) #[true, false, false, false, false, false, false, false, false, false, false, false, false, false, false] rfl rfl (by kernel_rfl) (fun _ _ _ h => h) (Or.inl ⟨by rfl, ?_⟩) ?_ ?_
  rotate_left
  · intro w'
    go_simp
    with_reducible rfl
  rotate_left
  · simp only [Act.put, List.setIfInBounds_toArray, List.set_cons_zero, List.set_cons_succ, i64_w, i32_w]
    rfl
  refine take_ (i := 1) (N := some 23) (v := ?_) (a' := ?_) #[true, true, false, false, false, false, false, false, false, false, false, false, false, false, false] rfl rfl (by kernel_rfl) (fun _ _ _ h => h) (Or.inl ⟨by rfl, ?_⟩) m0 ?_ ?_
  rotate_left
  · intro w' hw'
    have hk0 : w'.cell? ⟨w.heap.size, 0, none⟩ = some (.slice A2 L.length c1) := hw'
    go_simp
    with_reducible rfl
  rotate_left
  · simp only [Act.put, List.setIfInBounds_toArray, List.set_cons_zero, List.set_cons_succ, i64_w, i32_w]
    rfl
  refine pure_ (i := 2) (N := some 24) (v := ?_) (a' := ?_) #[true, true, true, false, false, false, false, false, false, false, false, false, false, false, false] rfl rfl (by kernel_rfl) (fun _ _ _ h => h) (Or.inl ⟨by rfl, ?_⟩) ?_ ?_
  rotate_left
  · intro w'
    go_simp
    with_reducible rfl
  rotate_left
  · simp only [Act.put, List.setIfInBounds_toArray, List.set_cons_zero, List.set_cons_succ, i64_w, i32_w]
    rfl
  refine take_ (i := 3) (N := some 25) (v := ?_) (a' := ?_) #[true, true, true, true, false, false, false, false, false, false, false, false, false, false, false] rfl rfl (by kernel_rfl) (fun _ _ _ h => h) (Or.inl ⟨by rfl, ?_⟩) m0 ?_ ?_
  rotate_left
  · intro w' hw'
    have hk0 : w'.cell? ⟨w.heap.size, 0, none⟩ = some (.slice A2 L.length c1) := hw'
    go_simp
    with_reducible rfl
  rotate_left
  · simp only [Act.put, List.setIfInBounds_toArray, List.set_cons_zero, List.set_cons_succ, i64_w, i32_w]
    rfl
  refine pure_ (i := 4) (N := some 26) (v := ?_) (a' := ?_) #[true, true, true, true, true, false, false, false, false, false, false, false, false, false, false] rfl rfl (by kernel_rfl) (fun _ _ _ h => h) (Or.inl ⟨by rfl, ?_⟩) ?_ ?_
  rotate_left
  · intro w'
    go_simp
    with_reducible rfl
  rotate_left
  · simp only [Act.put, List.setIfInBounds_toArray, List.set_cons_zero, List.set_cons_succ, i64_w, i32_w]
    rfl
  refine pure_ (i := 5) (N := some 27) (v := ?_) (a' := ?_) #[true, true, true, true, true, true, false, false, false, false, false, false, false, false, false] rfl rfl (by kernel_rfl) (fun _ _ _ h => h) (Or.inl ⟨by rfl, ?_⟩) ?_ ?_
  rotate_left
  · intro w'
    go_simp
    with_reducible rfl
  rotate_left
  · simp only [Act.put, List.setIfInBounds_toArray, List.set_cons_zero, List.set_cons_succ, i64_w, i32_w]
    rfl
  refine take_ (i := 6) (N := some 28) (v := ?_) (a' := ?_) #[true, true, true, true, true, true, true, false, false, false, false, false, false, false, false] rfl rfl (by kernel_rfl) (fun _ _ _ h => h) (Or.inl ⟨by rfl, ?_⟩) m0 ?_ ?_
  rotate_left
  · intro w' hw'
    have hk0 : w'.cell? ⟨w.heap.size, 0, none⟩ = some (.slice A2 L.length c1) := hw'
    go_simp
    with_reducible rfl
  rotate_left
  · simp only [Act.put, List.setIfInBounds_toArray, List.set_cons_zero, List.set_cons_succ, i64_w, i32_w]
    rfl
  refine pure_ (i := 7) (N := some 29) (v := ?_) (a' := ?_) #[true, true, true, true, true, true, true, true, false, false, false, false, false, false, false] rfl rfl (by kernel_rfl) (fun _ _ _ h => h) (Or.inl ⟨by rfl, ?_⟩) ?_ ?_
  rotate_left
  · intro w'
    go_simp
    with_reducible rfl
  rotate_left
  · simp only [Act.put, List.setIfInBounds_toArray, List.set_cons_zero, List.set_cons_succ, i64_w, i32_w]
    rfl
  refine pure_ (i := 8) (N := some 30) (v := ?_) (a' := ?_) #[true, true, true, true, true, true, true, true, true, false, false, false, false, false, false] rfl rfl (by kernel_rfl) (fun _ _ _ h => h) (Or.inl ⟨by rfl, ?_⟩) ?_ ?_
  rotate_left
  · intro w'
    go_simp
    with_reducible rfl
  rotate_left
  · simp only [Act.put, List.setIfInBounds_toArray, List.set_cons_zero, List.set_cons_succ, i64_w, i32_w]
    rfl
  refine pure_ (i := 9) (N := some 31) (v := ?_) (a' := ?_) #[true, true, true, true, true, true, true, true, true, true, false, false, false, false, false] rfl rfl (by kernel_rfl) (fun _ _ _ h => h) (Or.inl ⟨by rfl, ?_⟩) ?_ ?_
  rotate_left
  · intro w'
    go_simp
    with_reducible rfl
  rotate_left
  · simp only [Act.put, List.setIfInBounds_toArray, List.set_cons_zero, List.set_cons_succ, i64_w, i32_w]
    rfl
  refine one_ (i := 10) (N := some 32) #[true, true, true, true, true, true, true, true, true, true, true, false, false, false, false] rfl rfl (by kernel_rfl) (by decide) (fun K hK => ?_)
  refine goes_ Try.func31 (by kernel_rfl) rfl #[.slice (some ad) x.length cx] (by rfl) rfl rfl (by first | rfl | (simp only [List.map_toArray, List.map_cons, List.map_nil]; rfl)) ?_
  refine (clone_on ad cx x _ (by first | exact HX2.out | exact Kd.C_drew HX2.out) hcx (by omega) (by omega)).mono ?_
  rintro e w3 ⟨⟨A3, c3, rfl, hc3, hF3, hb3⟩⟩
  refine ⟨_, rfl, ?_⟩
  have hb3' : Below W2.heap.size W2 w3 := ⟨hb3.os, hb3.tape, hb3.output, hb3.size, hb3.block⟩
  have n0 := (hb3'.cell (p := ⟨w.heap.size, 0, none⟩) (by simp; omega)).trans m0
  have hz3 : w.heap.size + 1 < w3.heap.size := Nat.lt_of_lt_of_le hz2 hb3'.size
  have HB3 := Aside0.mk hb3'
  have HF3 := Aside0.mk hF3
  have HC3 := Aside0.mk hc3
  clear hb3 hb3' hF3 hc3
  refine hK.out _ _ n0 (fun hHeld => ?_)
  clear hK K
  refine norm_ (a' := ?_) ?_ ?_
  rotate_left
  · show Act.put _ (some 32) _ = _
    simp only [Act.put, List.setIfInBounds_toArray, List.set_cons_zero, List.set_cons_succ, i64_w, i32_w]
    rfl
  refine one_ (i := 11) (N := some 33) #[true, true, true, true, true, true, true, true, true, true, true, true, false, false, false] rfl rfl (by kernel_rfl) (by decide) (fun K hK => ?_)
  refine value_ (w1 := ?_) (v := ?_) (by rfl) rfl ?_ ?_
  rotate_left 2
  · go_simp
    constructor
    · rfl
    · rfl
  refine hK.out _ _ ((World.cell?_alloc_lt w3 _ _ (by simp; omega)).trans n0) (fun hHeld => ?_)
  clear hK K
  refine norm_ (a' := ?_) ?_ ?_
  rotate_left
  · show Act.put _ (some 33) _ = _
    simp only [Act.put, List.setIfInBounds_toArray, List.set_cons_zero, List.set_cons_succ, i64_w, i32_w]
    rfl
  refine one_ (i := 12) (N := some 34) #[true, true, true, true, true, true, true, true, true, true, true, true, true, false, false] rfl rfl (by kernel_rfl) (by decide) (fun K hK => ?_)
  refine step_append_grows rfl (.tmp 30) (.tmp 33) 22 rfl 32 i32 (.slice none 0 0) 1 24 Try.underlying22 hi32 hz32 hsz32 hby32 rfl (by decide) A2 L.length L.length olds (by first | rfl | simp [Act.eval]) HN.out (by have := HO1.out; omega) (fun b e j u hj => by rw [World.cell?_alloc_lt _ _ _ (World.block_lt_of_cell? w3 _ (by rw [HB3.out.cell (World.block_lt_of_cell? W2 _ (HO2.out b e j u hj))]; exact HO2.out b e j u hj)), HB3.out.cell (World.block_lt_of_cell? W2 _ (HO2.out b e j u hj))]; exact HO2.out b e j u hj) ⟨w3.heap.size, 0, none⟩ 1 1 [.slice A3 x.length c3] (by first | rfl | simp [Act.eval]) rfl (World.news_of_block (cs := #[.slice A3 x.length c3]) (t := 32) (fr := (0, 0)) (heap_alloc_new w3 _)) (by simp [Value.oneCell']) (by omega) (by unfold maxLen; omega) (by omega) ?_
  intro v' w4 hown hgrow
  obtain ⟨A4, c4, rfl⟩ := own_slice hown
  have hb4 : Below W2.heap.size W2 w4 := (HB3.out.alloc HB3.out.size _).grown hgrow (by have := HB3.out.size; simp; omega) (fun _ h => by cases h)
  have e0 := (hb4.cell (p := ⟨w.heap.size, 0, none⟩) (by simp; omega)).trans m0
  have e1 := (hb4.cell (p := ⟨w.heap.size, 1, none⟩) (by simp; omega)).trans m1
  have e2 := (hb4.cell (p := ⟨w.heap.size + 1, 0, none⟩) (by simp; omega)).trans m2
  have e3 := (hb4.cell (p := ⟨w.heap.size + 1, 1, none⟩) (by simp; omega)).trans m3
  have f0 := (hb4.frozen (p := ⟨w.heap.size, 0, none⟩) (by simp; omega)).trans g0
  have f1 := (hb4.frozen (p := ⟨w.heap.size, 1, none⟩) (by simp; omega)).trans g1
  have f2 := (hb4.frozen (p := ⟨w.heap.size + 1, 0, none⟩) (by simp; omega)).trans g2
  have f3 := (hb4.frozen (p := ⟨w.heap.size + 1, 1, none⟩) (by simp; omega)).trans g3
  have HOW := Aside0.mk hown
  have HGR := Aside0.mk hgrow
  have HB4 := Aside0.mk hb4
  clear hown hgrow hb4
  refine hK.out _ _ e0 (fun hHeld => ?_)
  clear hK K
  refine norm_ (a' := ?_) ?_ ?_
  rotate_left
  · show Act.put _ (some 34) _ = _
    simp only [Act.put, List.setIfInBounds_toArray, List.set_cons_zero, List.set_cons_succ, i64_w, i32_w]
    rfl
  refine pure_ (i := 13) (N := some 35) (v := ?_) (a' := ?_) #[true, true, true, true, true, true, true, true, true, true, true, true, true, true, false] rfl rfl (by kernel_rfl) (fun _ _ _ h => h) (Or.inl ⟨by rfl, ?_⟩) ?_ ?_
  rotate_left
  · intro w'
    go_simp
    with_reducible rfl
  rotate_left
  · simp only [Act.put, List.setIfInBounds_toArray, List.set_cons_zero, List.set_cons_succ, i64_w, i32_w]
    rfl
  refine last_ (i := 14) (N := none) #[true, true, true, true, true, true, true, true, true, true, true, true, true, true, true] rfl rfl (by kernel_rfl) (by decide) (fun K hK => ?_)
  refine skip_ (w1 := ?_) (by rfl) rfl ?_ ?_
  rotate_left 1
  · go_simp
    rfl
  refine hK.out _ _ ?_
  clear hK K
  refine done_ (by kernel_rfl) ?_
  go_wp2
  have hb34 : Below w3.heap.size w3 w4 := ((Below.refl _ _).alloc (Nat.le_refl _) _).grown HGR.out (by simp) (fun _ h => by cases h)
  have hown4 : ∀ k, some k = (Value.slice A4 (L.length + 1) c4).ownBlock → w3.heap.size + 1 ≤ k := fun k hk => by have := own_base HOW.out k hk.symm; simpa using this
  refine bodyPost_ret (v := .tuple #[.agg #[.slice A4 (L.length + 1) c4, .bool false], .bool true]) (by simp [results, Try.results13, go_sem, e0, e1, e2, e3, f0, f1, f2, f3, hz3]) rfl ⟨_, rfl, ?_, ?_⟩
  · refine Kd.V_mono (ok := fun k => (P k ∧ k < w.heap.size) ∨ w.heap.size + 2 ≤ k) (Kd.V_step (W := w4) ?_ ?_) ?_
    · refine V_of_own (ls := L ++ [x]) (vs := olds ++ [.slice A3 x.length c3]) (by simpa using HOW.out) ?_ ?_ _
      · intro k hk
        have := hown4 k hk.symm
        exact .inr (by omega)
      · intro j l u hl hu
        have ho := HO1.out
        by_cases hj : j < L.length
        · rw [List.getElem?_append_left hj] at hl
          rw [List.getElem?_append_left (by omega)] at hu
          obtain ⟨A5, c5, rfl, h5, hF5⟩ := HO3.out j l u hl hu
          exact ⟨A5, c5, rfl, h5, Kd.F_mono (Kd.F_step hF5 (fun k hk _ => HB4.out.block k (by have := hk.2; omega))) (fun k hk => ⟨.inl hk, fun e => by have := hown4 k e; have := hk.2; omega⟩)⟩
        · have hjl : j = L.length := by have := (List.getElem?_eq_some_iff.1 hl).1; simp at this; omega
          subst hjl
          rw [List.getElem?_append_right (Nat.le_refl _), Nat.sub_self] at hl
          rw [List.getElem?_append_right (by omega), show L.length - olds.length = 0 from by omega] at hu
          simp at hl hu
          subst hl
          subst hu
          exact ⟨A3, c3, rfl, HC3.out, Kd.F_mono (Kd.F_step (Kd.F_bound HF3.out) (fun k hk _ => hb34.block k hk.2)) (fun k hk => ⟨.inr (by have : W2.heap.size ≤ k := hk.1; omega), fun e => by have := hown4 k e; have := hk.2; omega⟩)⟩
    · intro k hk _
      have h1 : k ≠ w.heap.size ∧ k ≠ w.heap.size + 1 := by rcases hk with h | h <;> omega
      rw [Below.heap_setCell _ _ _ k h1.2, Below.heap_setCell _ _ _ k h1.2, Below.heap_setCell _ _ _ k h1.1]
    · rintro k (h | h)
      · exact .inl h.1
      · exact .inr (by omega)
  · exact (((hB2.out.trans (HB4.out.mono (by omega))).setCell (by simp) _).setCell (by simp) _).setCell (by simp) _
theorem chans_Put.calls (k : Nat) (P0_0_ : Nat → Prop) (A0_0 : Option Addr) (c0_0 : Nat) (l0_0 : List (List Int)) (a0_1 : Bool) (P1_ : Nat → Prop) (A1 : Option Addr) (c1 : Nat) (l1 : List Int) (r1 : List (List Int)) (r2 : Bool) (r3 : Bool) (w : World) (hs0_0 : Kd.V (Kd.slice 3 (Kd.int .i64)) 32 w w.heap.size (fun k_ => P0_0_ k_) (.slice A0_0 l0_0.length c0_0) l0_0) (hs1 : Kd.V (Kd.int .i64) 3 w w.heap.size (fun k_ => P1_ k_) (.slice A1 l1.length c1) l1) (h : chans_Put.f k l0_0 a0_1 l1 = some (r1, r2, r3)) :
    Calls Try.prog 13 #[.agg #[.slice A0_0 l0_0.length c0_0, .bool a0_1], .slice A1 l1.length c1] w fun e w' => ∃ v0_ : Value, e = .returned (.tuple #[.agg #[v0_, .bool r2], .bool r3]) ∧ Kd.V (Kd.slice 3 (Kd.int .i64)) 32 w' w.heap.size (fun k_ => ((P0_0_ k_ ∨ P1_ k_) ∨ w.heap.size ≤ k_)) v0_ r1 ∧ Below w.heap.size w w' := by
  have hC := Kd.F_now (Kd.V_F hs0_0)
  have hX := Kd.F_now (Kd.V_F hs1)
  have hcx := (Kd.V_at hs1).2.1
  have e1 := told_of (chans_Put.mono l0_0 a0_1 l1) h (fun k hk => Put_val l0_0 a0_1 l1 hC.2.1 k hk)
  unfold putS at e1
  have h2 := asL_len l0_0
  by_cases hno : asC l0_0 a0_1 = true ∨ (asC l0_0 a0_1 = false ∧ (asL l0_0).length = 2) ∨ (asC l0_0 a0_1 = false ∧ (asL l0_0).length ≠ 2 ∧ fitsB l1 = false)
  · have e2 : (r1, r2, r3) = (asL l0_0, asC l0_0 a0_1, false) := by
      rw [e1]
      rcases hno with h | ⟨h, h2⟩ | ⟨h, h2, h3⟩
      · rw [if_pos h]
      · rw [if_neg (by rw [h]; decide), if_pos h2]
      · rw [if_neg (by rw [h]; decide), if_neg h2, if_neg (by rw [h3]; decide)]
    simp only [Prod.mk.injEq] at e2
    obtain ⟨rfl, rfl, rfl⟩ := e2
    refine (Put_no _ A0_0 c0_0 l0_0 a0_1 A1 c1 l1 w hs0_0 hX hcx hno).mono fun e w' h => ?_
    obtain ⟨A', c', he, hc', hF, hb⟩ := h.out
    exact ⟨_, he, Kd.V_mono (Kd.V_mk hc' hF) (fun _ hk => .inl (.inl hk)), hb⟩
  · have q1 : asC l0_0 a0_1 = false := Bool.eq_false_iff.mpr fun h => hno (.inl h)
    have q2 : (asL l0_0).length ≠ 2 := fun h => hno (.inr (.inl ⟨q1, h⟩))
    have q3 : fitsB l1 = true := by
      cases h : fitsB l1
      · exact absurd (.inr (.inr ⟨q1, q2, h⟩)) hno
      · rfl
    rw [if_neg (by rw [q1]; decide), if_neg q2, if_pos q3] at e1
    simp only [Prod.mk.injEq] at e1
    obtain ⟨rfl, rfl, rfl⟩ := e1
    refine (Put_yes _ A0_0 c0_0 l0_0 a0_1 A1 c1 l1 w hs0_0 hX hcx q1 q2 q3).mono fun e w' h => ?_
    obtain ⟨v, he, hV, hb⟩ := h.out
    exact ⟨v, he, Kd.V_mono hV (fun _ hk => hk.elim (fun h => .inl (.inl h)) .inr), hb⟩
theorem put_C (A : Option Addr) (c : Nat) (l : List (List Int)) (b : Bool) (A1 : Option Addr) (cx : Nat) (x : List Int) (r1 : List (List Int)) (r2 r3 : Bool) (w : World) (hC : Kd.C (Kd.slice 3 (Kd.int .i64)) w A l.length l) (hc : l.length ≤ c) (hX : Kd.C (Kd.int .i64) w A1 x.length x) (hcx : x.length ≤ cx) (hR : putS l b x = (r1, r2, r3)) :
    Calls Try.prog 13 #[.agg #[.slice A l.length c, .bool b], .slice A1 x.length cx] w fun e w' => Aside0 (∃ A' c', e = .returned (.tuple #[.agg #[.slice A' r1.length c', .bool r2], .bool r3]) ∧ r1.length ≤ c' ∧ Kd.C (Kd.slice 3 (Kd.int .i64)) w' A' r1.length r1 ∧ Below w.heap.size w w') := by
  have h := chans_Put.calls (l.length + 1) _ A c l b _ A1 cx x r1 r2 r3 w (Kd.V_mk hc (Kd.C_F (Kd.heap_slice 3 (Kd.heap_int .i64)) hC)) (Kd.V_mk hcx (Kd.C_F (Kd.heap_int .i64) hX)) (by rw [Put_val l b x hC.2.1 _ (by omega), hR])
  refine h.mono fun e w' hh => ?_
  obtain ⟨v, he, hV, hb⟩ := hh
  obtain ⟨A', c', rfl, hc', hF⟩ := hV
  exact ⟨A', c', he, hc', Kd.F_now hF, hb⟩

end Go.Proofs.Ytneomcnfbnfjbaa.Q
