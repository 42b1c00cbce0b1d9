-- Laid by mix.py, a program of this session, with the kit's print.py; walks by hand come out of wip/over.
import Derived.Test.YteemdonegpnkcaaSp
import Derived.Deep.RegionLawGrows
import Derived.Deep.RegionHeld3
import Derived.ArgAppend
import Derived.Deep.Slices
import Derived.Test.YteemdonegpnkcaaQ0
namespace Go.Proofs.Yteemdonegpnkcaa.Q
open Go.RowKit Go.Proofs.YteemdonegpnkcaaW.PrintWords Go.Proofs.YteemdonegpnkcaaW.PrintLast Go.Proofs.YteemdonegpnkcaaW.PrintMore
attribute [local go_sem] max2_int min2_int max_two min_two max_three min_three max_four min_four   -- for this text's walks alone
set_option linter.unusedVariables false
set_option linter.unusedSimpArgs false

/-! ### casing_rules: function 16 -/
def casing_rules.f  : Option ((List (S35))) := some (([(⟨65, 90, 1, 32⟩ : S35), (⟨192, 214, 1, 32⟩ : S35), (⟨216, 222, 1, 32⟩ : S35), (⟨256, 302, 2, 1⟩ : S35), (⟨306, 310, 2, 1⟩ : S35), (⟨313, 327, 2, 1⟩ : S35), (⟨330, 374, 2, 1⟩ : S35), (⟨377, 381, 2, 1⟩ : S35), (⟨416, 420, 2, 1⟩ : S35), (⟨904, 906, 1, 37⟩ : S35), (⟨913, 929, 1, 32⟩ : S35), (⟨931, 939, 1, 32⟩ : S35), (⟨7840, 7928, 2, 1⟩ : S35)] : List (S35)))
set_option maxHeartbeats 8000000 in
set_option maxRecDepth 100000 in
theorem casing_rules.calls  (r : List (S35)) (w : World) (h : casing_rules.f  = some r) :
    Calls Try.prog 16 #[] w fun e w' => ∃ v0_ : Value, e = .returned (v0_) ∧ Kd.R k35 35 w' w.heap.size (fun _ => True) v0_ r ∧ Below w.heap.size w w' := by
  have hu35 := Try.underlying35
  have HB := Aside0.mk (Below.refl w.heap.size w)
  have H : (some (([(⟨65, 90, 1, 32⟩ : S35), (⟨192, 214, 1, 32⟩ : S35), (⟨216, 222, 1, 32⟩ : S35), (⟨256, 302, 2, 1⟩ : S35), (⟨306, 310, 2, 1⟩ : S35), (⟨313, 327, 2, 1⟩ : S35), (⟨330, 374, 2, 1⟩ : S35), (⟨377, 381, 2, 1⟩ : S35), (⟨416, 420, 2, 1⟩ : S35), (⟨904, 906, 1, 37⟩ : S35), (⟨913, 929, 1, 32⟩ : S35), (⟨931, 939, 1, 32⟩ : S35), (⟨7840, 7928, 2, 1⟩ : S35)] : List (S35)))) = some r := h
  clear h
  obtain ⟨y101, hy101⟩ : ∃ y_ : List (S35), y_ = (([(⟨65, 90, 1, 32⟩ : S35), (⟨192, 214, 1, 32⟩ : S35), (⟨216, 222, 1, 32⟩ : S35), (⟨256, 302, 2, 1⟩ : S35), (⟨306, 310, 2, 1⟩ : S35), (⟨313, 327, 2, 1⟩ : S35), (⟨330, 374, 2, 1⟩ : S35), (⟨377, 381, 2, 1⟩ : S35), (⟨416, 420, 2, 1⟩ : S35), (⟨904, 906, 1, 37⟩ : S35), (⟨913, 929, 1, 32⟩ : S35), (⟨931, 939, 1, 32⟩ : S35), (⟨7840, 7928, 2, 1⟩ : S35)] : List (S35))) := ⟨_, rfl⟩
  replace H : (some y101) = some r := by first | (rw [hy101]; with_reducible exact H) | (have H2_ := (Option.bind_some _ _).symm.trans H; rw [hy101]; with_reducible exact H2_) | (have H2_ := (Option.bind_some _ _).symm.trans H; with_reducible exact H2_) | with_reducible exact H | (rw [hy101]; exact H) | exact H
  have Ny101 := Aside0.mk hy101
  clear hy101
  obtain rfl := Option.some.inj H
  go_enter Try.func16, Try.ntmps16
  go_wp2_with (first | ((with_reducible refine gate_dst (N := 14) rfl ?_); refine Kd.R_lit k35 _ 35 ?hg (N := 14) ?hd (xs := ([(⟨65, 90, 1, 32⟩ : S35), (⟨192, 214, 1, 32⟩ : S35), (⟨216, 222, 1, 32⟩ : S35), (⟨256, 302, 2, 1⟩ : S35), (⟨306, 310, 2, 1⟩ : S35), (⟨313, 327, 2, 1⟩ : S35), (⟨330, 374, 2, 1⟩ : S35), (⟨377, 381, 2, 1⟩ : S35), (⟨416, 420, 2, 1⟩ : S35), (⟨904, 906, 1, 37⟩ : S35), (⟨913, 929, 1, 32⟩ : S35), (⟨931, 939, 1, 32⟩ : S35), (⟨7840, 7928, 2, 1⟩ : S35)] : List (S35))) (inner := [.int .i64 65, .int .i64 90, .int .i64 1, .int .i64 32, .int .i64 192, .int .i64 214, .int .i64 1, .int .i64 32, .int .i64 216, .int .i64 222, .int .i64 1, .int .i64 32, .int .i64 256, .int .i64 302, .int .i64 2, .int .i64 1, .int .i64 306, .int .i64 310, .int .i64 2, .int .i64 1, .int .i64 313, .int .i64 327, .int .i64 2, .int .i64 1, .int .i64 330, .int .i64 374, .int .i64 2, .int .i64 1, .int .i64 377, .int .i64 381, .int .i64 2, .int .i64 1, .int .i64 416, .int .i64 420, .int .i64 2, .int .i64 1, .int .i64 904, .int .i64 906, .int .i64 1, .int .i64 37, .int .i64 913, .int .i64 929, .int .i64 1, .int .i64 32, .int .i64 931, .int .i64 939, .int .i64 1, .int .i64 32, .int .i64 7840, .int .i64 7928, .int .i64 2, .int .i64 1]) (ok := fun _ => True) (okp := fun _ => True) ?hr ?hp (fun _ hk => hk) trivial (Below.refl _ _) (Nat.le_refl _) (by simp) ?_; (case hd => rfl); (case hg => rfl); (case hr => first | (go_simp; done) | (go_simp; rfl)); (case hp => exact (Reps.c4 (show Kd.M k35 _ _ _ (⟨65, 90, 1, 32⟩ : S35) [.int .i64 65, .int .i64 90, .int .i64 1, .int .i64 32] from (k35_mkM _ _ _ (⟨65, 90, 1, 32⟩ : S35) )) (Reps.c4 (show Kd.M k35 _ _ _ (⟨192, 214, 1, 32⟩ : S35) [.int .i64 192, .int .i64 214, .int .i64 1, .int .i64 32] from (k35_mkM _ _ _ (⟨192, 214, 1, 32⟩ : S35) )) (Reps.c4 (show Kd.M k35 _ _ _ (⟨216, 222, 1, 32⟩ : S35) [.int .i64 216, .int .i64 222, .int .i64 1, .int .i64 32] from (k35_mkM _ _ _ (⟨216, 222, 1, 32⟩ : S35) )) (Reps.c4 (show Kd.M k35 _ _ _ (⟨256, 302, 2, 1⟩ : S35) [.int .i64 256, .int .i64 302, .int .i64 2, .int .i64 1] from (k35_mkM _ _ _ (⟨256, 302, 2, 1⟩ : S35) )) (Reps.c4 (show Kd.M k35 _ _ _ (⟨306, 310, 2, 1⟩ : S35) [.int .i64 306, .int .i64 310, .int .i64 2, .int .i64 1] from (k35_mkM _ _ _ (⟨306, 310, 2, 1⟩ : S35) )) (Reps.c4 (show Kd.M k35 _ _ _ (⟨313, 327, 2, 1⟩ : S35) [.int .i64 313, .int .i64 327, .int .i64 2, .int .i64 1] from (k35_mkM _ _ _ (⟨313, 327, 2, 1⟩ : S35) )) (Reps.c4 (show Kd.M k35 _ _ _ (⟨330, 374, 2, 1⟩ : S35) [.int .i64 330, .int .i64 374, .int .i64 2, .int .i64 1] from (k35_mkM _ _ _ (⟨330, 374, 2, 1⟩ : S35) )) (Reps.c4 (show Kd.M k35 _ _ _ (⟨377, 381, 2, 1⟩ : S35) [.int .i64 377, .int .i64 381, .int .i64 2, .int .i64 1] from (k35_mkM _ _ _ (⟨377, 381, 2, 1⟩ : S35) )) (Reps.c4 (show Kd.M k35 _ _ _ (⟨416, 420, 2, 1⟩ : S35) [.int .i64 416, .int .i64 420, .int .i64 2, .int .i64 1] from (k35_mkM _ _ _ (⟨416, 420, 2, 1⟩ : S35) )) (Reps.c4 (show Kd.M k35 _ _ _ (⟨904, 906, 1, 37⟩ : S35) [.int .i64 904, .int .i64 906, .int .i64 1, .int .i64 37] from (k35_mkM _ _ _ (⟨904, 906, 1, 37⟩ : S35) )) (Reps.c4 (show Kd.M k35 _ _ _ (⟨913, 929, 1, 32⟩ : S35) [.int .i64 913, .int .i64 929, .int .i64 1, .int .i64 32] from (k35_mkM _ _ _ (⟨913, 929, 1, 32⟩ : S35) )) (Reps.c4 (show Kd.M k35 _ _ _ (⟨931, 939, 1, 32⟩ : S35) [.int .i64 931, .int .i64 939, .int .i64 1, .int .i64 32] from (k35_mkM _ _ _ (⟨931, 939, 1, 32⟩ : S35) )) (Reps.c4 (show Kd.M k35 _ _ _ (⟨7840, 7928, 2, 1⟩ : S35) [.int .i64 7840, .int .i64 7928, .int .i64 2, .int .i64 1] from (k35_mkM _ _ _ (⟨7840, 7928, 2, 1⟩ : S35) )) (Reps.none _ _))))))))))))))); intro v102 w1 ho2 hb hg_ hnew_; clear hg_ hnew_; (first | rw [← Ny101.out] at ho2 | (simp only [Int.reduceToNat] at ho2; rw [← Ny101.out] at ho2)); have n0_ := Aside0.mk (Kd.R_lower ho2 (below_size (by repeat (first | (with_reducible first | exact HB.out | apply below_alloc | apply pw_below_drewN | apply below_drew1) | exact HB.out)))); have n1_ := Aside0.mk (below_step (by repeat (first | (with_reducible first | exact HB.out | apply below_alloc | apply pw_below_drewN | apply below_drew1) | exact HB.out)) hb); clear HB; have HO103 := n0_; have HB := n1_; clear n0_ n1_; clear hb ho2))
  go_ret
  exact ⟨_, by first | rfl | (simp [errW_none, errW_some] <;> rfl) | (simp [*, errW_none, errW_some] <;> rfl), by (with_reducible repeat (first | apply Kd.R_alloc | apply Kd.R_drewN | apply Kd.R_drew)); exact HO103.out, by repeat (first | (with_reducible first | exact HB.out | apply below_alloc | apply pw_below_drewN | apply below_drew1) | exact HB.out)⟩

/-! ### casing_Fold: function 9 -/
def casing_Fold.l0 : Nat → Int → List (S35) → Int → Int → Option (List Int)
  | 0, _, _, _, _ => none
  | k + 1, x0, x16, x17, x18 => if x18 < x17 then (if 0 ≤ x18 then (if x18 < (x16.length : Int) then (if x0 ≥ ((rd_T35 x16 x18).f0) then (if x0 ≤ ((rd_T35 x16 x18).f1) then (if ((rd_T35 x16 x18).f2) = 0 then (none) else (if (Int.tmod (wrap64 (x0 - ((rd_T35 x16 x18).f0))) ((rd_T35 x16 x18).f2)) = 0 then (some (([wrap64 (x0 + ((rd_T35 x16 x18).f3))] : List Int))) else (casing_Fold.l0 k x0 x16 x17 (wrap64 (x18 + 1))))) else (casing_Fold.l0 k x0 x16 x17 (wrap64 (x18 + 1)))) else (casing_Fold.l0 k x0 x16 x17 (wrap64 (x18 + 1)))) else (none)) else (none)) else (some (([x0] : List Int)))
def casing_Fold.f (k : Nat) (a0 : Int) : Option (List Int) := if (wrap64 (a0 + 0)) = a0 then (if a0 = 181 then (some (([956] : List Int))) else (if a0 = 223 then (some (([115, 115] : List Int))) else (if a0 = 304 then (some (([105, 775] : List Int))) else (if a0 = 329 then (some (([700, 110] : List Int))) else (if a0 = 376 then (some (([255] : List Int))) else (if a0 = 383 then (some (([115] : List Int))) else (if a0 = 422 then (some (([640] : List Int))) else (if a0 = 423 then (some (([424] : List Int))) else (if a0 = 425 then (some (([643] : List Int))) else (if a0 = 428 then (some (([429] : List Int))) else (if a0 = 430 then (some (([648] : List Int))) else (if a0 = 431 then (some (([432] : List Int))) else (if a0 = 837 then (some (([953] : List Int))) else (if a0 = 902 then (some (([940] : List Int))) else (if a0 = 908 then (some (([972] : List Int))) else (if a0 = 910 then (some (([973] : List Int))) else (if a0 = 911 then (some (([974] : List Int))) else (if a0 = 912 then (some (([953, 776, 769] : List Int))) else (if a0 = 944 then (some (([965, 776, 769] : List Int))) else (if a0 = 962 then (some (([963] : List Int))) else ((casing_rules.f).bind fun t164 => (casing_Fold.l0 k a0 t164 (t164.length : Int) 0)))))))))))))))))))))) else (if 0 = 0 then (none) else (some ([] : List Int)))
theorem casing_Fold.mono_l : ∀ k, (∀ y0 y1 y2 y3, LeO (casing_Fold.l0 k y0 y1 y2 y3) (casing_Fold.l0 (k + 1) y0 y1 y2 y3))
  | 0 => fun _ _ _ _ r h => by simp [casing_Fold.l0] at h
  | k + 1 => by
    have ih0 := casing_Fold.mono_l k
    · intro y0 y1 y2 y3
      unfold casing_Fold.l0
      repeat' first
      | (with_reducible exact ih0 _ _ _ _)
      | (with_reducible exact LeO.refl _)
      | (with_reducible exact LeO.none _)
      | (with_reducible refine LeO.ite ?_ ?_)
      | (with_reducible refine LeO.bind ?_ (fun _ => ?_))
      | exact ih0 _ _ _ _
      | exact LeO.none _
      | refine LeO.ite ?_ ?_
      | refine LeO.bind ?_ (fun _ => ?_)
theorem casing_Fold.mono : ∀ a0 k, LeO (casing_Fold.f k a0) (casing_Fold.f (k + 1) a0) := by
  intro a0 k
  have ih0 := casing_Fold.mono_l k
  unfold casing_Fold.f
  repeat' first
      | (with_reducible exact ih0 _ _ _ _)
      | (with_reducible exact LeO.refl _)
      | (with_reducible exact LeO.none _)
      | (with_reducible refine LeO.ite ?_ ?_)
      | (with_reducible refine LeO.bind ?_ (fun _ => ?_))
      | exact ih0 _ _ _ _
      | exact LeO.none _
      | refine LeO.ite ?_ ?_
      | refine LeO.bind ?_ (fun _ => ?_)
-- import Derived.Test.YteemdonegpnkcaaSp
-- import Derived.Deep.RegionLawGrows
-- import Derived.Deep.RegionHeld3
-- import Derived.ArgAppend
-- import Derived.Deep.Slices
set_option maxHeartbeats 1000000 in
/-- A copy of a row that has elements. -/
theorem clone_on (ad : Addr) (c : Nat) (l : List Int) (w : World) (hC : Kd.C (Kd.int .i64) w (some ad) l.length l) (hc : l.length ≤ c) (h0 : 0 < l.length) (h8 : l.length ≤ 1000000) :
    Calls Try.prog 15 #[.slice (some ad) l.length c] w fun e w' => Aside0 (∃ v, e = .returned v ∧ Kd.R (Kd.int .i64) 3 w' w.heap.size (fun _ => True) v l ∧ Below w.heap.size w w') := by
  obtain ⟨i3, hi3, hz3, hsz3, hby3⟩ := info_parts info3
  have heq : ∀ w, (binOp .eql 22 (.slice (some ad) l.length c) (.slice none 0 0)).run Try.prog w = .ok (.bool false) w := fun _ => by kernel_rfl
  have hrd := Kd.reads_of_C (enc := Value.int .i64) (d := (0 : Int)) (h1 := fun _ => rfl) hC
  have HC := Aside0.mk hrd
  clear hC hrd
  have hcells : ∀ j u, (nums .i64 l)[j]? = some u → (w.alloc (.cells #[] 3)).cell? (ad.add j) = some u := by
    intro j u hj
    obtain ⟨ad', e, hcl⟩ := HC.out.2.2 h0
    injection e with e
    subst e
    have hjl : j < l.length := by
      rcases Nat.lt_or_ge j l.length with h | h
      · exact h
      · rw [List.getElem?_eq_none (by rw [nums_length]; exact h)] at hj; cases hj
    have h2 := hcl j hjl
    rw [World.cell?_alloc_lt w _ _ (World.block_lt_of_cell? w _ h2), h2]
    rw [nums, List.getElem?_map, List.getElem?_eq_getElem hjl] at hj
    simp at hj
    subst hj
    simp [List.getD_eq_getElem?_getD, List.getElem?_eq_getElem hjl]
  have HCC := Aside0.mk hcells
  clear hcells
  go_enter Try.func15, Try.ntmps15
  go_wp2_with (at_builtin; refine wpList_append_grows _ rfl (.tmp 5) (.tmp 6) 22 rfl 3 i3 (.int .i64 0) 1 8 Try.underlying22 hi3 hz3 hsz3 hby3 rfl (by decide) (some ⟨w.heap.size, 0, none⟩) 0 0 [] (by simp [Act.eval]) (by simp) rfl (fun _ _ j u hj => by simp at hj) ad l.length c (nums .i64 l) (by simp [Act.eval]) (by rw [nums_length]; omega) HCC.out (by simp [nums, Value.oneCell']) (by omega) (by unfold maxLen; omega) (by omega) ?_; intro v' w1 hown hgrow; simp only [Nat.zero_add, List.nil_append] at hown; have HO := Aside0.mk hown; have HG := Aside0.mk hgrow; clear hown hgrow)
  obtain ⟨A', c', rfl⟩ := own_slice HO.out
  go_ret
  have hR := Kd.R_of_own (enc := Value.int .i64) (h1 := fun _ => rfl) (ok := fun _ => True) (e := 3) (xs := l) HO.out (fun _ _ => trivial)
  exact ⟨⟨_, rfl, Kd.R_lower hR (by simp), (below_alloc (Below.refl _ _) _).grown HG.out (by simp) (fun _ h => by cases h)⟩⟩
theorem look_ne {a k : Int} {xs : List Int} {t : List (Int × List Int)} (h : a ≠ k) : ((k, xs) :: t).lookup a = t.lookup a := by
  have h2 : (a == k) = false := beq_eq_false_iff_ne.mpr h
  simp only [List.lookup, h2]
theorem fold_eq (k : Nat) (a0 : Int) (hw : wrap64 (a0 + 0) = a0) : casing_Fold.f k a0 = match Sp.sp.lookup a0 with | some xs => some xs | none => (casing_rules.f).bind fun t104 => (casing_Fold.l0 k a0 t104 (t104.length : Int) 0) := by
  unfold casing_Fold.f Sp.sp
  rw [if_pos hw]
  by_cases h0 : a0 = 181
  · subst h0; rfl
  rw [if_neg h0, look_ne h0]
  by_cases h1 : a0 = 223
  · subst h1; rfl
  rw [if_neg h1, look_ne h1]
  by_cases h2 : a0 = 304
  · subst h2; rfl
  rw [if_neg h2, look_ne h2]
  by_cases h3 : a0 = 329
  · subst h3; rfl
  rw [if_neg h3, look_ne h3]
  by_cases h4 : a0 = 376
  · subst h4; rfl
  rw [if_neg h4, look_ne h4]
  by_cases h5 : a0 = 383
  · subst h5; rfl
  rw [if_neg h5, look_ne h5]
  by_cases h6 : a0 = 422
  · subst h6; rfl
  rw [if_neg h6, look_ne h6]
  by_cases h7 : a0 = 423
  · subst h7; rfl
  rw [if_neg h7, look_ne h7]
  by_cases h8 : a0 = 425
  · subst h8; rfl
  rw [if_neg h8, look_ne h8]
  by_cases h9 : a0 = 428
  · subst h9; rfl
  rw [if_neg h9, look_ne h9]
  by_cases h10 : a0 = 430
  · subst h10; rfl
  rw [if_neg h10, look_ne h10]
  by_cases h11 : a0 = 431
  · subst h11; rfl
  rw [if_neg h11, look_ne h11]
  by_cases h12 : a0 = 837
  · subst h12; rfl
  rw [if_neg h12, look_ne h12]
  by_cases h13 : a0 = 902
  · subst h13; rfl
  rw [if_neg h13, look_ne h13]
  by_cases h14 : a0 = 908
  · subst h14; rfl
  rw [if_neg h14, look_ne h14]
  by_cases h15 : a0 = 910
  · subst h15; rfl
  rw [if_neg h15, look_ne h15]
  by_cases h16 : a0 = 911
  · subst h16; rfl
  rw [if_neg h16, look_ne h16]
  by_cases h17 : a0 = 912
  · subst h17; rfl
  rw [if_neg h17, look_ne h17]
  by_cases h18 : a0 = 944
  · subst h18; rfl
  rw [if_neg h18, look_ne h18]
  by_cases h19 : a0 = 962
  · subst h19; rfl
  rw [if_neg h19, look_ne h19]
  rfl
theorem fold_wf {k : Nat} {a0 : Int} {r : List Int} (h : casing_Fold.f k a0 = some r) : wrap64 (a0 + 0) = a0 := by
  by_cases hw : wrap64 (a0 + 0) = a0
  · exact hw
  · unfold casing_Fold.f at h; rw [if_neg hw] at h; simp at h
theorem fold_int {a0 : Int} (h : wrap64 (a0 + 0) = a0) : (Lit.int .i64 a0).wf = true := by
  have h2 : -9223372036854775808 ≤ a0 ∧ a0 ≤ 9223372036854775807 := by unfold wrap64 at h; omega
  have m1 : IntKind.min .i64 = -9223372036854775808 := by decide
  have m2 : IntKind.max .i64 = 9223372036854775807 := by decide
  simp only [Lit.wf, Bool.and_eq_true, decide_eq_true_eq]
  rw [m1, m2]
  exact h2
theorem zero22 (w : World) : (zeroValue 22).run Try.prog w = .ok (.slice none 0 0) w := by kernel_rfl
set_option maxHeartbeats 8000000 in
set_option maxRecDepth 100000 in
theorem fold_found (a0 : Int) (r : List Int) (w : World) (hwf : (Lit.int .i64 a0).wf = true) (hlook : Sp.sp.lookup a0 = some r) :
    Calls Try.prog 9 #[.int .i64 a0] w fun e w' => ∃ v0_ : Value, e = .returned (v0_) ∧ Kd.R (Kd.int .i64) 3 w' w.heap.size (fun _ => True) v0_ r ∧ Below w.heap.size w w' := by
  have HB := Aside0.mk (Below.refl w.heap.size w)
  go_enter Try.func9, Try.ntmps9
  go_wp2_with (first | (go_at_call 14; refine (Sp.sp_open _).mono ?_; rintro e w1 ⟨⟨rfl, I0⟩⟩; have HB2 := Aside0.mk I0.below; clear HB; have HB := HB2; clear HB2) | (at_lookup; refine wpList_lookup_own_ok _ rfl _ _ 30 rfl 3 22 Sp.keyed Try.underlying30 _ (zero22 _) .nil [] rfl _ 20 _ rfl I0.own _ _ rfl (Go.Maps.keyOf_int_mk Try.underlying3 hwf) ?_; intro v ps hv; rw [Sp.spD_all, (Sp.look_list a0 Sp.sp).1, hlook] at hv; rw [Sp.spD_all, (Sp.look_list a0 Sp.sp).2, hlook]; obtain ⟨i, q, hq, hq2, rfl⟩ := Sp.rdv_row hv) | (go_at_call 15; refine (clone_on _ _ _ _ (Sp.row_C I0 hq hq2) (Nat.le_refl _) (Sp.row_len hq hq2).1 (Sp.row_len hq hq2).2).mono ?_; rintro e w2 ⟨⟨v2, rfl, hR, hb2⟩⟩))
  go_ret
  exact ⟨_, rfl, Kd.R_lower hR I0.below.size, below_step HB.out hb2⟩
set_option maxHeartbeats 8000000 in
set_option maxRecDepth 100000 in
theorem fold_rules (k : Nat) (a0 : Int) (r : List Int) (w : World) (hwf : (Lit.int .i64 a0).wf = true) (hlook : Sp.sp.lookup a0 = none) (h : ((casing_rules.f).bind fun t104 => (casing_Fold.l0 k a0 t104 (t104.length : Int) 0)) = some r) :
    Calls Try.prog 9 #[.int .i64 a0] w fun e w' => ∃ v0_ : Value, e = .returned (v0_) ∧ Kd.R (Kd.int .i64) 3 w' w.heap.size (fun _ => True) v0_ r ∧ Below w.heap.size w w' := by
  have hu35 := Try.underlying35
  have HB := Aside0.mk (Below.refl w.heap.size w)
  have H : ((casing_rules.f).bind fun t104 => (casing_Fold.l0 k a0 t104 (t104.length : Int) 0)) = some r := h
  clear h
  replace H := Option.bind_eq_some_iff.mp H
  obtain ⟨t104, A20, H⟩ := H
  replace H : (casing_Fold.l0 k a0 t104 (t104.length : Int) 0) = some r := H
  have A2 := Aside0.mk A20
  clear A20
  have H' := Aside0.mk H
  clear H
  go_enter Try.func9, Try.ntmps9
  go_wp2_with (first | (go_at_call 14; refine (Sp.sp_open _).mono ?_; rintro e w1 ⟨⟨rfl, I0⟩⟩; have HB2 := Aside0.mk I0.below; clear HB; have HB := HB2; clear HB2) | (at_lookup; refine wpList_lookup_own_ok _ rfl _ _ 30 rfl 3 22 Sp.keyed Try.underlying30 _ (zero22 _) .nil [] rfl _ 20 _ rfl I0.own _ _ rfl (Go.Maps.keyOf_int_mk Try.underlying3 hwf) ?_; intro v ps hv; rw [Sp.spD_all, (Sp.look_list a0 Sp.sp).1, hlook] at hv; rw [Sp.spD_all, (Sp.look_list a0 Sp.sp).2, hlook]; obtain rfl := Sp.rdv_nil hv) | ((with_reducible refine gate_callee (f := 16) rfl ?_); refine goesL_ (some 16) rfl rfl Try.func16 (by kernel_rfl) rfl #[] rfl (by (try simp only [List.map_toArray, List.map_cons, List.map_nil]); first | done | rfl | (simp only [List.length_drop, List.length_take]; rfl)) ?_; (with_reducible refine (casing_rules.calls  t104 _ A2.out).mono ?_); rintro e w3 ⟨v105, rfl, ho0, hb⟩; refine ⟨_, rfl, ?_⟩; have n0_ := Aside0.mk (Kd.R_lower ho0 (below_size (by repeat (first | (with_reducible first | exact HB.out | apply below_alloc | apply pw_below_drewN | apply below_drew1) | exact HB.out)))); have n1_ := Aside0.mk (below_step (by repeat (first | (with_reducible first | exact HB.out | apply below_alloc | apply pw_below_drewN | apply below_drew1) | exact HB.out)) hb); clear HB; have HO106 := n0_; have HB := n1_; clear n0_ n1_; (try clear hb); (try clear hb2); (try clear hk); (try clear hi); (try clear ho0); obtain ⟨Ao4, co4, eo4⟩ := Kd.R_slice HO106.out; subst eo4))
  go_loopg [18] k (fun kq v18 w' => ∃ (x18_1 : Int), v18 = .int .i64 x18_1 ∧ Aside0 (casing_Fold.l0 kq a0 t104 (t104.length : Int) x18_1 = some r) ∧ Aside0 (kq ≤ k) ∧ Aside0 (Kd.R k35 35 w' w.heap.size (fun _ => True) (.slice Ao4 t104.length co4) t104) ∧ Aside0 (Below w.heap.size w w'))
  case atStart => exact ⟨(0), (by first | rfl | (simp; done) | (simp [*]; done)), H', ⟨Nat.le_refl _⟩, ⟨by (with_reducible repeat (first | apply Kd.R_alloc | apply Kd.R_drewN | apply Kd.R_drew)); exact HO106.out⟩, ⟨by repeat (first | (with_reducible first | exact HB.out | apply below_alloc | apply pw_below_drewN | apply below_drew1) | exact HB.out)⟩⟩
  case round =>
    clear H'
    try clear c1
    try clear p2
    obtain ⟨x18_1, rfl, HA, HK1, HO_16, HB⟩ := hrel
    cases gk with
    | zero => exact absurd HA.out (by simp [casing_Fold.l0])
    | succ k1 =>
      have H := HA.out
      clear HA
      simp only [casing_Fold.l0] at H
      by_cases c5 : x18_1 < (t104.length : Int)
      · rw [if_pos c5] at H
        have c5b0 : decide (x18_1 < (t104.length : Int)) = true := decide_eq_true c5
        clear c5
        by_cases c6 : 0 ≤ x18_1
        · rw [if_pos c6] at H
          have c6b0 : decide (0 ≤ x18_1) = true := decide_eq_true c6
          clear c6
          by_cases c7 : x18_1 < (t104.length : Int)
          · rw [if_pos c7] at H
            have c7b0 : decide (x18_1 < (t104.length : Int)) = true := decide_eq_true c7
            clear c7
            by_cases c8 : a0 ≥ ((rd_T35 t104 x18_1).f0)
            · rw [if_pos c8] at H
              have c8b0 : decide (((rd_T35 t104 x18_1).f0) ≤ a0) = true := decide_eq_true c8
              clear c8
              by_cases c9 : a0 ≤ ((rd_T35 t104 x18_1).f1)
              · rw [if_pos c9] at H
                have c9b0 : decide (a0 ≤ ((rd_T35 t104 x18_1).f1)) = true := decide_eq_true c9
                clear c9
                by_cases c10 : ((rd_T35 t104 x18_1).f2) = 0
                · rw [if_pos c10] at H
                  exact absurd H (by simp)
                · rw [if_neg c10] at H
                  have c10b0 : (((rd_T35 t104 x18_1).f2) == 0) = false := beq_eq_false_iff_ne.mpr c10
                  have c10b1 : (((rd_T35 t104 x18_1).f2) != 0) = true := bne_iff_ne.mpr c10
                  by_cases c11 : (Int.tmod (wrap64 (a0 - ((rd_T35 t104 x18_1).f0))) ((rd_T35 t104 x18_1).f2)) = 0
                  · rw [if_pos c11] at H
                    have c11b0 : ((Int.tmod (wrap64 (a0 - ((rd_T35 t104 x18_1).f0))) ((rd_T35 t104 x18_1).f2)) == 0) = true := beq_iff_eq.mpr c11
                    have c11b1 : ((Int.tmod (wrap64 (a0 - ((rd_T35 t104 x18_1).f0))) ((rd_T35 t104 x18_1).f2)) != 0) = false := bne_eq_false_iff_eq.mpr c11
                    clear c11
                    obtain ⟨y109, hy109⟩ : ∃ y_ : List Int, y_ = (([wrap64 (a0 + ((rd_T35 t104 x18_1).f3))] : List Int)) := ⟨_, rfl⟩
                    replace H : (some y109) = some r := by first | (rw [hy109]; with_reducible exact H) | (have H2_ := (Option.bind_some _ _).symm.trans H; rw [hy109]; with_reducible exact H2_) | (have H2_ := (Option.bind_some _ _).symm.trans H; with_reducible exact H2_) | with_reducible exact H | (rw [hy109]; exact H) | exact H
                    have Ny109 := Aside0.mk hy109
                    clear hy109
                    obtain rfl := Option.some.inj H
                    have p107 : 0 ≤ (x18_1 : Int) := of_decide_eq_true (by first | (with_reducible assumption) | assumption)
                    have q107 : x18_1 < (t104.length : Int) := of_decide_eq_true (by first | (with_reducible assumption) | assumption)
                    obtain ⟨ad107, e107, hx107_0, hx107_1, hx107_2, hx107_3⟩ := at_T35 (Kd.R_reads' HO_16.out).2.2 x18_1 p107 q107
                    cases e107
                    replace p107 := eq_true p107
                    replace q107 := eq_true q107
                    go_wp2_with (first | ((with_reducible refine gate_dst (N := 6) rfl ?_); refine box_event ?hg (N := 6) ?hd (cs := #[.int .i64 0, .int .i64 0, .int .i64 0, .int .i64 0]) (t := 35) ?hr ?_; (case hd => rfl); (case hg => rfl); (case hr => first | (go_simp; done) | (go_simp; rfl)); intro gb108 hg w12 hbox hb; have n0_ := Aside0.mk (Kd.R_below (Kd.R_elderB (by (with_reducible repeat (first | apply Kd.R_alloc | apply Kd.R_drewN | apply Kd.R_drew)); exact HO_16.out) gb108 (Nat.le_of_eq hg.symm)) hb); have n1_ := Aside0.mk (below_step (by repeat (first | (with_reducible first | exact HB.out | apply below_alloc | apply pw_below_drewN | apply below_drew1) | exact HB.out)) hb); have n2_ := Aside0.mk (hbox); have n3_ := Aside0.mk ((by rw [hg]; exact (below_size (by repeat (first | (with_reducible first | exact HB.out | apply below_alloc | apply pw_below_drewN | apply below_drew1) | exact HB.out))) : w.heap.size ≤ gb108)); have n4_ := Aside0.mk ((by rw [hg]; exact (below_size (by repeat (first | (with_reducible first | exact HB.out | apply below_alloc | apply pw_below_drewN | apply below_drew1) | exact HB.out))) : w.heap.size ≤ gb108)); clear HO_16; clear HB; have HO_16 := n0_; have HB := n1_; have BK108 := n2_; have GW108 := n3_; have GE108 := n4_; clear n0_ n1_ n2_ n3_ n4_; clear hb hbox hg; have hcz13_0 : w12.cell? ⟨gb108, 0, none⟩ = some (.int .i64 0) := (blk_cell BK108.out 0).trans rfl; have hcz13_1 : w12.cell? ⟨gb108, 1, none⟩ = some (.int .i64 0) := (blk_cell BK108.out 1).trans rfl; have hcz13_2 : w12.cell? ⟨gb108, 2, none⟩ = some (.int .i64 0) := (blk_cell BK108.out 2).trans rfl; have hcz13_3 : w12.cell? ⟨gb108, 3, none⟩ = some (.int .i64 0) := (blk_cell BK108.out 3).trans rfl; have hfz13_0 := blk_frozen BK108.out 0; have hfz13_1 := blk_frozen BK108.out 1; have hfz13_2 := blk_frozen BK108.out 2; have hfz13_3 := blk_frozen BK108.out 3) | ((with_reducible refine gate_dst (N := 46) rfl ?_); refine Kd.R_lit (Kd.int .i64) _ 3 ?hg (N := 46) ?hd (xs := ([wrap64 (a0 + ((rd_T35 t104 x18_1).f3))] : List Int)) (inner := [.int .i64 (wrap64 (a0 + ((rd_T35 t104 x18_1).f3)))]) (ok := fun _ => True) (okp := fun _ => True) ?hr ?hp (fun _ hk => hk) trivial (Below.refl _ _) (Nat.le_refl _) (by simp) ?_; (case hd => rfl); (case hg => rfl); (case hr => first | (go_simp; done) | (go_simp; rfl)); (case hp => exact (Reps.one (show Kd.M (Kd.int .i64) _ _ _ (wrap64 (a0 + ((rd_T35 t104 x18_1).f3))) [.int .i64 (wrap64 (a0 + ((rd_T35 t104 x18_1).f3)))] from rfl) (Reps.none _ _))); intro v110 w14 ho15 hb hg_ hnew_; clear hg_ hnew_; (first | rw [← Ny109.out] at ho15 | (simp only [Int.reduceToNat] at ho15; rw [← Ny109.out] at ho15)); have n0_ := Aside0.mk (Kd.R_below (by (with_reducible repeat (first | apply Kd.R_alloc | apply Kd.R_drewN | apply Kd.R_drew)); exact (Kd.R_mono (Kd.R_far (p := ⟨gb108, 3, none⟩) (Kd.R_far (p := ⟨gb108, 2, none⟩) (Kd.R_far (p := ⟨gb108, 1, none⟩) (Kd.R_far (p := ⟨gb108, 0, none⟩) (Kd.R_mono HO_16.out (fun k_ hk => (⟨hk, hk.2⟩ : _ ∧ k_ ≠ gb108))) (fun _ hk => hk.2) (.int .i64 ((rd_T35 t104 x18_1).f0))) (fun _ hk => hk.2) (.int .i64 ((rd_T35 t104 x18_1).f1))) (fun _ hk => hk.2) (.int .i64 ((rd_T35 t104 x18_1).f2))) (fun _ hk => hk.2) (.int .i64 ((rd_T35 t104 x18_1).f3))) (fun _ h_ => h_.1))) hb); have n1_ := Aside0.mk (Kd.R_lower ho15 (below_size (by repeat (first | (with_reducible first | exact HB.out | apply below_alloc | apply pw_below_drewN | apply below_drew1 | refine below_set ?_ GE108.out) | exact HB.out)))); have n2_ := Aside0.mk (blk_below (g := gb108) (o := .cells #[.int .i64 ((rd_T35 t104 x18_1).f0), .int .i64 ((rd_T35 t104 x18_1).f1), .int .i64 ((rd_T35 t104 x18_1).f2), .int .i64 ((rd_T35 t104 x18_1).f3)] 35 (0, 0)) (by (with_reducible repeat (first | refine blk_drewN ?_ _ | refine blk_drew ?_ | refine blk_alloc ?_ _)); refine blk_put (cs := #[.int .i64 ((rd_T35 t104 x18_1).f0), .int .i64 ((rd_T35 t104 x18_1).f1), .int .i64 ((rd_T35 t104 x18_1).f2), .int .i64 0]) ?_ 3 _ rfl; (with_reducible repeat (first | refine blk_drewN ?_ _ | refine blk_drew ?_ | refine blk_alloc ?_ _)); refine blk_put (cs := #[.int .i64 ((rd_T35 t104 x18_1).f0), .int .i64 ((rd_T35 t104 x18_1).f1), .int .i64 0, .int .i64 0]) ?_ 2 _ rfl; (with_reducible repeat (first | refine blk_drewN ?_ _ | refine blk_drew ?_ | refine blk_alloc ?_ _)); refine blk_put (cs := #[.int .i64 ((rd_T35 t104 x18_1).f0), .int .i64 0, .int .i64 0, .int .i64 0]) ?_ 1 _ rfl; (with_reducible repeat (first | refine blk_drewN ?_ _ | refine blk_drew ?_ | refine blk_alloc ?_ _)); refine blk_put (cs := #[.int .i64 0, .int .i64 0, .int .i64 0, .int .i64 0]) ?_ 0 _ rfl; (with_reducible repeat (first | refine blk_drewN ?_ _ | refine blk_drew ?_ | refine blk_alloc ?_ _)); exact BK108.out) hb); have n3_ := Aside0.mk (below_step (by repeat (first | (with_reducible first | exact HB.out | apply below_alloc | apply pw_below_drewN | apply below_drew1 | refine below_set ?_ GE108.out) | exact HB.out)) hb); clear HO_16; clear BK108; clear HB; have HO_16 := n0_; have HO111 := n1_; have BK108 := n2_; have HB := n3_; clear n0_ n1_ n2_ n3_; clear hb ho15))
                    go_ret
                    exact ⟨_, by first | rfl | (simp [errW_none, errW_some] <;> rfl) | (simp [*, errW_none, errW_some] <;> rfl), by (with_reducible repeat (first | apply Kd.R_alloc | apply Kd.R_drewN | apply Kd.R_drew)); exact HO111.out, by repeat (first | (with_reducible first | exact HB.out | apply below_alloc | apply pw_below_drewN | apply below_drew1 | refine below_set ?_ GE108.out) | exact HB.out)⟩
                  · rw [if_neg c11] at H
                    have c11b0 : ((Int.tmod (wrap64 (a0 - ((rd_T35 t104 x18_1).f0))) ((rd_T35 t104 x18_1).f2)) == 0) = false := beq_eq_false_iff_ne.mpr c11
                    have c11b1 : ((Int.tmod (wrap64 (a0 - ((rd_T35 t104 x18_1).f0))) ((rd_T35 t104 x18_1).f2)) != 0) = true := bne_iff_ne.mpr c11
                    have H' := Aside0.mk H
                    clear H
                    have p107 : 0 ≤ (x18_1 : Int) := of_decide_eq_true (by first | (with_reducible assumption) | assumption)
                    have q107 : x18_1 < (t104.length : Int) := of_decide_eq_true (by first | (with_reducible assumption) | assumption)
                    obtain ⟨ad107, e107, hx107_0, hx107_1, hx107_2, hx107_3⟩ := at_T35 (Kd.R_reads' HO_16.out).2.2 x18_1 p107 q107
                    cases e107
                    replace p107 := eq_true p107
                    replace q107 := eq_true q107
                    go_wp2_with (first | ((with_reducible refine gate_dst (N := 6) rfl ?_); refine box_event ?hg (N := 6) ?hd (cs := #[.int .i64 0, .int .i64 0, .int .i64 0, .int .i64 0]) (t := 35) ?hr ?_; (case hd => rfl); (case hg => rfl); (case hr => first | (go_simp; done) | (go_simp; rfl)); intro gb108 hg w16 hbox hb; have n0_ := Aside0.mk (Kd.R_below (Kd.R_elderB (by (with_reducible repeat (first | apply Kd.R_alloc | apply Kd.R_drewN | apply Kd.R_drew)); exact HO_16.out) gb108 (Nat.le_of_eq hg.symm)) hb); have n1_ := Aside0.mk (below_step (by repeat (first | (with_reducible first | exact HB.out | apply below_alloc | apply pw_below_drewN | apply below_drew1) | exact HB.out)) hb); have n2_ := Aside0.mk (hbox); have n3_ := Aside0.mk ((by rw [hg]; exact (below_size (by repeat (first | (with_reducible first | exact HB.out | apply below_alloc | apply pw_below_drewN | apply below_drew1) | exact HB.out))) : w.heap.size ≤ gb108)); have n4_ := Aside0.mk ((by rw [hg]; exact (below_size (by repeat (first | (with_reducible first | exact HB.out | apply below_alloc | apply pw_below_drewN | apply below_drew1) | exact HB.out))) : w.heap.size ≤ gb108)); clear HO_16; clear HB; have HO_16 := n0_; have HB := n1_; have BK108 := n2_; have GW108 := n3_; have GE108 := n4_; clear n0_ n1_ n2_ n3_ n4_; clear hb hbox hg; have hcz17_0 : w16.cell? ⟨gb108, 0, none⟩ = some (.int .i64 0) := (blk_cell BK108.out 0).trans rfl; have hcz17_1 : w16.cell? ⟨gb108, 1, none⟩ = some (.int .i64 0) := (blk_cell BK108.out 1).trans rfl; have hcz17_2 : w16.cell? ⟨gb108, 2, none⟩ = some (.int .i64 0) := (blk_cell BK108.out 2).trans rfl; have hcz17_3 : w16.cell? ⟨gb108, 3, none⟩ = some (.int .i64 0) := (blk_cell BK108.out 3).trans rfl; have hfz17_0 := blk_frozen BK108.out 0; have hfz17_1 := blk_frozen BK108.out 1; have hfz17_2 := blk_frozen BK108.out 2; have hfz17_3 := blk_frozen BK108.out 3))
                    go_roundg k1
                    case measure => have := HK1.out; omega
                    case rel => exact ⟨(wrap64 (x18_1 + 1)), (by first | rfl | (simp; done) | (simp [*]; done)), H', ⟨by have := HK1.out; omega⟩, ⟨by (with_reducible repeat (first | apply Kd.R_alloc | apply Kd.R_drewN | apply Kd.R_drew)); exact Kd.R_mono (Kd.R_far (p := ⟨gb108, 3, none⟩) (Kd.R_far (p := ⟨gb108, 2, none⟩) (Kd.R_far (p := ⟨gb108, 1, none⟩) (Kd.R_far (p := ⟨gb108, 0, none⟩) (Kd.R_mono HO_16.out (fun k_ hk => (⟨hk, hk.2⟩ : _ ∧ k_ ≠ gb108))) (fun _ hk => hk.2) (.int .i64 ((rd_T35 t104 x18_1).f0))) (fun _ hk => hk.2) (.int .i64 ((rd_T35 t104 x18_1).f1))) (fun _ hk => hk.2) (.int .i64 ((rd_T35 t104 x18_1).f2))) (fun _ hk => hk.2) (.int .i64 ((rd_T35 t104 x18_1).f3))) (fun _ hk => trivial)⟩, ⟨by repeat (first | (with_reducible first | exact HB.out | apply below_alloc | apply pw_below_drewN | apply below_drew1 | refine below_set ?_ GE108.out) | exact HB.out)⟩⟩
              · rw [if_neg c9] at H
                have c9b0 : decide (a0 ≤ ((rd_T35 t104 x18_1).f1)) = false := decide_eq_false c9
                clear c9
                have H' := Aside0.mk H
                clear H
                have p107 : 0 ≤ (x18_1 : Int) := of_decide_eq_true (by first | (with_reducible assumption) | assumption)
                have q107 : x18_1 < (t104.length : Int) := of_decide_eq_true (by first | (with_reducible assumption) | assumption)
                obtain ⟨ad107, e107, hx107_0, hx107_1, hx107_2, hx107_3⟩ := at_T35 (Kd.R_reads' HO_16.out).2.2 x18_1 p107 q107
                cases e107
                replace p107 := eq_true p107
                replace q107 := eq_true q107
                go_wp2_with (first | ((with_reducible refine gate_dst (N := 6) rfl ?_); refine box_event ?hg (N := 6) ?hd (cs := #[.int .i64 0, .int .i64 0, .int .i64 0, .int .i64 0]) (t := 35) ?hr ?_; (case hd => rfl); (case hg => rfl); (case hr => first | (go_simp; done) | (go_simp; rfl)); intro gb108 hg w18 hbox hb; have n0_ := Aside0.mk (Kd.R_below (Kd.R_elderB (by (with_reducible repeat (first | apply Kd.R_alloc | apply Kd.R_drewN | apply Kd.R_drew)); exact HO_16.out) gb108 (Nat.le_of_eq hg.symm)) hb); have n1_ := Aside0.mk (below_step (by repeat (first | (with_reducible first | exact HB.out | apply below_alloc | apply pw_below_drewN | apply below_drew1) | exact HB.out)) hb); have n2_ := Aside0.mk (hbox); have n3_ := Aside0.mk ((by rw [hg]; exact (below_size (by repeat (first | (with_reducible first | exact HB.out | apply below_alloc | apply pw_below_drewN | apply below_drew1) | exact HB.out))) : w.heap.size ≤ gb108)); have n4_ := Aside0.mk ((by rw [hg]; exact (below_size (by repeat (first | (with_reducible first | exact HB.out | apply below_alloc | apply pw_below_drewN | apply below_drew1) | exact HB.out))) : w.heap.size ≤ gb108)); clear HO_16; clear HB; have HO_16 := n0_; have HB := n1_; have BK108 := n2_; have GW108 := n3_; have GE108 := n4_; clear n0_ n1_ n2_ n3_ n4_; clear hb hbox hg; have hcz19_0 : w18.cell? ⟨gb108, 0, none⟩ = some (.int .i64 0) := (blk_cell BK108.out 0).trans rfl; have hcz19_1 : w18.cell? ⟨gb108, 1, none⟩ = some (.int .i64 0) := (blk_cell BK108.out 1).trans rfl; have hcz19_2 : w18.cell? ⟨gb108, 2, none⟩ = some (.int .i64 0) := (blk_cell BK108.out 2).trans rfl; have hcz19_3 : w18.cell? ⟨gb108, 3, none⟩ = some (.int .i64 0) := (blk_cell BK108.out 3).trans rfl; have hfz19_0 := blk_frozen BK108.out 0; have hfz19_1 := blk_frozen BK108.out 1; have hfz19_2 := blk_frozen BK108.out 2; have hfz19_3 := blk_frozen BK108.out 3))
                go_roundg k1
                case measure => have := HK1.out; omega
                case rel => exact ⟨(wrap64 (x18_1 + 1)), (by first | rfl | (simp; done) | (simp [*]; done)), H', ⟨by have := HK1.out; omega⟩, ⟨by (with_reducible repeat (first | apply Kd.R_alloc | apply Kd.R_drewN | apply Kd.R_drew)); exact Kd.R_mono (Kd.R_far (p := ⟨gb108, 3, none⟩) (Kd.R_far (p := ⟨gb108, 2, none⟩) (Kd.R_far (p := ⟨gb108, 1, none⟩) (Kd.R_far (p := ⟨gb108, 0, none⟩) (Kd.R_mono HO_16.out (fun k_ hk => (⟨hk, hk.2⟩ : _ ∧ k_ ≠ gb108))) (fun _ hk => hk.2) (.int .i64 ((rd_T35 t104 x18_1).f0))) (fun _ hk => hk.2) (.int .i64 ((rd_T35 t104 x18_1).f1))) (fun _ hk => hk.2) (.int .i64 ((rd_T35 t104 x18_1).f2))) (fun _ hk => hk.2) (.int .i64 ((rd_T35 t104 x18_1).f3))) (fun _ hk => trivial)⟩, ⟨by repeat (first | (with_reducible first | exact HB.out | apply below_alloc | apply pw_below_drewN | apply below_drew1 | refine below_set ?_ GE108.out) | exact HB.out)⟩⟩
            · rw [if_neg c8] at H
              have c8b0 : decide (((rd_T35 t104 x18_1).f0) ≤ a0) = false := decide_eq_false c8
              clear c8
              have H' := Aside0.mk H
              clear H
              have p107 : 0 ≤ (x18_1 : Int) := of_decide_eq_true (by first | (with_reducible assumption) | assumption)
              have q107 : x18_1 < (t104.length : Int) := of_decide_eq_true (by first | (with_reducible assumption) | assumption)
              obtain ⟨ad107, e107, hx107_0, hx107_1, hx107_2, hx107_3⟩ := at_T35 (Kd.R_reads' HO_16.out).2.2 x18_1 p107 q107
              cases e107
              replace p107 := eq_true p107
              replace q107 := eq_true q107
              go_wp2_with (first | ((with_reducible refine gate_dst (N := 6) rfl ?_); refine box_event ?hg (N := 6) ?hd (cs := #[.int .i64 0, .int .i64 0, .int .i64 0, .int .i64 0]) (t := 35) ?hr ?_; (case hd => rfl); (case hg => rfl); (case hr => first | (go_simp; done) | (go_simp; rfl)); intro gb108 hg w20 hbox hb; have n0_ := Aside0.mk (Kd.R_below (Kd.R_elderB (by (with_reducible repeat (first | apply Kd.R_alloc | apply Kd.R_drewN | apply Kd.R_drew)); exact HO_16.out) gb108 (Nat.le_of_eq hg.symm)) hb); have n1_ := Aside0.mk (below_step (by repeat (first | (with_reducible first | exact HB.out | apply below_alloc | apply pw_below_drewN | apply below_drew1) | exact HB.out)) hb); have n2_ := Aside0.mk (hbox); have n3_ := Aside0.mk ((by rw [hg]; exact (below_size (by repeat (first | (with_reducible first | exact HB.out | apply below_alloc | apply pw_below_drewN | apply below_drew1) | exact HB.out))) : w.heap.size ≤ gb108)); have n4_ := Aside0.mk ((by rw [hg]; exact (below_size (by repeat (first | (with_reducible first | exact HB.out | apply below_alloc | apply pw_below_drewN | apply below_drew1) | exact HB.out))) : w.heap.size ≤ gb108)); clear HO_16; clear HB; have HO_16 := n0_; have HB := n1_; have BK108 := n2_; have GW108 := n3_; have GE108 := n4_; clear n0_ n1_ n2_ n3_ n4_; clear hb hbox hg; have hcz21_0 : w20.cell? ⟨gb108, 0, none⟩ = some (.int .i64 0) := (blk_cell BK108.out 0).trans rfl; have hcz21_1 : w20.cell? ⟨gb108, 1, none⟩ = some (.int .i64 0) := (blk_cell BK108.out 1).trans rfl; have hcz21_2 : w20.cell? ⟨gb108, 2, none⟩ = some (.int .i64 0) := (blk_cell BK108.out 2).trans rfl; have hcz21_3 : w20.cell? ⟨gb108, 3, none⟩ = some (.int .i64 0) := (blk_cell BK108.out 3).trans rfl; have hfz21_0 := blk_frozen BK108.out 0; have hfz21_1 := blk_frozen BK108.out 1; have hfz21_2 := blk_frozen BK108.out 2; have hfz21_3 := blk_frozen BK108.out 3))
              go_roundg k1
              case measure => have := HK1.out; omega
              case rel => exact ⟨(wrap64 (x18_1 + 1)), (by first | rfl | (simp; done) | (simp [*]; done)), H', ⟨by have := HK1.out; omega⟩, ⟨by (with_reducible repeat (first | apply Kd.R_alloc | apply Kd.R_drewN | apply Kd.R_drew)); exact Kd.R_mono (Kd.R_far (p := ⟨gb108, 3, none⟩) (Kd.R_far (p := ⟨gb108, 2, none⟩) (Kd.R_far (p := ⟨gb108, 1, none⟩) (Kd.R_far (p := ⟨gb108, 0, none⟩) (Kd.R_mono HO_16.out (fun k_ hk => (⟨hk, hk.2⟩ : _ ∧ k_ ≠ gb108))) (fun _ hk => hk.2) (.int .i64 ((rd_T35 t104 x18_1).f0))) (fun _ hk => hk.2) (.int .i64 ((rd_T35 t104 x18_1).f1))) (fun _ hk => hk.2) (.int .i64 ((rd_T35 t104 x18_1).f2))) (fun _ hk => hk.2) (.int .i64 ((rd_T35 t104 x18_1).f3))) (fun _ hk => trivial)⟩, ⟨by repeat (first | (with_reducible first | exact HB.out | apply below_alloc | apply pw_below_drewN | apply below_drew1 | refine below_set ?_ GE108.out) | exact HB.out)⟩⟩
          · rw [if_neg c7] at H
            exact absurd H (by simp)
        · rw [if_neg c6] at H
          exact absurd H (by simp)
      · rw [if_neg c5] at H
        have c5b0 : decide (x18_1 < (t104.length : Int)) = false := decide_eq_false c5
        clear c5
        obtain ⟨y112, hy112⟩ : ∃ y_ : List Int, y_ = (([a0] : List Int)) := ⟨_, rfl⟩
        replace H : (some y112) = some r := by first | (rw [hy112]; with_reducible exact H) | (have H2_ := (Option.bind_some _ _).symm.trans H; rw [hy112]; with_reducible exact H2_) | (have H2_ := (Option.bind_some _ _).symm.trans H; with_reducible exact H2_) | with_reducible exact H | (rw [hy112]; exact H) | exact H
        have Ny112 := Aside0.mk hy112
        clear hy112
        obtain rfl := Option.some.inj H
        go_wp2_with (first | ((with_reducible refine gate_dst (N := 49) rfl ?_); refine Kd.R_lit (Kd.int .i64) _ 3 ?hg (N := 49) ?hd (xs := ([a0] : List Int)) (inner := [.int .i64 a0]) (ok := fun _ => True) (okp := fun _ => True) ?hr ?hp (fun _ hk => hk) trivial (Below.refl _ _) (Nat.le_refl _) (by simp) ?_; (case hd => rfl); (case hg => rfl); (case hr => first | (go_simp; done) | (go_simp; rfl)); (case hp => exact (Reps.one (show Kd.M (Kd.int .i64) _ _ _ a0 [.int .i64 a0] from rfl) (Reps.none _ _))); intro v113 w22 ho23 hb hg_ hnew_; clear hg_ hnew_; (first | rw [← Ny112.out] at ho23 | (simp only [Int.reduceToNat] at ho23; rw [← Ny112.out] at ho23)); have n0_ := Aside0.mk (Kd.R_below (by (with_reducible repeat (first | apply Kd.R_alloc | apply Kd.R_drewN | apply Kd.R_drew)); exact HO_16.out) hb); have n1_ := Aside0.mk (Kd.R_lower ho23 (below_size (by repeat (first | (with_reducible first | exact HB.out | apply below_alloc | apply pw_below_drewN | apply below_drew1) | exact HB.out)))); have n2_ := Aside0.mk (below_step (by repeat (first | (with_reducible first | exact HB.out | apply below_alloc | apply pw_below_drewN | apply below_drew1) | exact HB.out)) hb); clear HO_16; clear HB; have HO_16 := n0_; have HO114 := n1_; have HB := n2_; clear n0_ n1_ n2_; clear hb ho23))
        go_ret
        exact ⟨_, by first | rfl | (simp [errW_none, errW_some] <;> rfl) | (simp [*, errW_none, errW_some] <;> rfl), by (with_reducible repeat (first | apply Kd.R_alloc | apply Kd.R_drewN | apply Kd.R_drew)); exact HO114.out, by repeat (first | (with_reducible first | exact HB.out | apply below_alloc | apply pw_below_drewN | apply below_drew1) | exact HB.out)⟩
theorem casing_Fold.calls (k : Nat) (a0 : Int) (r : List Int) (w : World) (h : casing_Fold.f k a0 = some r) :
    Calls Try.prog 9 #[.int .i64 a0] w fun e w' => ∃ v0_ : Value, e = .returned (v0_) ∧ Kd.R (Kd.int .i64) 3 w' w.heap.size (fun _ => True) v0_ r ∧ Below w.heap.size w w' := by
  have hw := fold_wf h
  rw [fold_eq k a0 hw] at h
  cases hl : Sp.sp.lookup a0 with
  | some xs => rw [hl] at h; obtain rfl := Option.some.inj h; exact fold_found a0 _ w (fold_int hw) hl
  | none => rw [hl] at h; exact fold_rules k a0 r w (fold_int hw) hl h

end Go.Proofs.Yteemdonegpnkcaa.Q
