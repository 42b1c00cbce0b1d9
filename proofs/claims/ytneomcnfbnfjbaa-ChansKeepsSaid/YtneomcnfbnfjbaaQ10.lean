-- Laid by mix.py, a program of this session, with the kit's print.py; walks by hand come out of wip/over.
import Derived.Test.YtneomcnfbnfjbaaShort
import Derived.Test.YtneomcnfbnfjbaaQ0
import Derived.Test.YtneomcnfbnfjbaaQ1
import Derived.Test.YtneomcnfbnfjbaaQ2
import Derived.Test.YtneomcnfbnfjbaaQ3
import Derived.Test.YtneomcnfbnfjbaaQ4
import Derived.Test.YtneomcnfbnfjbaaQ6
import Derived.Test.YtneomcnfbnfjbaaQ9
namespace Go.Proofs.Ytneomcnfbnfjbaa.Q
open Go.RowKit Go.Proofs.YtneomcnfbnfjbaaW.PrintWords Go.Proofs.YtneomcnfbnfjbaaW.PrintLast Go.Proofs.YtneomcnfbnfjbaaW.PrintMore Go.Proofs.YtneomcnfbnfjbaaW.Sh
attribute [local go_sem] max2_int min2_int max_two min_two max_three min_three max_four min_four   -- for this text's walks alone
set_option linter.unusedVariables false
set_option linter.unusedSimpArgs false

/-! ### pentroughlaw16_ChansKeeps: function 5 -/
mutual
def pentroughlaw16_ChansKeeps.j0 : Nat → List Int → Bool → Bool → List (List Int) → Bool → Option (Bool)
  | 0, _, _, _, _, _ => none
  | k + 1, x1, x5, x21, x254000, x254001 => if x21 = true then (some x5) else ((pentroughlaw16_ours.f x254000 x254001).bind fun bt257 => ((chans_Sane.f k bt257.1 bt257.2).bind fun t261 => (if t261 = true then ((pentroughlaw16_ours.f x254000 x254001).bind fun bt262 => ((chans_Put.f k bt262.1 bt262.2 x1).bind fun bt266 => ((pentroughlaw16_ours.f x254000 x254001).bind fun bt272 => ((chans_Take.f k bt272.1 bt272.2).bind fun bt276 => ((pentroughlaw16_ours.f x254000 x254001).bind fun bt285 => ((chans_Close.f k bt285.1 bt285.2).bind fun bt289 => (if bt266.2.2 = true then (if bt276.2.2.2 = true then (pentroughlaw16_ChansKeeps.j1 k x1 x5 bt266.2.2 bt276.2.2.2 false x254000 x254001 bt266.1 bt266.2.1 bt276.1 bt276.2.1 bt289.1 bt289.2) else ((pentroughlaw16_same.f k bt276.1 bt276.2.1 x254000 x254001).bind fun t294 => (pentroughlaw16_ChansKeeps.j1 k x1 x5 bt266.2.2 bt276.2.2.2 (!t294) x254000 x254001 bt266.1 bt266.2.1 bt276.1 bt276.2.1 bt289.1 bt289.2))) else ((pentroughlaw16_same.f k bt266.1 bt266.2.1 x254000 x254001).bind fun t295 => (if t295 = true then (if bt276.2.2.2 = true then (pentroughlaw16_ChansKeeps.j1 k x1 x5 bt266.2.2 bt276.2.2.2 false x254000 x254001 bt266.1 bt266.2.1 bt276.1 bt276.2.1 bt289.1 bt289.2) else ((pentroughlaw16_same.f k bt276.1 bt276.2.1 x254000 x254001).bind fun t296 => (pentroughlaw16_ChansKeeps.j1 k x1 x5 bt266.2.2 bt276.2.2.2 (!t296) x254000 x254001 bt266.1 bt266.2.1 bt276.1 bt276.2.1 bt289.1 bt289.2))) else (pentroughlaw16_ChansKeeps.j1 k x1 x5 bt266.2.2 bt276.2.2.2 true x254000 x254001 bt266.1 bt266.2.1 bt276.1 bt276.2.1 bt289.1 bt289.2)))))))))) else ((pentroughlaw16_ours.f x254000 x254001).bind fun bt306 => ((chans_Put.f k bt306.1 bt306.2 x1).bind fun bt310 => ((pentroughlaw16_ours.f x254000 x254001).bind fun bt316 => ((chans_Take.f k bt316.1 bt316.2).bind fun bt320 => ((pentroughlaw16_ours.f x254000 x254001).bind fun bt329 => ((chans_Close.f k bt329.1 bt329.2).bind fun bt333 => (if bt310.2.2 = true then (if bt320.2.2.2 = true then (pentroughlaw16_ChansKeeps.j2 k x1 x5 bt310.2.2 bt320.2.2.2 false false bt310.1 bt310.2.1 bt320.1 bt320.2.1 bt333.1 bt333.2) else ((pentroughlaw16_same.f k bt320.1 bt320.2.1 ([] : List (List Int)) false).bind fun t338 => (pentroughlaw16_ChansKeeps.j2 k x1 x5 bt310.2.2 bt320.2.2.2 (!t338) false bt310.1 bt310.2.1 bt320.1 bt320.2.1 bt333.1 bt333.2))) else ((pentroughlaw16_same.f k bt310.1 bt310.2.1 ([] : List (List Int)) false).bind fun t339 => (if t339 = true then (if bt320.2.2.2 = true then (pentroughlaw16_ChansKeeps.j2 k x1 x5 bt310.2.2 bt320.2.2.2 false false bt310.1 bt310.2.1 bt320.1 bt320.2.1 bt333.1 bt333.2) else ((pentroughlaw16_same.f k bt320.1 bt320.2.1 ([] : List (List Int)) false).bind fun t340 => (pentroughlaw16_ChansKeeps.j2 k x1 x5 bt310.2.2 bt320.2.2.2 (!t340) false bt310.1 bt310.2.1 bt320.1 bt320.2.1 bt333.1 bt333.2))) else (pentroughlaw16_ChansKeeps.j2 k x1 x5 bt310.2.2 bt320.2.2.2 true false bt310.1 bt310.2.1 bt320.1 bt320.2.1 bt333.1 bt333.2)))))))))))))
def pentroughlaw16_ChansKeeps.j1 : Nat → List Int → Bool → Bool → Bool → Bool → List (List Int) → Bool → List (List Int) → Bool → List (List Int) → Bool → List (List Int) → Bool → Option (Bool)
  | 0, _, _, _, _, _, _, _, _, _, _, _, _, _ => none
  | k + 1, x1, x5, x8, x11, x63, x257000, x257001, x272000, x272001, x285000, x285001, x294000, x294001 => if x63 = true then (some false) else (if x5 = true then ((chans_Sane.f k x272000 x272001).bind fun t297 => (if t297 = true then ((chans_Sane.f k x285000 x285001).bind fun t298 => (if t298 = true then ((chans_Sane.f k x294000 x294001).bind fun t299 => (if t299 = true then (if x294001 = true then (if x8 = true then ((chans_Count.f k x272000 x272001).bind fun t300 => ((pentroughlaw16_ours.f x257000 x257001).bind fun bt301 => ((chans_Count.f k bt301.1 bt301.2).bind fun t305 => (if t300 = (wrap64 (t305 + (x1.length : Int))) then (some (x11 == (decide ((x257000.length : Int) > 0)))) else (some false))))) else (some (x11 == (decide ((x257000.length : Int) > 0))))) else (some false)) else (some false))) else (some false))) else (some false))) else (some false))
def pentroughlaw16_ChansKeeps.j2 : Nat → List Int → Bool → Bool → Bool → Bool → Bool → List (List Int) → Bool → List (List Int) → Bool → List (List Int) → Bool → Option (Bool)
  | 0, _, _, _, _, _, _, _, _, _, _, _, _ => none
  | k + 1, x1, x5, x8, x11, x63, x257001, x316000, x316001, x329000, x329001, x338000, x338001 => if x63 = true then (some false) else (if x5 = true then ((chans_Sane.f k x316000 x316001).bind fun t341 => (if t341 = true then ((chans_Sane.f k x329000 x329001).bind fun t342 => (if t342 = true then ((chans_Sane.f k x338000 x338001).bind fun t343 => (if t343 = true then (if x338001 = true then (if x8 = true then ((chans_Count.f k x316000 x316001).bind fun t344 => ((pentroughlaw16_ours.f ([] : List (List Int)) x257001).bind fun bt345 => ((chans_Count.f k bt345.1 bt345.2).bind fun t349 => (if t344 = (wrap64 (t349 + (x1.length : Int))) then (some (x11 == (decide ((([] : List (List Int)).length : Int) > 0)))) else (some false))))) else (some (x11 == (decide ((([] : List (List Int)).length : Int) > 0))))) else (some false)) else (some false))) else (some false))) else (some false))) else (some false))
end
def pentroughlaw16_ChansKeeps.f (k : Nat) (l0_0 : List (List Int)) (a0_1 : Bool) (l1 : List Int) : Option (Bool) := (pentroughlaw16_awake.f).bind fun t254 => ((pentroughref16_Few.f k l0_0 a0_1).bind fun t255 => (if t255 = true then (pentroughlaw16_ChansKeeps.j0 k l1 t254 (decide ((l1.length : Int) > 20)) l0_0 a0_1) else (pentroughlaw16_ChansKeeps.j0 k l1 t254 true l0_0 a0_1)))
theorem pentroughlaw16_ChansKeeps.mono_l : ∀ k, (∀ y0 y1 y2 y3 y4, LeO (pentroughlaw16_ChansKeeps.j0 k y0 y1 y2 y3 y4) (pentroughlaw16_ChansKeeps.j0 (k + 1) y0 y1 y2 y3 y4)) ∧ (∀ y0 y1 y2 y3 y4 y5 y6 y7 y8 y9 y10 y11 y12, LeO (pentroughlaw16_ChansKeeps.j1 k y0 y1 y2 y3 y4 y5 y6 y7 y8 y9 y10 y11 y12) (pentroughlaw16_ChansKeeps.j1 (k + 1) y0 y1 y2 y3 y4 y5 y6 y7 y8 y9 y10 y11 y12)) ∧ (∀ y0 y1 y2 y3 y4 y5 y6 y7 y8 y9 y10 y11, LeO (pentroughlaw16_ChansKeeps.j2 k y0 y1 y2 y3 y4 y5 y6 y7 y8 y9 y10 y11) (pentroughlaw16_ChansKeeps.j2 (k + 1) y0 y1 y2 y3 y4 y5 y6 y7 y8 y9 y10 y11))
  | 0 => ⟨fun _ _ _ _ _ r h => by simp [pentroughlaw16_ChansKeeps.j0] at h, fun _ _ _ _ _ _ _ _ _ _ _ _ _ r h => by simp [pentroughlaw16_ChansKeeps.j1] at h, fun _ _ _ _ _ _ _ _ _ _ _ _ r h => by simp [pentroughlaw16_ChansKeeps.j2] at h⟩
  | k + 1 => by
    obtain ⟨ih0, ih1, ih2⟩ := pentroughlaw16_ChansKeeps.mono_l k
    refine ⟨?_, ?_, ?_⟩
    · intro y0 y1 y2 y3 y4
      unfold pentroughlaw16_ChansKeeps.j0
      repeat' first
      | (with_reducible exact ih0 _ _ _ _ _)
      | (with_reducible exact ih1 _ _ _ _ _ _ _ _ _ _ _ _ _)
      | (with_reducible exact ih2 _ _ _ _ _ _ _ _ _ _ _ _)
      | (with_reducible exact chans_Close.mono _ _ _)
      | (with_reducible exact chans_Count.mono _ _ _)
      | (with_reducible exact chans_Put.mono _ _ _ _)
      | (with_reducible exact chans_Sane.mono _ _ _)
      | (with_reducible exact chans_Take.mono _ _ _)
      | (with_reducible exact pentroughlaw16_same.mono _ _ _ _ _)
      | (with_reducible exact pentroughref16_Few.mono _ _ _)
      | (with_reducible exact LeO.refl _)
      | (with_reducible exact LeO.none _)
      | (with_reducible refine LeO.ite ?_ ?_)
      | (with_reducible refine LeO.bind ?_ (fun _ => ?_))
      | exact ih0 _ _ _ _ _
      | exact ih1 _ _ _ _ _ _ _ _ _ _ _ _ _
      | exact ih2 _ _ _ _ _ _ _ _ _ _ _ _
      | exact chans_Close.mono _ _ _
      | exact chans_Count.mono _ _ _
      | exact chans_Put.mono _ _ _ _
      | exact chans_Sane.mono _ _ _
      | exact chans_Take.mono _ _ _
      | exact pentroughlaw16_same.mono _ _ _ _ _
      | exact pentroughref16_Few.mono _ _ _
      | exact LeO.none _
      | refine LeO.ite ?_ ?_
      | refine LeO.bind ?_ (fun _ => ?_)
    · intro y0 y1 y2 y3 y4 y5 y6 y7 y8 y9 y10 y11 y12
      unfold pentroughlaw16_ChansKeeps.j1
      repeat' first
      | (with_reducible exact ih0 _ _ _ _ _)
      | (with_reducible exact ih1 _ _ _ _ _ _ _ _ _ _ _ _ _)
      | (with_reducible exact ih2 _ _ _ _ _ _ _ _ _ _ _ _)
      | (with_reducible exact chans_Close.mono _ _ _)
      | (with_reducible exact chans_Count.mono _ _ _)
      | (with_reducible exact chans_Put.mono _ _ _ _)
      | (with_reducible exact chans_Sane.mono _ _ _)
      | (with_reducible exact chans_Take.mono _ _ _)
      | (with_reducible exact pentroughlaw16_same.mono _ _ _ _ _)
      | (with_reducible exact pentroughref16_Few.mono _ _ _)
      | (with_reducible exact LeO.refl _)
      | (with_reducible exact LeO.none _)
      | (with_reducible refine LeO.ite ?_ ?_)
      | (with_reducible refine LeO.bind ?_ (fun _ => ?_))
      | exact ih0 _ _ _ _ _
      | exact ih1 _ _ _ _ _ _ _ _ _ _ _ _ _
      | exact ih2 _ _ _ _ _ _ _ _ _ _ _ _
      | exact chans_Close.mono _ _ _
      | exact chans_Count.mono _ _ _
      | exact chans_Put.mono _ _ _ _
      | exact chans_Sane.mono _ _ _
      | exact chans_Take.mono _ _ _
      | exact pentroughlaw16_same.mono _ _ _ _ _
      | exact pentroughref16_Few.mono _ _ _
      | exact LeO.none _
      | refine LeO.ite ?_ ?_
      | refine LeO.bind ?_ (fun _ => ?_)
    · intro y0 y1 y2 y3 y4 y5 y6 y7 y8 y9 y10 y11
      unfold pentroughlaw16_ChansKeeps.j2
      repeat' first
      | (with_reducible exact ih0 _ _ _ _ _)
      | (with_reducible exact ih1 _ _ _ _ _ _ _ _ _ _ _ _ _)
      | (with_reducible exact ih2 _ _ _ _ _ _ _ _ _ _ _ _)
      | (with_reducible exact chans_Close.mono _ _ _)
      | (with_reducible exact chans_Count.mono _ _ _)
      | (with_reducible exact chans_Put.mono _ _ _ _)
      | (with_reducible exact chans_Sane.mono _ _ _)
      | (with_reducible exact chans_Take.mono _ _ _)
      | (with_reducible exact pentroughlaw16_same.mono _ _ _ _ _)
      | (with_reducible exact pentroughref16_Few.mono _ _ _)
      | (with_reducible exact LeO.refl _)
      | (with_reducible exact LeO.none _)
      | (with_reducible refine LeO.ite ?_ ?_)
      | (with_reducible refine LeO.bind ?_ (fun _ => ?_))
      | exact ih0 _ _ _ _ _
      | exact ih1 _ _ _ _ _ _ _ _ _ _ _ _ _
      | exact ih2 _ _ _ _ _ _ _ _ _ _ _ _
      | exact chans_Close.mono _ _ _
      | exact chans_Count.mono _ _ _
      | exact chans_Put.mono _ _ _ _
      | exact chans_Sane.mono _ _ _
      | exact chans_Take.mono _ _ _
      | exact pentroughlaw16_same.mono _ _ _ _ _
      | exact pentroughref16_Few.mono _ _ _
      | exact LeO.none _
      | refine LeO.ite ?_ ?_
      | refine LeO.bind ?_ (fun _ => ?_)
theorem pentroughlaw16_ChansKeeps.mono : ∀ a0 a1 a2 k, LeO (pentroughlaw16_ChansKeeps.f k a0 a1 a2) (pentroughlaw16_ChansKeeps.f (k + 1) a0 a1 a2) := by
  intro a0 a1 a2 k
  obtain ⟨ih0, ih1, ih2⟩ := pentroughlaw16_ChansKeeps.mono_l k
  unfold pentroughlaw16_ChansKeeps.f
  repeat' first
      | (with_reducible exact ih0 _ _ _ _ _)
      | (with_reducible exact ih1 _ _ _ _ _ _ _ _ _ _ _ _ _)
      | (with_reducible exact ih2 _ _ _ _ _ _ _ _ _ _ _ _)
      | (with_reducible exact chans_Close.mono _ _ _)
      | (with_reducible exact chans_Count.mono _ _ _)
      | (with_reducible exact chans_Put.mono _ _ _ _)
      | (with_reducible exact chans_Sane.mono _ _ _)
      | (with_reducible exact chans_Take.mono _ _ _)
      | (with_reducible exact pentroughlaw16_same.mono _ _ _ _ _)
      | (with_reducible exact pentroughref16_Few.mono _ _ _)
      | (with_reducible exact LeO.refl _)
      | (with_reducible exact LeO.none _)
      | (with_reducible refine LeO.ite ?_ ?_)
      | (with_reducible refine LeO.bind ?_ (fun _ => ?_))
      | exact ih0 _ _ _ _ _
      | exact ih1 _ _ _ _ _ _ _ _ _ _ _ _ _
      | exact ih2 _ _ _ _ _ _ _ _ _ _ _ _
      | exact chans_Close.mono _ _ _
      | exact chans_Count.mono _ _ _
      | exact chans_Put.mono _ _ _ _
      | exact chans_Sane.mono _ _ _
      | exact chans_Take.mono _ _ _
      | exact pentroughlaw16_same.mono _ _ _ _ _
      | exact pentroughref16_Few.mono _ _ _
      | exact LeO.none _
      | refine LeO.ite ?_ ?_
      | refine LeO.bind ?_ (fun _ => ?_)
def pentroughlaw16_ChansKeeps.T12 : Bool × List (List Nat × List Nat) := (true, [([], []), ([0], [0]), ([1], [1]), ([2, 1, 1], [1, 2]), ([1, 3], [1, 3]), ([4, 3], [4]), ([5], [5]), ([6, 5, 5], [5, 6]), ([5, 7], [5, 7]), ([8, 7], [8]), ([9], [9]), ([10, 9, 9], [9, 10]), ([9, 11], [9, 11]), ([12, 11], [12]), ([13], [13]), ([14, 13], [13, 14]), ([13, 15], [13, 15]), ([16, 13], [16]), ([17], [17]), ([18, 17], [17, 18]), ([19, 17, 17], [17, 19]), ([20], [20]), ([21, 20, 20], [20, 21]), ([20], [20]), ([23, 22, 20], [20, 23]), ([24, 24, 20], [20, 24]), ([20], [20]), ([26, 20], [20, 26]), ([25, 27, 20], [20, 25, 27]), ([22, 28, 20], [20, 22, 28]), ([20, 29, 17], [17, 20, 29]), ([17, 30], [17, 30]), ([31, 25], [31]), ([32], [32]), ([32], [32]), ([34, 32], [32, 34]), ([35, 32], [32, 35]), ([36, 32], [32, 36]), ([33, 37, 32], [32, 33, 37]), ([32, 38], [32, 38]), ([39, 32, 0, 1, 2, 3, 4, 5, 6, 7, 8, 9, 10, 11, 12, 13, 14, 15, 16, 17, 18, 19, 20, 21, 22, 23, 24, 25, 26, 27, 28, 29, 30, 31, 32, 33, 34, 35, 36, 37, 38, 39], [39])])
def pentroughlaw16_ChansKeeps.B12 : List Nat := [0, 1, 3, 7, 15, 31, 63, 127, 255, 511, 1023, 2047, 4095, 8191, 16383, 32767, 65535, 131071, 262143, 524287, 1048575, 2097151, 4194303, 2097151, 16777215, 33554431, 2097151, 69206015, 268435455, 536870911, 1073741823, 2147483647, 4294967295, 8589934591, 8589934591, 25769803775, 60129542143, 128849018879, 274877906943, 549755813887, 1099511627775]
theorem pentroughlaw16_ChansKeeps.tab12 : rtab .any (opsOf Try.f5 12) = pentroughlaw16_ChansKeeps.T12 := by kernel_rfl
theorem pentroughlaw16_ChansKeeps.bits12 : waitsOk pentroughlaw16_ChansKeeps.T12.2 pentroughlaw16_ChansKeeps.B12 = true := by kernel_rfl
theorem same_nil (k : Nat) (A : Option Addr) (c : Nat) (l : List (List Int)) (b : Bool) (r : Bool) (w : World) (hr : Kd.C (Kd.slice 3 (Kd.int .i64)) w A l.length l) (hc : l.length ≤ c) (h : pentroughlaw16_same.f k l b ([] : List (List Int)) false = some r) :
    Calls Try.prog 19 #[.agg #[.slice A l.length c, .bool b], .agg #[.slice none 0 0, .bool false]] w fun e w' => e = .returned (.bool r) ∧ Below w.heap.size w w' := pentroughlaw16_same.calls k A c l b none 0 [] false r w hr hc (Kd.C_nil _ _) (Nat.le_refl _) h
set_option maxHeartbeats 16000000 in
set_option maxRecDepth 100000 in
theorem pentroughlaw16_ChansKeeps.calls (k : Nat) (A0_0 : Option Addr) (c0_0 : Nat) (l0_0 : List (List Int)) (a0_1 : Bool) (A1 : Option Addr) (c1 : Nat) (l1 : List Int) (r : Bool) (w : World) (hr0_0 : Kd.C (Kd.slice 3 (Kd.int .i64)) w A0_0 l0_0.length l0_0) (hc0_0 : l0_0.length ≤ c0_0) (hr1 : Kd.C (Kd.int .i64) w A1 l1.length l1) (hc1 : l1.length ≤ c1) (h : pentroughlaw16_ChansKeeps.f k l0_0 a0_1 l1 = some r) (HRT : Aside0 (r = true)) :
    Calls Try.prog 5 #[.agg #[.slice A0_0 l0_0.length c0_0, .bool a0_1], .slice A1 l1.length c1] w fun e w' => e = .returned (.bool r) ∧ Below w.heap.size w w' := by
  have hu24 := Try.underlying24
  have hu28 := Try.underlying28
  have HR0_0 := Aside0.mk hr0_0
  have HC0_0 := Aside0.mk hc0_0
  clear hr0_0 hc0_0
  have HR1 := Aside0.mk hr1
  have HC1 := Aside0.mk hc1
  clear hr1 hc1
  have HB := Aside0.mk (Below.refl w.heap.size w)
  have H : ((pentroughlaw16_awake.f).bind fun t254 => ((pentroughref16_Few.f k l0_0 a0_1).bind fun t255 => (if t255 = true then (pentroughlaw16_ChansKeeps.j0 k l1 t254 (decide ((l1.length : Int) > 20)) l0_0 a0_1) else (pentroughlaw16_ChansKeeps.j0 k l1 t254 true l0_0 a0_1)))) = some r := h
  clear h
  obtain ⟨t254, A3, H⟩ := ob H
  have HC4 := Aside0.mk H
  clear H
  go_enter Try.func5, Try.ntmps5
  go_upto_region 2 with (first | ((with_reducible refine gate_dst (N := 2) rfl ?_); (try (refine gate_guard (by rfl) ?_; dsimp only)); refine box_event ?hg (N := 2) ?hd (cs := #[.slice A0_0 l0_0.length c0_0, .bool a0_1]) (t := 24) ?hr ?_; (case hd => rfl); (case hg => rfl); (case hr => first | (go_simp; done) | (go_simp; rfl)); intro gb253 hg w5 hbox hb; have BK253 := Aside0.mk hbox; have GW253 := gE HB hg; have GE253 := gE HB hg; replace HB := hB HB hb; clear hb hbox hg) | ((with_reducible refine gate_callee (f := 9) rfl ?_); refine gL (some 13) rfl rfl Try.func9 (by kernel_rfl) rfl #[] rfl ?_; (with_reducible refine (pentroughlaw16_awake.calls  t254 _ A3.out).mono ?_); rintro e w6 ⟨rfl, hb⟩; refine ⟨_, rfl, ?_⟩; replace BK253 := kB BK253 hb; replace HB := hB HB hb; (try clear hb); (try clear hb2); (try clear hk); (try clear hi)))
  (try simp only [Act.put, List.setIfInBounds_toArray, List.set_cons_zero, List.set_cons_succ])
  go_cut [21] (fun v21 wc => ∃ (kq : Nat) (x21_3 : Bool), v21 = .bool x21_3 ∧ Aside0 (pentroughlaw16_ChansKeeps.j0 kq l1 t254 x21_3 l0_0 a0_1 = some r) ∧ Aside0 (kq ≤ k) ∧ Aside0 (wc.heap[gb253]? = some (.cells #[(.slice A0_0 l0_0.length c0_0), .bool a0_1] 24 (0, 0))) ∧ Aside0 (Below w.heap.size w wc))
  case first =>
    have H := HC4.out
    clear HC4
    obtain ⟨t255, A7, H⟩ := ob H
    by_cases c8 : t255 = true
    · subst c8
      rw [if_pos rfl] at H
      have H' := Aside0.mk H
      clear H
      obtain ⟨hcz9_0, hcz9_1, hfz9_0, hfz9_1⟩ := bc2 BK253
      go_wp2_with (first | ((with_reducible refine gate_callee (f := 10) rfl ?_); refine gL (some 15) rfl rfl Try.func10 (by kernel_rfl) rfl #[.agg #[.slice A0_0 l0_0.length c0_0, .bool a0_1]] rfl ?_; (with_reducible refine (pentroughref16_Few.calls k _ _ l0_0 a0_1 true _ ?side1 ?side2 A7.out).mono ?_); (case side1 => exact Kd.C_below HR0_0.out (bb HB)); (case side2 => exact HC0_0.out); rintro e w10 ⟨rfl, hb⟩; refine ⟨_, rfl, ?_⟩; replace BK253 := kB BK253 hb; replace HB := hB HB hb; (try clear hb); (try clear hb2); (try clear hk); (try clear hi)))
      go_meet
      case rel => exact ⟨_, (decide ((l1.length : Int) > 20)), (by first | rfl | (simp; done) | (simp [*]; done)), H', ⟨by first | omega | exact Nat.le_refl _⟩, ⟨kk BK253⟩, ⟨bb HB⟩⟩
    · replace c8 := Bool.eq_false_iff.mpr c8
      subst c8
      rw [if_neg nf] at H
      have H' := Aside0.mk H
      clear H
      obtain ⟨hcz11_0, hcz11_1, hfz11_0, hfz11_1⟩ := bc2 BK253
      go_wp2_with (first | ((with_reducible refine gate_callee (f := 10) rfl ?_); refine gL (some 15) rfl rfl Try.func10 (by kernel_rfl) rfl #[.agg #[.slice A0_0 l0_0.length c0_0, .bool a0_1]] rfl ?_; (with_reducible refine (pentroughref16_Few.calls k _ _ l0_0 a0_1 false _ ?side1 ?side2 A7.out).mono ?_); (case side1 => exact Kd.C_below HR0_0.out (bb HB)); (case side2 => exact HC0_0.out); rintro e w12 ⟨rfl, hb⟩; refine ⟨_, rfl, ?_⟩; replace BK253 := kB BK253 hb; replace HB := hB HB hb; (try clear hb); (try clear hb2); (try clear hk); (try clear hi)))
      go_meet
      case rel => exact ⟨_, (true), (by first | rfl | (simp; done) | (simp [*]; done)), H', ⟨by first | omega | exact Nat.le_refl _⟩, ⟨kk BK253⟩, ⟨bb HB⟩⟩
  case rest =>
    clear HC4
    try clear c1
    try clear p2
    try clear c5
    try clear c8
    try clear c9
    try clear c10
    try clear hcz11_0
    try clear hcz11_1
    try clear hcz9_0
    try clear hcz9_1
    try clear hfz11_0
    try clear hfz11_1
    try clear hfz9_0
    try clear hfz9_1
    obtain ⟨kq, x21_3, rfl, HA, HJ3, BK253, HB⟩ := hcut
    cases kq with
    | zero => exact absurd HA.out (by simp [pentroughlaw16_ChansKeeps.j0])
    | succ kj3 =>
      have H := HA.out
      clear HA
      simp only [pentroughlaw16_ChansKeeps.j0] at H
      by_cases c13 : x21_3 = true
      · subst c13
        rw [if_pos rfl] at H
        obtain rfl := Option.some.inj H
        go_wp2
        go_ret
        exact ⟨by first | rfl | (simp [errW_none, errW_some] <;> rfl) | (simp [*, errW_none, errW_some] <;> rfl), by repeat (first | (with_reducible first | exact HB.out | apply below_alloc | apply pw_below_drewN | apply below_drew1 | refine below_set ?_ GE253.out) | exact HB.out)⟩
      · replace c13 := Bool.eq_false_iff.mpr c13
        subst c13
        rw [if_neg nf] at H
        obtain ⟨⟨t257, t260⟩, A14, H⟩ := ob H
        (try dsimp only at H)
        obtain ⟨t261, A15, H⟩ := ob H
        by_cases c16 : t261 = true
        · subst c16
          rw [if_pos rfl] at H
          obtain ⟨⟨t262, t265⟩, A17, H⟩ := ob H
          (try dsimp only at H)
          obtain ⟨⟨t266, t269, t270⟩, A18, H⟩ := ob H
          (try dsimp only at H)
          obtain ⟨⟨t272, t275⟩, A19, H⟩ := ob H
          (try dsimp only at H)
          obtain ⟨⟨t276, t279, t280, t283⟩, A20, H⟩ := ob H
          (try dsimp only at H)
          obtain ⟨⟨t285, t288⟩, A21, H⟩ := ob H
          (try dsimp only at H)
          obtain ⟨⟨t289, t292⟩, A22, H⟩ := ob H
          (try dsimp only at H)
          have HC23 := Aside0.mk H
          clear H
          obtain ⟨hcz24_0, hcz24_1, hfz24_0, hfz24_1⟩ := bc2 BK253
          go_upto_region 10 with (first | ((with_reducible refine gate_dst (N := 6) rfl ?_); (try (refine gate_guard (by rfl) ?_; dsimp only)); refine box_event ?hg (N := 6) ?hd (cs := #[.slice none 0 0, .bool false]) (t := 24) ?hr ?_; (case hd => rfl); (case hg => rfl); (case hr => first | (go_simp; done) | (go_simp; rfl)); intro gb256 hg w25 hbox hb; have BK256 := Aside0.mk hbox; have GW256 := gE HB hg; have GE256 := gE HB hg; replace HB := hB HB hb; have NB253_256 := nL BK253 hg; have NB256_253 := nG BK253 hg; replace BK253 := kB BK253 hb; clear hb hbox hg; have hnb26 := NB256_253.out; have hnc26 := NB253_256.out; obtain ⟨hcz27_0, hcz27_1, hfz27_0, hfz27_1⟩ := bc2 BK256) | ((with_reducible refine gate_store (t := 24) (p := 6) rfl ?_); refine store_event (t := 24) (p := 6) (v := ?vo_w28) (w1 := ((w25.setCell ⟨gb256, 0, none⟩ (.slice A0_0 l0_0.length c0_0)).setCell ⟨gb256, 1, none⟩ (.bool a0_1))) ?hg ?ho ?hn ?hr ?_; (case ho => rfl); (case hg => rfl); (case hn => rfl); (case hr => first | (go_simp; done) | (go_simp; rfl)); intro w28 hw; replace BK253 := kS BK253 hw; replace BK256 := kP2 BK256 hw; replace HB : Aside0 (Below w.heap.size w w28) := ⟨(by rw [hw]; exact (bb HB))⟩; clear hw; obtain ⟨hcz29_0, hcz29_1, hfz29_0, hfz29_1⟩ := bc2 BK253) | ((with_reducible refine gate_callee (f := 12) rfl ?_); refine gL (some 25) rfl rfl Try.func12 (by kernel_rfl) rfl #[.agg #[.slice A0_0 l0_0.length c0_0, .bool a0_1]] rfl ?_; (with_reducible refine (pentroughlaw16_ours.calls (fun k_ => k_ < w.heap.size) _ _ l0_0 a0_1 t257 t260 _ ?side1 A14.out).mono ?_); (case side1 => exact Kd.V_mk HC0_0.out (Kd.F_below (Kd.C_F (Kd.heap_slice 3 (Kd.heap_int .i64)) HR0_0.out) (bb HB))); rintro e w30 ⟨v258, rfl, ho0, hb⟩; refine ⟨_, rfl, ?_⟩; have HO259 := Aside0.mk (Kd.V_lower (Kd.V_mono (ok' := fun k_ => k_ ≠ gb253 ∧ k_ ≠ gb256) ho0 (fun k_ hk_ => ⟨o2 hk_ (gw GW253) (Kd.freshB (kk BK253) k_), o2 hk_ (gw GW256) (Kd.freshB (kk BK256) k_)⟩)) (below_size (bb HB))); replace BK253 := kB BK253 hb; replace BK256 := kB BK256 hb; replace HB := hB HB hb; (try clear hb); (try clear hb2); (try clear hk); (try clear hi); (try clear ho0); obtain ⟨Ao31, co31, eo31⟩ := Kd.V_slice HO259.out; subst eo31) | ((with_reducible refine gate_callee (f := 11) rfl ?_); refine gL (some 26) rfl rfl Try.func11 (by kernel_rfl) rfl #[.agg #[.slice Ao31 t257.length co31, .bool t260]] rfl ?_; (with_reducible refine (chans_Sane.calls kj3 _ _ t257 t260 true _ ?side1 ?side2 A15.out).mono ?_); (case side1 => exact (Kd.V_reads' (vv HO259)).2.2); (case side2 => exact (Kd.V_reads' HO259.out).2.1); rintro e w32 ⟨rfl, hb⟩; refine ⟨_, rfl, ?_⟩; replace HO259 := vB HO259 hb; replace BK253 := kB BK253 hb; replace BK256 := kB BK256 hb; replace HB := hB HB hb; (try clear hb); (try clear hb2); (try clear hk); (try clear hi); obtain ⟨hcz33_0, hcz33_1, hfz33_0, hfz33_1⟩ := bc2 BK253) | ((with_reducible refine gate_callee (f := 12) rfl ?_); refine gL (some 31) rfl rfl Try.func12 (by kernel_rfl) rfl #[.agg #[.slice A0_0 l0_0.length c0_0, .bool a0_1]] rfl ?_; (with_reducible refine (pentroughlaw16_ours.calls (fun k_ => k_ < w.heap.size) _ _ l0_0 a0_1 t262 t265 _ ?side1 A17.out).mono ?_); (case side1 => exact Kd.V_mk HC0_0.out (Kd.F_below (Kd.C_F (Kd.heap_slice 3 (Kd.heap_int .i64)) HR0_0.out) (bb HB))); rintro e w34 ⟨v263, rfl, ho0, hb⟩; refine ⟨_, rfl, ?_⟩; replace HO259 := vB HO259 hb; have HO264 := Aside0.mk (Kd.V_lower (Kd.V_mono (ok' := fun k_ => k_ ≠ gb253 ∧ k_ ≠ gb256) ho0 (fun k_ hk_ => ⟨o2 hk_ (gw GW253) (Kd.freshB (kk BK253) k_), o2 hk_ (gw GW256) (Kd.freshB (kk BK256) k_)⟩)) (below_size (bb HB))); replace BK253 := kB BK253 hb; replace BK256 := kB BK256 hb; replace HB := hB HB hb; (try clear hb); (try clear hb2); (try clear hk); (try clear hi); (try clear ho0); obtain ⟨Ao35, co35, eo35⟩ := Kd.V_slice HO264.out; subst eo35) | ((with_reducible refine gate_callee (f := 13) rfl ?_); refine gL (some 33) rfl rfl Try.func13 (by kernel_rfl) rfl #[.agg #[.slice Ao35 t262.length co35, .bool t265], .slice A1 l1.length c1] rfl ?_; (with_reducible refine (chans_Put.calls kj3 (fun k_ => (k_ ≠ gb253 ∧ k_ ≠ gb256)) _ _ t262 t265 (fun k_ => k_ < w.heap.size) _ _ l1 t266 t269 t270 _ ?side1 ?side2 A18.out).mono ?_); (case side1 => exact HO264.out); (case side2 => exact Kd.V_mk HC1.out (Kd.F_below (Kd.C_F (Kd.heap_int .i64) HR1.out) (bb HB))); rintro e w36 ⟨v267, rfl, ho0, hb⟩; refine ⟨_, rfl, ?_⟩; replace HO259 := vB HO259 hb; replace HO264 := vB HO264 hb; have HO268 := Aside0.mk (Kd.V_lower (Kd.V_mono (ok' := fun k_ => k_ ≠ gb253 ∧ k_ ≠ gb256) ho0 (fun k_ hk_ => ⟨Or.elim hk_ (fun hs_ => Or.elim hs_ (fun hs_ => hs_.1) (gw GW253)) (fun hn_ => (Kd.freshB (kk BK253) k_ hn_)), Or.elim hk_ (fun hs_ => Or.elim hs_ (fun hs_ => hs_.2) (gw GW256)) (fun hn_ => (Kd.freshB (kk BK256) k_ hn_))⟩)) (below_size (bb HB))); replace BK253 := kB BK253 hb; replace BK256 := kB BK256 hb; replace HB := hB HB hb; (try clear hb); (try clear hb2); (try clear hk); (try clear hi); (try clear ho0)) | ((with_reducible refine gate_dst (N := 7) rfl ?_); (try (refine gate_guard (by rfl) ?_; dsimp only)); refine box_event ?hg (N := 7) ?hd (cs := #[.slice none 0 0, .bool false]) (t := 28) ?hr ?_; (case hd => rfl); (case hg => rfl); (case hr => first | (go_simp; done) | (go_simp; rfl)); intro gb271 hg w37 hbox hb; replace HO259 := vE HO259 hg hb; replace HO264 := vE HO264 hg hb; replace HO268 := vE HO268 hg hb; have BK271 := Aside0.mk hbox; have GW271 := gE HB hg; have GE271 := gE HB hg; replace HB := hB HB hb; have NB253_271 := nL BK253 hg; have NB271_253 := nG BK253 hg; replace BK253 := kB BK253 hb; have NB256_271 := nL BK256 hg; have NB271_256 := nG BK256 hg; replace BK256 := kB BK256 hb; clear hb hbox hg; obtain ⟨Ao38, co38, eo38⟩ := Kd.V_slice HO268.out; subst eo38; have hnb39 := NB271_253.out; have hnc39 := NB253_271.out; have hnb40 := NB271_256.out; have hnc40 := NB256_271.out; obtain ⟨hcz41_0, hcz41_1, hfz41_0, hfz41_1⟩ := bc2 BK271) | ((with_reducible refine gate_store (t := 28) (p := 7) rfl ?_); refine store_event (t := 28) (p := 7) (v := ?vo_w42) (w1 := ((w37.setCell ⟨gb271, 0, none⟩ (.slice Ao38 t266.length co38)).setCell ⟨gb271, 1, none⟩ (.bool t269))) ?hg ?ho ?hn ?hr ?_; (case ho => rfl); (case hg => rfl); (case hn => rfl); (case hr => first | (go_simp; done) | (go_simp; rfl)); intro w42 hw; replace HO259 := vS (fun k_ => k_ ≠ gb253 ∧ k_ ≠ gb256 ∧ k_ ≠ gb271) HO259 hw; replace HO264 := vS (fun k_ => k_ ≠ gb253 ∧ k_ ≠ gb256 ∧ k_ ≠ gb271) HO264 hw; replace HO268 := vS (fun k_ => k_ ≠ gb253 ∧ k_ ≠ gb256 ∧ k_ ≠ gb271) HO268 hw; replace BK253 := kS BK253 hw; replace BK256 := kS BK256 hw; replace BK271 := kP2 BK271 hw; replace HB : Aside0 (Below w.heap.size w w42) := ⟨(by rw [hw]; exact (bb HB))⟩; clear hw; obtain ⟨hcz43_0, hcz43_1, hfz43_0, hfz43_1⟩ := bc2 BK253) | ((with_reducible refine gate_callee (f := 12) rfl ?_); refine gL (some 38) rfl rfl Try.func12 (by kernel_rfl) rfl #[.agg #[.slice A0_0 l0_0.length c0_0, .bool a0_1]] rfl ?_; (with_reducible refine (pentroughlaw16_ours.calls (fun k_ => k_ < w.heap.size) _ _ l0_0 a0_1 t272 t275 _ ?side1 A19.out).mono ?_); (case side1 => exact Kd.V_mk HC0_0.out (Kd.F_below (Kd.C_F (Kd.heap_slice 3 (Kd.heap_int .i64)) HR0_0.out) (bb HB))); rintro e w44 ⟨v273, rfl, ho0, hb⟩; refine ⟨_, rfl, ?_⟩; replace HO259 := vB HO259 hb; replace HO264 := vB HO264 hb; replace HO268 := vB HO268 hb; have HO274 := Aside0.mk (Kd.V_lower (Kd.V_mono (ok' := fun k_ => k_ ≠ gb253 ∧ k_ ≠ gb256 ∧ k_ ≠ gb271) ho0 (fun k_ hk_ => ⟨o2 hk_ (gw GW253) (Kd.freshB (kk BK253) k_), o2 hk_ (gw GW256) (Kd.freshB (kk BK256) k_), o2 hk_ (gw GW271) (Kd.freshB (kk BK271) k_)⟩)) (below_size (bb HB))); replace BK253 := kB BK253 hb; replace BK256 := kB BK256 hb; replace BK271 := kB BK271 hb; replace HB := hB HB hb; (try clear hb); (try clear hb2); (try clear hk); (try clear hi); (try clear ho0); obtain ⟨Ao45, co45, eo45⟩ := Kd.V_slice HO274.out; subst eo45) | ((with_reducible refine gate_callee (f := 14) rfl ?_); refine gL (some 39) rfl rfl Try.func14 (by kernel_rfl) rfl #[.agg #[.slice Ao45 t272.length co45, .bool t275]] rfl ?_; (with_reducible refine (chans_Take.calls kj3 (fun k_ => (k_ ≠ gb253 ∧ (k_ ≠ gb256 ∧ k_ ≠ gb271))) _ _ t272 t275 t276 t279 t280 t283 _ ?side1 A20.out).mono ?_); (case side1 => exact HO274.out); rintro e w46 ⟨v277, v281, rfl, ho0, ho1, hb⟩; refine ⟨_, rfl, ?_⟩; replace HO259 := vB HO259 hb; replace HO264 := vB HO264 hb; replace HO268 := vB HO268 hb; replace HO274 := vB HO274 hb; have HO278 := Aside0.mk (Kd.V_lower (Kd.V_mono (ok' := fun k_ => k_ ≠ gb253 ∧ k_ ≠ gb256 ∧ k_ ≠ gb271) ho0 (fun k_ hk_ => ⟨o2 hk_ (fun h => h.1) (Kd.freshB (kk BK253) k_), o2 hk_ (fun h => h.2.1) (Kd.freshB (kk BK256) k_), o2 hk_ (fun h => h.2.2) (Kd.freshB (kk BK271) k_)⟩)) (below_size (bb HB))); have HO282 := Aside0.mk (Kd.V_lower (Kd.V_mono (ok' := fun k_ => k_ ≠ gb253 ∧ k_ ≠ gb256 ∧ k_ ≠ gb271) ho1 (fun k_ hk_ => ⟨o2 hk_ (fun h => h.1) (Kd.freshB (kk BK253) k_), o2 hk_ (fun h => h.2.1) (Kd.freshB (kk BK256) k_), o2 hk_ (fun h => h.2.2) (Kd.freshB (kk BK271) k_)⟩)) (below_size (bb HB))); replace BK253 := kB BK253 hb; replace BK256 := kB BK256 hb; replace BK271 := kB BK271 hb; replace HB := hB HB hb; (try clear hb); (try clear hb2); (try clear hk); (try clear hi); (try clear ho0); (try clear ho1)) | ((with_reducible refine gate_dst (N := 9) rfl ?_); (try (refine gate_guard (by rfl) ?_; dsimp only)); refine box_event ?hg (N := 9) ?hd (cs := #[.slice none 0 0, .bool false]) (t := 28) ?hr ?_; (case hd => rfl); (case hg => rfl); (case hr => first | (go_simp; done) | (go_simp; rfl)); intro gb284 hg w47 hbox hb; replace HO259 := vE HO259 hg hb; replace HO264 := vE HO264 hg hb; replace HO268 := vE HO268 hg hb; replace HO274 := vE HO274 hg hb; replace HO278 := vE HO278 hg hb; replace HO282 := vE HO282 hg hb; have BK284 := Aside0.mk hbox; have GW284 := gE HB hg; have GE284 := gE HB hg; replace HB := hB HB hb; have NB253_284 := nL BK253 hg; have NB284_253 := nG BK253 hg; replace BK253 := kB BK253 hb; have NB256_284 := nL BK256 hg; have NB284_256 := nG BK256 hg; replace BK256 := kB BK256 hb; have NB271_284 := nL BK271 hg; have NB284_271 := nG BK271 hg; replace BK271 := kB BK271 hb; clear hb hbox hg; obtain ⟨Ao48, co48, eo48⟩ := Kd.V_slice HO278.out; subst eo48; have hnb49 := NB284_253.out; have hnc49 := NB253_284.out; have hnb50 := NB284_256.out; have hnc50 := NB256_284.out; have hnb51 := NB284_271.out; have hnc51 := NB271_284.out; obtain ⟨hcz52_0, hcz52_1, hfz52_0, hfz52_1⟩ := bc2 BK284) | ((with_reducible refine gate_store (t := 28) (p := 9) rfl ?_); refine store_event (t := 28) (p := 9) (v := ?vo_w53) (w1 := ((w47.setCell ⟨gb284, 0, none⟩ (.slice Ao48 t276.length co48)).setCell ⟨gb284, 1, none⟩ (.bool t279))) ?hg ?ho ?hn ?hr ?_; (case ho => rfl); (case hg => rfl); (case hn => rfl); (case hr => first | (go_simp; done) | (go_simp; rfl)); intro w53 hw; replace HO259 := vS (fun k_ => k_ ≠ gb253 ∧ k_ ≠ gb256 ∧ k_ ≠ gb271 ∧ k_ ≠ gb284) HO259 hw; replace HO264 := vS (fun k_ => k_ ≠ gb253 ∧ k_ ≠ gb256 ∧ k_ ≠ gb271 ∧ k_ ≠ gb284) HO264 hw; replace HO268 := vS (fun k_ => k_ ≠ gb253 ∧ k_ ≠ gb256 ∧ k_ ≠ gb271 ∧ k_ ≠ gb284) HO268 hw; replace HO274 := vS (fun k_ => k_ ≠ gb253 ∧ k_ ≠ gb256 ∧ k_ ≠ gb271 ∧ k_ ≠ gb284) HO274 hw; replace HO278 := vS (fun k_ => k_ ≠ gb253 ∧ k_ ≠ gb256 ∧ k_ ≠ gb271 ∧ k_ ≠ gb284) HO278 hw; replace HO282 := vS (fun k_ => k_ ≠ gb253 ∧ k_ ≠ gb256 ∧ k_ ≠ gb271 ∧ k_ ≠ gb284) HO282 hw; replace BK253 := kS BK253 hw; replace BK256 := kS BK256 hw; replace BK271 := kS BK271 hw; replace BK284 := kP2 BK284 hw; replace HB : Aside0 (Below w.heap.size w w53) := ⟨(by rw [hw]; exact (bb HB))⟩; clear hw; obtain ⟨hcz54_0, hcz54_1, hfz54_0, hfz54_1⟩ := bc2 BK253) | ((with_reducible refine gate_callee (f := 12) rfl ?_); refine gL (some 44) rfl rfl Try.func12 (by kernel_rfl) rfl #[.agg #[.slice A0_0 l0_0.length c0_0, .bool a0_1]] rfl ?_; (with_reducible refine (pentroughlaw16_ours.calls (fun k_ => k_ < w.heap.size) _ _ l0_0 a0_1 t285 t288 _ ?side1 A21.out).mono ?_); (case side1 => exact Kd.V_mk HC0_0.out (Kd.F_below (Kd.C_F (Kd.heap_slice 3 (Kd.heap_int .i64)) HR0_0.out) (bb HB))); rintro e w55 ⟨v286, rfl, ho0, hb⟩; refine ⟨_, rfl, ?_⟩; replace HO259 := vB HO259 hb; replace HO264 := vB HO264 hb; replace HO268 := vB HO268 hb; replace HO274 := vB HO274 hb; replace HO278 := vB HO278 hb; replace HO282 := vB HO282 hb; have HO287 := Aside0.mk (Kd.V_lower (Kd.V_mono (ok' := fun k_ => k_ ≠ gb253 ∧ k_ ≠ gb256 ∧ k_ ≠ gb271 ∧ k_ ≠ gb284) ho0 (fun k_ hk_ => ⟨o2 hk_ (gw GW253) (Kd.freshB (kk BK253) k_), o2 hk_ (gw GW256) (Kd.freshB (kk BK256) k_), o2 hk_ (gw GW271) (Kd.freshB (kk BK271) k_), o2 hk_ (gw GW284) (Kd.freshB (kk BK284) k_)⟩)) (below_size (bb HB))); replace BK253 := kB BK253 hb; replace BK256 := kB BK256 hb; replace BK271 := kB BK271 hb; replace BK284 := kB BK284 hb; replace HB := hB HB hb; (try clear hb); (try clear hb2); (try clear hk); (try clear hi); (try clear ho0); obtain ⟨Ao56, co56, eo56⟩ := Kd.V_slice HO287.out; subst eo56) | ((with_reducible refine gate_callee (f := 16) rfl ?_); refine gL (some 45) rfl rfl Try.func16 (by kernel_rfl) rfl #[.agg #[.slice Ao56 t285.length co56, .bool t288]] rfl ?_; (with_reducible refine (chans_Close.calls kj3 (fun k_ => (k_ ≠ gb253 ∧ (k_ ≠ gb256 ∧ (k_ ≠ gb271 ∧ k_ ≠ gb284)))) _ _ t285 t288 t289 t292 _ ?side1 A22.out).mono ?_); (case side1 => exact HO287.out); rintro e w57 ⟨v290, rfl, ho0, hb⟩; refine ⟨_, rfl, ?_⟩; replace HO259 := vB HO259 hb; replace HO264 := vB HO264 hb; replace HO268 := vB HO268 hb; replace HO274 := vB HO274 hb; replace HO278 := vB HO278 hb; replace HO282 := vB HO282 hb; replace HO287 := vB HO287 hb; have HO291 := Aside0.mk (Kd.V_lower (Kd.V_mono (ok' := fun k_ => k_ ≠ gb253 ∧ k_ ≠ gb256 ∧ k_ ≠ gb271 ∧ k_ ≠ gb284) ho0 (fun k_ hk_ => ⟨o2 hk_ (fun h => h.1) (Kd.freshB (kk BK253) k_), o2 hk_ (fun h => h.2.1) (Kd.freshB (kk BK256) k_), o2 hk_ (fun h => h.2.2.1) (Kd.freshB (kk BK271) k_), o2 hk_ (fun h => h.2.2.2) (Kd.freshB (kk BK284) k_)⟩)) (below_size (bb HB))); replace BK253 := kB BK253 hb; replace BK256 := kB BK256 hb; replace BK271 := kB BK271 hb; replace BK284 := kB BK284 hb; replace HB := hB HB hb; (try clear hb); (try clear hb2); (try clear hk); (try clear hi); (try clear ho0)) | ((with_reducible refine gate_dst (N := 12) rfl ?_); (try (refine gate_guard (by rfl) ?_; dsimp only)); refine box_event ?hg (N := 12) ?hd (cs := #[.slice none 0 0, .bool false]) (t := 28) ?hr ?_; (case hd => rfl); (case hg => rfl); (case hr => first | (go_simp; done) | (go_simp; rfl)); intro gb293 hg w58 hbox hb; replace HO259 := vE HO259 hg hb; replace HO264 := vE HO264 hg hb; replace HO268 := vE HO268 hg hb; replace HO274 := vE HO274 hg hb; replace HO278 := vE HO278 hg hb; replace HO282 := vE HO282 hg hb; replace HO287 := vE HO287 hg hb; replace HO291 := vE HO291 hg hb; have BK293 := Aside0.mk hbox; have GW293 := gE HB hg; have GE293 := gE HB hg; replace HB := hB HB hb; have NB253_293 := nL BK253 hg; have NB293_253 := nG BK253 hg; replace BK253 := kB BK253 hb; have NB256_293 := nL BK256 hg; have NB293_256 := nG BK256 hg; replace BK256 := kB BK256 hb; have NB271_293 := nL BK271 hg; have NB293_271 := nG BK271 hg; replace BK271 := kB BK271 hb; have NB284_293 := nL BK284 hg; have NB293_284 := nG BK284 hg; replace BK284 := kB BK284 hb; clear hb hbox hg; obtain ⟨Ao59, co59, eo59⟩ := Kd.V_slice HO291.out; subst eo59; have hnb60 := NB293_253.out; have hnc60 := NB253_293.out; have hnb61 := NB293_256.out; have hnc61 := NB256_293.out; have hnb62 := NB293_271.out; have hnc62 := NB271_293.out; have hnb63 := NB293_284.out; have hnc63 := NB284_293.out; obtain ⟨hcz64_0, hcz64_1, hfz64_0, hfz64_1⟩ := bc2 BK293) | ((with_reducible refine gate_store (t := 28) (p := 12) rfl ?_); refine store_event (t := 28) (p := 12) (v := ?vo_w65) (w1 := ((w58.setCell ⟨gb293, 0, none⟩ (.slice Ao59 t289.length co59)).setCell ⟨gb293, 1, none⟩ (.bool t292))) ?hg ?ho ?hn ?hr ?_; (case ho => rfl); (case hg => rfl); (case hn => rfl); (case hr => first | (go_simp; done) | (go_simp; rfl)); intro w65 hw; replace HO259 := vS (fun k_ => k_ ≠ gb253 ∧ k_ ≠ gb256 ∧ k_ ≠ gb271 ∧ k_ ≠ gb284 ∧ k_ ≠ gb293) HO259 hw; replace HO264 := vS (fun k_ => k_ ≠ gb253 ∧ k_ ≠ gb256 ∧ k_ ≠ gb271 ∧ k_ ≠ gb284 ∧ k_ ≠ gb293) HO264 hw; replace HO268 := vS (fun k_ => k_ ≠ gb253 ∧ k_ ≠ gb256 ∧ k_ ≠ gb271 ∧ k_ ≠ gb284 ∧ k_ ≠ gb293) HO268 hw; replace HO274 := vS (fun k_ => k_ ≠ gb253 ∧ k_ ≠ gb256 ∧ k_ ≠ gb271 ∧ k_ ≠ gb284 ∧ k_ ≠ gb293) HO274 hw; replace HO278 := vS (fun k_ => k_ ≠ gb253 ∧ k_ ≠ gb256 ∧ k_ ≠ gb271 ∧ k_ ≠ gb284 ∧ k_ ≠ gb293) HO278 hw; replace HO282 := vS (fun k_ => k_ ≠ gb253 ∧ k_ ≠ gb256 ∧ k_ ≠ gb271 ∧ k_ ≠ gb284 ∧ k_ ≠ gb293) HO282 hw; replace HO287 := vS (fun k_ => k_ ≠ gb253 ∧ k_ ≠ gb256 ∧ k_ ≠ gb271 ∧ k_ ≠ gb284 ∧ k_ ≠ gb293) HO287 hw; replace HO291 := vS (fun k_ => k_ ≠ gb253 ∧ k_ ≠ gb256 ∧ k_ ≠ gb271 ∧ k_ ≠ gb284 ∧ k_ ≠ gb293) HO291 hw; replace BK253 := kS BK253 hw; replace BK256 := kS BK256 hw; replace BK271 := kS BK271 hw; replace BK284 := kS BK284 hw; replace BK293 := kP2 BK293 hw; replace HB : Aside0 (Below w.heap.size w w65) := ⟨(by rw [hw]; exact (bb HB))⟩; clear hw))
          (try simp only [Act.put, List.setIfInBounds_toArray, List.set_cons_zero, List.set_cons_succ])
          go_cut [63] (fun v63 wc => ∃ (kq : Nat) (x63_22 : Bool), v63 = .bool x63_22 ∧ Aside0 (pentroughlaw16_ChansKeeps.j1 kq l1 t254 t270 t283 x63_22 l0_0 a0_1 t266 t269 t276 t279 t289 t292 = some r) ∧ Aside0 (kq ≤ kj3) ∧ Aside0 (Kd.V (Kd.slice 3 (Kd.int .i64)) 32 wc w.heap.size (fun k_ => k_ ≠ gb253 ∧ k_ ≠ gb256 ∧ k_ ≠ gb271 ∧ k_ ≠ gb284 ∧ k_ ≠ gb293) (.slice Ao38 t266.length co38) t266) ∧ Aside0 (Kd.V (Kd.slice 3 (Kd.int .i64)) 32 wc w.heap.size (fun k_ => k_ ≠ gb253 ∧ k_ ≠ gb256 ∧ k_ ≠ gb271 ∧ k_ ≠ gb284 ∧ k_ ≠ gb293) (.slice Ao48 t276.length co48) t276) ∧ Aside0 (Kd.V (Kd.slice 3 (Kd.int .i64)) 32 wc w.heap.size (fun k_ => k_ ≠ gb253 ∧ k_ ≠ gb256 ∧ k_ ≠ gb271 ∧ k_ ≠ gb284 ∧ k_ ≠ gb293) (.slice Ao59 t289.length co59) t289) ∧ Aside0 (wc.heap[gb253]? = some (.cells #[(.slice A0_0 l0_0.length c0_0), .bool a0_1] 24 (0, 0))) ∧ Aside0 (wc.heap[gb256]? = some (.cells #[(.slice A0_0 l0_0.length c0_0), .bool a0_1] 24 (0, 0))) ∧ Aside0 (wc.heap[gb271]? = some (.cells #[(.slice Ao38 t266.length co38), .bool t269] 28 (0, 0))) ∧ Aside0 (wc.heap[gb284]? = some (.cells #[(.slice Ao48 t276.length co48), .bool t279] 28 (0, 0))) ∧ Aside0 (wc.heap[gb293]? = some (.cells #[(.slice Ao59 t289.length co59), .bool t292] 28 (0, 0))) ∧ Aside0 (Below w.heap.size w wc))
          case first =>
            have H := HC23.out
            clear HC23
            by_cases c66 : t270 = true
            · subst c66
              rw [if_pos rfl] at H
              by_cases c67 : t283 = true
              · subst c67
                rw [if_pos rfl] at H
                have H' := Aside0.mk H
                clear H
                go_wp2
                go_meet
                case rel => exact ⟨_, (false), (by first | rfl | (simp; done) | (simp [*]; done)), H', ⟨by have := HJ3.out; first | omega | exact Nat.le_refl _⟩, ⟨vM HO268⟩, ⟨vM HO278⟩, ⟨vM HO291⟩, ⟨kk BK253⟩, ⟨kk BK256⟩, ⟨kk BK271⟩, ⟨kk BK284⟩, ⟨kk BK293⟩, ⟨bb HB⟩⟩
              · replace c67 := Bool.eq_false_iff.mpr c67
                subst c67
                rw [if_neg nf] at H
                obtain ⟨t294, A68, H⟩ := ob H
                have H' := Aside0.mk H
                clear H
                have hnb69 := NB284_253.out
                have hnc69 := NB253_284.out
                have hnb70 := NB284_256.out
                have hnc70 := NB256_284.out
                have hnb71 := NB284_271.out
                have hnc71 := NB271_284.out
                have hnb72 := NB284_293.out
                have hnc72 := NB293_284.out
                obtain ⟨hcz73_0, hcz73_1, hfz73_0, hfz73_1⟩ := bc2 BK284
                have hnb74 := NB256_253.out
                have hnc74 := NB253_256.out
                have hnb75 := NB256_271.out
                have hnc75 := NB271_256.out
                have hnb76 := NB256_293.out
                have hnc76 := NB293_256.out
                obtain ⟨hcz77_0, hcz77_1, hfz77_0, hfz77_1⟩ := bc2 BK256
                go_wp2_with (first | (go_at_call 19; (with_reducible refine (pentroughlaw16_same.calls kj3 _ _ t276 t279 _ _ l0_0 a0_1 t294 _ ?side1 ?side2 ?side3 ?side4 A68.out).mono ?_); (case side1 => exact (Kd.V_reads' (vv HO278)).2.2); (case side2 => exact (Kd.V_reads' HO278.out).2.1); (case side3 => exact Kd.C_below HR0_0.out (bb HB)); (case side4 => exact HC0_0.out); rintro e w78 ⟨rfl, hb⟩; replace HO259 := vB HO259 hb; replace HO264 := vB HO264 hb; replace HO268 := vB HO268 hb; replace HO274 := vB HO274 hb; replace HO278 := vB HO278 hb; replace HO282 := vB HO282 hb; replace HO287 := vB HO287 hb; replace HO291 := vB HO291 hb; replace BK253 := kB BK253 hb; replace BK256 := kB BK256 hb; replace BK271 := kB BK271 hb; replace BK284 := kB BK284 hb; replace BK293 := kB BK293 hb; replace HB := hB HB hb; (try clear hb); (try clear hb2); (try clear hk); (try clear hi)))
                go_meet
                case rel => exact ⟨_, (!t294), (by first | rfl | (simp; done) | (simp [*]; done)), H', ⟨by have := HJ3.out; first | omega | exact Nat.le_refl _⟩, ⟨vM HO268⟩, ⟨vM HO278⟩, ⟨vM HO291⟩, ⟨kk BK253⟩, ⟨kk BK256⟩, ⟨kk BK271⟩, ⟨kk BK284⟩, ⟨kk BK293⟩, ⟨bb HB⟩⟩
            · replace c66 := Bool.eq_false_iff.mpr c66
              subst c66
              rw [if_neg nf] at H
              obtain ⟨t295, A79, H⟩ := ob H
              by_cases c80 : t295 = true
              · subst c80
                rw [if_pos rfl] at H
                by_cases c81 : t283 = true
                · subst c81
                  rw [if_pos rfl] at H
                  have H' := Aside0.mk H
                  clear H
                  have hnb82 := NB271_253.out
                  have hnc82 := NB253_271.out
                  have hnb83 := NB271_256.out
                  have hnc83 := NB256_271.out
                  have hnb84 := NB271_284.out
                  have hnc84 := NB284_271.out
                  have hnb85 := NB271_293.out
                  have hnc85 := NB293_271.out
                  obtain ⟨hcz86_0, hcz86_1, hfz86_0, hfz86_1⟩ := bc2 BK271
                  have hnb87 := NB256_253.out
                  have hnc87 := NB253_256.out
                  have hnb88 := NB256_284.out
                  have hnc88 := NB284_256.out
                  have hnb89 := NB256_293.out
                  have hnc89 := NB293_256.out
                  obtain ⟨hcz90_0, hcz90_1, hfz90_0, hfz90_1⟩ := bc2 BK256
                  go_wp2_with (first | (go_at_call 19; (with_reducible refine (pentroughlaw16_same.calls kj3 _ _ t266 t269 _ _ l0_0 a0_1 true _ ?side1 ?side2 ?side3 ?side4 A79.out).mono ?_); (case side1 => exact (Kd.V_reads' (vv HO268)).2.2); (case side2 => exact (Kd.V_reads' HO268.out).2.1); (case side3 => exact Kd.C_below HR0_0.out (bb HB)); (case side4 => exact HC0_0.out); rintro e w91 ⟨rfl, hb⟩; replace HO259 := vB HO259 hb; replace HO264 := vB HO264 hb; replace HO268 := vB HO268 hb; replace HO274 := vB HO274 hb; replace HO278 := vB HO278 hb; replace HO282 := vB HO282 hb; replace HO287 := vB HO287 hb; replace HO291 := vB HO291 hb; replace BK253 := kB BK253 hb; replace BK256 := kB BK256 hb; replace BK271 := kB BK271 hb; replace BK284 := kB BK284 hb; replace BK293 := kB BK293 hb; replace HB := hB HB hb; (try clear hb); (try clear hb2); (try clear hk); (try clear hi)))
                  go_meet
                  case rel => exact ⟨_, (false), (by first | rfl | (simp; done) | (simp [*]; done)), H', ⟨by have := HJ3.out; first | omega | exact Nat.le_refl _⟩, ⟨vM HO268⟩, ⟨vM HO278⟩, ⟨vM HO291⟩, ⟨kk BK253⟩, ⟨kk BK256⟩, ⟨kk BK271⟩, ⟨kk BK284⟩, ⟨kk BK293⟩, ⟨bb HB⟩⟩
                · replace c81 := Bool.eq_false_iff.mpr c81
                  subst c81
                  rw [if_neg nf] at H
                  obtain ⟨t296, A92, H⟩ := ob H
                  have H' := Aside0.mk H
                  clear H
                  have hnb93 := NB271_253.out
                  have hnc93 := NB253_271.out
                  have hnb94 := NB271_256.out
                  have hnc94 := NB256_271.out
                  have hnb95 := NB271_284.out
                  have hnc95 := NB284_271.out
                  have hnb96 := NB271_293.out
                  have hnc96 := NB293_271.out
                  obtain ⟨hcz97_0, hcz97_1, hfz97_0, hfz97_1⟩ := bc2 BK271
                  have hnb98 := NB256_253.out
                  have hnc98 := NB253_256.out
                  have hnb99 := NB256_284.out
                  have hnc99 := NB284_256.out
                  have hnb100 := NB256_293.out
                  have hnc100 := NB293_256.out
                  obtain ⟨hcz101_0, hcz101_1, hfz101_0, hfz101_1⟩ := bc2 BK256
                  go_wp2_with (first | (go_at_call 19; (with_reducible refine (pentroughlaw16_same.calls kj3 _ _ t266 t269 _ _ l0_0 a0_1 true _ ?side1 ?side2 ?side3 ?side4 A79.out).mono ?_); (case side1 => exact (Kd.V_reads' (vv HO268)).2.2); (case side2 => exact (Kd.V_reads' HO268.out).2.1); (case side3 => exact Kd.C_below HR0_0.out (bb HB)); (case side4 => exact HC0_0.out); rintro e w102 ⟨rfl, hb⟩; replace HO259 := vB HO259 hb; replace HO264 := vB HO264 hb; replace HO268 := vB HO268 hb; replace HO274 := vB HO274 hb; replace HO278 := vB HO278 hb; replace HO282 := vB HO282 hb; replace HO287 := vB HO287 hb; replace HO291 := vB HO291 hb; replace BK253 := kB BK253 hb; replace BK256 := kB BK256 hb; replace BK271 := kB BK271 hb; replace BK284 := kB BK284 hb; replace BK293 := kB BK293 hb; replace HB := hB HB hb; (try clear hb); (try clear hb2); (try clear hk); (try clear hi); have hnb103 := NB284_253.out; have hnc103 := NB253_284.out; have hnb104 := NB284_293.out; have hnc104 := NB293_284.out; obtain ⟨hcz105_0, hcz105_1, hfz105_0, hfz105_1⟩ := bc2 BK284; obtain ⟨hcz106_0, hcz106_1, hfz106_0, hfz106_1⟩ := bc2 BK256) | (go_at_call 19; (with_reducible refine (pentroughlaw16_same.calls kj3 _ _ t276 t279 _ _ l0_0 a0_1 t296 _ ?side1 ?side2 ?side3 ?side4 A92.out).mono ?_); (case side1 => exact (Kd.V_reads' (vv HO278)).2.2); (case side2 => exact (Kd.V_reads' HO278.out).2.1); (case side3 => exact Kd.C_below HR0_0.out (bb HB)); (case side4 => exact HC0_0.out); rintro e w107 ⟨rfl, hb⟩; replace HO259 := vB HO259 hb; replace HO264 := vB HO264 hb; replace HO268 := vB HO268 hb; replace HO274 := vB HO274 hb; replace HO278 := vB HO278 hb; replace HO282 := vB HO282 hb; replace HO287 := vB HO287 hb; replace HO291 := vB HO291 hb; replace BK253 := kB BK253 hb; replace BK256 := kB BK256 hb; replace BK271 := kB BK271 hb; replace BK284 := kB BK284 hb; replace BK293 := kB BK293 hb; replace HB := hB HB hb; (try clear hb); (try clear hb2); (try clear hk); (try clear hi)))
                  go_meet
                  case rel => exact ⟨_, (!t296), (by first | rfl | (simp; done) | (simp [*]; done)), H', ⟨by have := HJ3.out; first | omega | exact Nat.le_refl _⟩, ⟨vM HO268⟩, ⟨vM HO278⟩, ⟨vM HO291⟩, ⟨kk BK253⟩, ⟨kk BK256⟩, ⟨kk BK271⟩, ⟨kk BK284⟩, ⟨kk BK293⟩, ⟨bb HB⟩⟩
              · replace c80 := Bool.eq_false_iff.mpr c80
                subst c80
                rw [if_neg nf] at H
                have H' := Aside0.mk H
                clear H
                have hnb108 := NB271_253.out
                have hnc108 := NB253_271.out
                have hnb109 := NB271_256.out
                have hnc109 := NB256_271.out
                have hnb110 := NB271_284.out
                have hnc110 := NB284_271.out
                have hnb111 := NB271_293.out
                have hnc111 := NB293_271.out
                obtain ⟨hcz112_0, hcz112_1, hfz112_0, hfz112_1⟩ := bc2 BK271
                have hnb113 := NB256_253.out
                have hnc113 := NB253_256.out
                have hnb114 := NB256_284.out
                have hnc114 := NB284_256.out
                have hnb115 := NB256_293.out
                have hnc115 := NB293_256.out
                obtain ⟨hcz116_0, hcz116_1, hfz116_0, hfz116_1⟩ := bc2 BK256
                go_wp2_with (first | (go_at_call 19; (with_reducible refine (pentroughlaw16_same.calls kj3 _ _ t266 t269 _ _ l0_0 a0_1 false _ ?side1 ?side2 ?side3 ?side4 A79.out).mono ?_); (case side1 => exact (Kd.V_reads' (vv HO268)).2.2); (case side2 => exact (Kd.V_reads' HO268.out).2.1); (case side3 => exact Kd.C_below HR0_0.out (bb HB)); (case side4 => exact HC0_0.out); rintro e w117 ⟨rfl, hb⟩; replace HO259 := vB HO259 hb; replace HO264 := vB HO264 hb; replace HO268 := vB HO268 hb; replace HO274 := vB HO274 hb; replace HO278 := vB HO278 hb; replace HO282 := vB HO282 hb; replace HO287 := vB HO287 hb; replace HO291 := vB HO291 hb; replace BK253 := kB BK253 hb; replace BK256 := kB BK256 hb; replace BK271 := kB BK271 hb; replace BK284 := kB BK284 hb; replace BK293 := kB BK293 hb; replace HB := hB HB hb; (try clear hb); (try clear hb2); (try clear hk); (try clear hi)))
                go_meet
                case rel => exact ⟨_, (true), (by first | rfl | (simp; done) | (simp [*]; done)), H', ⟨by have := HJ3.out; first | omega | exact Nat.le_refl _⟩, ⟨vM HO268⟩, ⟨vM HO278⟩, ⟨vM HO291⟩, ⟨kk BK253⟩, ⟨kk BK256⟩, ⟨kk BK271⟩, ⟨kk BK284⟩, ⟨kk BK293⟩, ⟨bb HB⟩⟩
          case rest =>
            clear HC23
            try clear c1
            try clear c2
            try clear p2
            try clear c3
            try clear c4
            try clear c5
            try clear c6
            try clear c7
            try clear c8
            try clear c9
            try clear c10
            try clear c11
            try clear c12
            try clear c13
            try clear c14
            try clear c16
            try clear c26
            try clear c39
            try clear c40
            try clear c49
            try clear c50
            try clear c51
            try clear c60
            try clear c61
            try clear c62
            try clear c63
            try clear c66
            try clear c67
            try clear c69
            try clear c70
            try clear c71
            try clear c72
            try clear c74
            try clear c75
            try clear c76
            try clear c80
            try clear c81
            try clear c82
            try clear c83
            try clear c84
            try clear c85
            try clear c87
            try clear c88
            try clear c89
            try clear c93
            try clear c94
            try clear c95
            try clear c96
            try clear c98
            try clear c99
            try clear c100
            try clear c103
            try clear c104
            try clear c108
            try clear c109
            try clear c110
            try clear c111
            try clear c113
            try clear c114
            try clear c115
            try clear hcz101_0
            try clear hcz101_1
            try clear hcz105_0
            try clear hcz105_1
            try clear hcz106_0
            try clear hcz106_1
            try clear hcz112_0
            try clear hcz112_1
            try clear hcz116_0
            try clear hcz116_1
            try clear hcz11_0
            try clear hcz11_1
            try clear hcz24_0
            try clear hcz24_1
            try clear hcz27_0
            try clear hcz27_1
            try clear hcz29_0
            try clear hcz29_1
            try clear hcz33_0
            try clear hcz33_1
            try clear hcz41_0
            try clear hcz41_1
            try clear hcz43_0
            try clear hcz43_1
            try clear hcz52_0
            try clear hcz52_1
            try clear hcz54_0
            try clear hcz54_1
            try clear hcz64_0
            try clear hcz64_1
            try clear hcz73_0
            try clear hcz73_1
            try clear hcz77_0
            try clear hcz77_1
            try clear hcz86_0
            try clear hcz86_1
            try clear hcz90_0
            try clear hcz90_1
            try clear hcz97_0
            try clear hcz97_1
            try clear hcz9_0
            try clear hcz9_1
            try clear hfz101_0
            try clear hfz101_1
            try clear hfz105_0
            try clear hfz105_1
            try clear hfz106_0
            try clear hfz106_1
            try clear hfz112_0
            try clear hfz112_1
            try clear hfz116_0
            try clear hfz116_1
            try clear hfz11_0
            try clear hfz11_1
            try clear hfz24_0
            try clear hfz24_1
            try clear hfz27_0
            try clear hfz27_1
            try clear hfz29_0
            try clear hfz29_1
            try clear hfz33_0
            try clear hfz33_1
            try clear hfz41_0
            try clear hfz41_1
            try clear hfz43_0
            try clear hfz43_1
            try clear hfz52_0
            try clear hfz52_1
            try clear hfz54_0
            try clear hfz54_1
            try clear hfz64_0
            try clear hfz64_1
            try clear hfz73_0
            try clear hfz73_1
            try clear hfz77_0
            try clear hfz77_1
            try clear hfz86_0
            try clear hfz86_1
            try clear hfz90_0
            try clear hfz90_1
            try clear hfz97_0
            try clear hfz97_1
            try clear hfz9_0
            try clear hfz9_1
            try clear p2
            obtain ⟨kq, x63_22, rfl, HA, HJ22, HO_272000, HO_285000, HO_294000, BK253, BK256, BK271, BK284, BK293, HB⟩ := hcut
            cases kq with
            | zero => exact absurd HA.out (by simp [pentroughlaw16_ChansKeeps.j1])
            | succ kj22 =>
              have H := HA.out
              clear HA
              simp only [pentroughlaw16_ChansKeeps.j1] at H
              by_cases c118 : x63_22 = true
              · subst c118
                rw [if_pos rfl] at H
                cases H; exact absurd HRT.out (by decide)
              · replace c118 := Bool.eq_false_iff.mpr c118
                subst c118
                rw [if_neg nf] at H
                by_cases c119 : t254 = true
                · subst c119
                  rw [if_pos rfl] at H
                  obtain ⟨t297, A120, H⟩ := ob H
                  by_cases c121 : t297 = true
                  · subst c121
                    rw [if_pos rfl] at H
                    obtain ⟨t298, A122, H⟩ := ob H
                    by_cases c123 : t298 = true
                    · subst c123
                      rw [if_pos rfl] at H
                      obtain ⟨t299, A124, H⟩ := ob H
                      by_cases c125 : t299 = true
                      · subst c125
                        rw [if_pos rfl] at H
                        by_cases c126 : t292 = true
                        · subst c126
                          rw [if_pos rfl] at H
                          by_cases c127 : t270 = true
                          · subst c127
                            rw [if_pos rfl] at H
                            obtain ⟨t300, A128, H⟩ := ob H
                            obtain ⟨⟨t301, t304⟩, A129, H⟩ := ob H
                            (try dsimp only at H)
                            obtain ⟨t305, A130, H⟩ := ob H
                            by_cases c131 : t300 = (wrap64 (t305 + (l1.length : Int)))
                            · rw [if_pos c131] at H
                              have c131b0 : (t300 == (wrap64 (t305 + (l1.length : Int)))) = true := beq_iff_eq.mpr c131
                              have c131b1 : (t300 != (wrap64 (t305 + (l1.length : Int)))) = false := bne_eq_false_iff_eq.mpr c131
                              clear c131
                              obtain rfl := Option.some.inj H
                              try go_wp2
                              replace HO_272000 := Aside0.mk (Kd.V_drew HO_272000.out)
                              replace HO_285000 := Aside0.mk (Kd.V_drew HO_285000.out)
                              replace HO_294000 := Aside0.mk (Kd.V_drew HO_294000.out)
                              replace BK253 := Aside0.mk (blk_drew BK253.out)
                              replace BK256 := Aside0.mk (blk_drew BK256.out)
                              replace BK271 := Aside0.mk (blk_drew BK271.out)
                              replace BK284 := Aside0.mk (blk_drew BK284.out)
                              replace BK293 := Aside0.mk (blk_drew BK293.out)
                              replace HB := Aside0.mk (below_drew1 HB.out)
                              refine start_ (n := 41) (S := fun w' => w'.cell? ⟨gb271, 0, none⟩ = some (.slice Ao38 t266.length co38) ∧ w'.cell? ⟨gb271, 1, none⟩ = some (.bool t269) ∧ w'.cell? ⟨gb284, 0, none⟩ = some (.slice Ao48 t276.length co48) ∧ w'.cell? ⟨gb284, 1, none⟩ = some (.bool t279) ∧ w'.cell? ⟨gb293, 0, none⟩ = some (.slice Ao59 t289.length co59) ∧ w'.cell? ⟨gb293, 1, none⟩ = some (.bool true) ∧ w'.cell? ⟨gb256, 0, none⟩ = some (.slice A0_0 l0_0.length c0_0) ∧ w'.cell? ⟨gb256, 1, none⟩ = some (.bool a0_1)) (ds := []) #[false, false, false, false, false, false, false, false, false, false, false, false, false, false, false, false, false, false, false, false, false, false, false, false, false, false, false, false, false, false, false, false, false, false, false, false, false, false, false, false, false] (by kernel_rfl) rfl rfl ⟨cx BK271 0, cx BK271 1, cx BK284 0, cx BK284 1, cx BK293 0, cx BK293 1, cx BK256 0, cx BK256 1⟩ (fun hHeld => ?_); refine with_tabW pentroughlaw16_ChansKeeps.tab12 pentroughlaw16_ChansKeeps.bits12 (fun HT_ HW_ => ?_)
                              generalize wc.drew = w132 at HO_272000 HO_285000 HO_294000 BK253 BK256 BK271 BK284 BK293 HB hHeld ⊢
                              refine pure_ (i := 0) (N := some 64) (v := ?_) (a' := ?_) #[true, false, false, false, false, false, false, false, false, false, false, false, false, false, false, false, false, false, false, false, false, false, false, false, false, false, false, false, false, false, false, false, false, false, false, false, false, false, false, false, false] rfl rfl (any_of HT_.out (by kernel_rfl)) (fun _ _ _ h => h) (Or.inl ⟨by rfl, ?_⟩) ?_ ?_
                              rotate_left
                              · intro w'
                                go_simp
                                with_reducible rfl
                              rotate_left
                              · simp only [Act.put, List.setIfInBounds_toArray, List.set_cons_zero, List.set_cons_succ, i64_w, i32_w]
                                rfl
                              refine pure_ (i := 1) (N := some 65) (v := ?_) (a' := ?_) #[true, true, false, false, false, false, false, false, false, false, false, false, false, false, false, false, false, false, false, false, false, false, false, false, false, false, false, false, false, false, false, false, false, false, false, false, false, false, false, false, false] rfl rfl (any_of HT_.out (by kernel_rfl)) (fun _ _ _ h => h) (Or.inl ⟨by rfl, ?_⟩) ?_ ?_
                              rotate_left
                              · intro w'
                                go_simp
                                with_reducible rfl
                              rotate_left
                              · simp only [Act.put, List.setIfInBounds_toArray, List.set_cons_zero, List.set_cons_succ, i64_w, i32_w]
                                rfl
                              refine take_ (i := 2) (N := some 66) (v := ?_) (a' := ?_) #[true, true, true, false, false, false, false, false, false, false, false, false, false, false, false, false, false, false, false, false, false, false, false, false, false, false, false, false, false, false, false, false, false, false, false, false, false, false, false, false, false] rfl rfl (take_ofW HT_.out HW_.out (by kernel_rfl)) (fun _ _ _ h => h) (Or.inl ⟨by rfl, ?_⟩) hHeld ?_ ?_
                              rotate_left
                              · rintro w' ⟨s0, s1, s2, s3, s4, s5, s6, s7⟩
                                go_simp
                                with_reducible rfl
                              rotate_left
                              · simp only [Act.put, List.setIfInBounds_toArray, List.set_cons_zero, List.set_cons_succ, i64_w, i32_w]
                                rfl
                              refine one_ (i := 3) (N := some 67) #[true, true, true, true, false, false, false, false, false, false, false, false, false, false, false, false, false, false, false, false, false, false, false, false, false, false, false, false, false, false, false, false, false, false, false, false, false, false, false, false, false] rfl rfl (one_of HT_.out (by kernel_rfl)) (by decide) (fun K hK => ?_)
                              refine gs Try.func11 (by kernel_rfl) rfl #[.agg #[.slice Ao38 t266.length co38, .bool t269]] (by rfl) rfl rfl ?_
                              with_reducible refine (chans_Sane.calls kj22 _ _ t266 t269 true _ ?side1 ?side2 A120.out).mono ?_
                              (case side1 => exact (Kd.V_reads' (vv HO_272000)).2.2)
                              (case side2 => exact (Kd.V_reads' HO_272000.out).2.1)
                              rintro e w133 ⟨rfl, hb⟩
                              refine ⟨_, rfl, ?_⟩
                              replace HO_272000 := vB HO_272000 hb
                              replace HO_285000 := vB HO_285000 hb
                              replace HO_294000 := vB HO_294000 hb
                              replace BK253 := kB BK253 hb
                              replace BK256 := kB BK256 hb
                              replace BK271 := kB BK271 hb
                              replace BK284 := kB BK284 hb
                              replace BK293 := kB BK293 hb
                              replace HB := hB HB hb
                              (try clear hb)
                              (try clear hb2)
                              (try clear hk)
                              (try clear hi)
                              refine hK.out _ _ ⟨cx BK271 0, cx BK271 1, cx BK284 0, cx BK284 1, cx BK293 0, cx BK293 1, cx BK256 0, cx BK256 1⟩ (fun hHeld => ?_)
                              clear hK K
                              refine norm_ (a' := ?_) ?_ ?_
                              rotate_left
                              · show Act.put _ (some 67) _ = _
                                simp only [Act.put, List.setIfInBounds_toArray, List.set_cons_zero, List.set_cons_succ, i64_w, i32_w]
                                rfl
                              refine pure_ (i := 4) (N := some 68) (v := ?_) (a' := ?_) #[true, true, true, true, true, false, false, false, false, false, false, false, false, false, false, false, false, false, false, false, false, false, false, false, false, false, false, false, false, false, false, false, false, false, false, false, false, false, false, false, false] rfl rfl (any_of HT_.out (by kernel_rfl)) (fun _ _ _ h => h) (Or.inl ⟨by rfl, ?_⟩) ?_ ?_
                              rotate_left
                              · intro w'
                                go_simp
                                with_reducible rfl
                              rotate_left
                              · simp only [Act.put, List.setIfInBounds_toArray, List.set_cons_zero, List.set_cons_succ, i64_w, i32_w]
                                rfl
                              refine pure_ (i := 5) (N := some 69) (v := ?_) (a' := ?_) #[true, true, true, true, true, true, false, false, false, false, false, false, false, false, false, false, false, false, false, false, false, false, false, false, false, false, false, false, false, false, false, false, false, false, false, false, false, false, false, false, false] rfl rfl (any_of HT_.out (by kernel_rfl)) (fun _ _ _ h => h) (Or.inl ⟨by rfl, ?_⟩) ?_ ?_
                              rotate_left
                              · intro w'
                                go_simp
                                with_reducible rfl
                              rotate_left
                              · simp only [Act.put, List.setIfInBounds_toArray, List.set_cons_zero, List.set_cons_succ, i64_w, i32_w]
                                rfl
                              refine take_ (i := 6) (N := some 70) (v := ?_) (a' := ?_) #[true, true, true, true, true, true, true, false, false, false, false, false, false, false, false, false, false, false, false, false, false, false, false, false, false, false, false, false, false, false, false, false, false, false, false, false, false, false, false, false, false] rfl rfl (take_ofW HT_.out HW_.out (by kernel_rfl)) (fun _ _ _ h => h) (Or.inl ⟨by rfl, ?_⟩) hHeld ?_ ?_
                              rotate_left
                              · rintro w' ⟨s0, s1, s2, s3, s4, s5, s6, s7⟩
                                go_simp
                                with_reducible rfl
                              rotate_left
                              · simp only [Act.put, List.setIfInBounds_toArray, List.set_cons_zero, List.set_cons_succ, i64_w, i32_w]
                                rfl
                              refine one_ (i := 7) (N := some 71) #[true, true, true, true, true, true, true, true, false, false, false, false, false, false, false, false, false, false, false, false, false, false, false, false, false, false, false, false, false, false, false, false, false, false, false, false, false, false, false, false, false] rfl rfl (one_of HT_.out (by kernel_rfl)) (by decide) (fun K hK => ?_)
                              refine gs Try.func11 (by kernel_rfl) rfl #[.agg #[.slice Ao48 t276.length co48, .bool t279]] (by rfl) rfl rfl ?_
                              with_reducible refine (chans_Sane.calls kj22 _ _ t276 t279 true _ ?side1 ?side2 A122.out).mono ?_
                              (case side1 => exact (Kd.V_reads' (vv HO_285000)).2.2)
                              (case side2 => exact (Kd.V_reads' HO_285000.out).2.1)
                              rintro e w134 ⟨rfl, hb⟩
                              refine ⟨_, rfl, ?_⟩
                              replace HO_272000 := vB HO_272000 hb
                              replace HO_285000 := vB HO_285000 hb
                              replace HO_294000 := vB HO_294000 hb
                              replace BK253 := kB BK253 hb
                              replace BK256 := kB BK256 hb
                              replace BK271 := kB BK271 hb
                              replace BK284 := kB BK284 hb
                              replace BK293 := kB BK293 hb
                              replace HB := hB HB hb
                              (try clear hb)
                              (try clear hb2)
                              (try clear hk)
                              (try clear hi)
                              refine hK.out _ _ ⟨cx BK271 0, cx BK271 1, cx BK284 0, cx BK284 1, cx BK293 0, cx BK293 1, cx BK256 0, cx BK256 1⟩ (fun hHeld => ?_)
                              clear hK K
                              refine norm_ (a' := ?_) ?_ ?_
                              rotate_left
                              · show Act.put _ (some 71) _ = _
                                simp only [Act.put, List.setIfInBounds_toArray, List.set_cons_zero, List.set_cons_succ, i64_w, i32_w]
                                rfl
                              refine pure_ (i := 8) (N := some 72) (v := ?_) (a' := ?_) #[true, true, true, true, true, true, true, true, true, false, false, false, false, false, false, false, false, false, false, false, false, false, false, false, false, false, false, false, false, false, false, false, false, false, false, false, false, false, false, false, false] rfl rfl (any_of HT_.out (by kernel_rfl)) (fun _ _ _ h => h) (Or.inl ⟨by rfl, ?_⟩) ?_ ?_
                              rotate_left
                              · intro w'
                                go_simp
                                with_reducible rfl
                              rotate_left
                              · simp only [Act.put, List.setIfInBounds_toArray, List.set_cons_zero, List.set_cons_succ, i64_w, i32_w]
                                rfl
                              refine pure_ (i := 9) (N := some 73) (v := ?_) (a' := ?_) #[true, true, true, true, true, true, true, true, true, true, false, false, false, false, false, false, false, false, false, false, false, false, false, false, false, false, false, false, false, false, false, false, false, false, false, false, false, false, false, false, false] rfl rfl (any_of HT_.out (by kernel_rfl)) (fun _ _ _ h => h) (Or.inl ⟨by rfl, ?_⟩) ?_ ?_
                              rotate_left
                              · intro w'
                                go_simp
                                with_reducible rfl
                              rotate_left
                              · simp only [Act.put, List.setIfInBounds_toArray, List.set_cons_zero, List.set_cons_succ, i64_w, i32_w]
                                rfl
                              refine take_ (i := 10) (N := some 74) (v := ?_) (a' := ?_) #[true, true, true, true, true, true, true, true, true, true, true, false, false, false, false, false, false, false, false, false, false, false, false, false, false, false, false, false, false, false, false, false, false, false, false, false, false, false, false, false, false] rfl rfl (take_ofW HT_.out HW_.out (by kernel_rfl)) (fun _ _ _ h => h) (Or.inl ⟨by rfl, ?_⟩) hHeld ?_ ?_
                              rotate_left
                              · rintro w' ⟨s0, s1, s2, s3, s4, s5, s6, s7⟩
                                go_simp
                                with_reducible rfl
                              rotate_left
                              · simp only [Act.put, List.setIfInBounds_toArray, List.set_cons_zero, List.set_cons_succ, i64_w, i32_w]
                                rfl
                              refine one_ (i := 11) (N := some 75) #[true, true, true, true, true, true, true, true, true, true, true, true, false, false, false, false, false, false, false, false, false, false, false, false, false, false, false, false, false, false, false, false, false, false, false, false, false, false, false, false, false] rfl rfl (one_of HT_.out (by kernel_rfl)) (by decide) (fun K hK => ?_)
                              refine gs Try.func11 (by kernel_rfl) rfl #[.agg #[.slice Ao59 t289.length co59, .bool true]] (by rfl) rfl rfl ?_
                              with_reducible refine (chans_Sane.calls kj22 _ _ t289 true true _ ?side1 ?side2 A124.out).mono ?_
                              (case side1 => exact (Kd.V_reads' (vv HO_294000)).2.2)
                              (case side2 => exact (Kd.V_reads' HO_294000.out).2.1)
                              rintro e w135 ⟨rfl, hb⟩
                              refine ⟨_, rfl, ?_⟩
                              replace HO_272000 := vB HO_272000 hb
                              replace HO_285000 := vB HO_285000 hb
                              replace HO_294000 := vB HO_294000 hb
                              replace BK253 := kB BK253 hb
                              replace BK256 := kB BK256 hb
                              replace BK271 := kB BK271 hb
                              replace BK284 := kB BK284 hb
                              replace BK293 := kB BK293 hb
                              replace HB := hB HB hb
                              (try clear hb)
                              (try clear hb2)
                              (try clear hk)
                              (try clear hi)
                              refine hK.out _ _ ⟨cx BK271 0, cx BK271 1, cx BK284 0, cx BK284 1, cx BK293 0, cx BK293 1, cx BK256 0, cx BK256 1⟩ (fun hHeld => ?_)
                              clear hK K
                              refine norm_ (a' := ?_) ?_ ?_
                              rotate_left
                              · show Act.put _ (some 75) _ = _
                                simp only [Act.put, List.setIfInBounds_toArray, List.set_cons_zero, List.set_cons_succ, i64_w, i32_w]
                                rfl
                              refine pure_ (i := 12) (N := some 76) (v := ?_) (a' := ?_) #[true, true, true, true, true, true, true, true, true, true, true, true, true, false, false, false, false, false, false, false, false, false, false, false, false, false, false, false, false, false, false, false, false, false, false, false, false, false, false, false, false] rfl rfl (any_of HT_.out (by kernel_rfl)) (fun _ _ _ h => h) (Or.inl ⟨by rfl, ?_⟩) ?_ ?_
                              rotate_left
                              · intro w'
                                go_simp
                                with_reducible rfl
                              rotate_left
                              · simp only [Act.put, List.setIfInBounds_toArray, List.set_cons_zero, List.set_cons_succ, i64_w, i32_w]
                                rfl
                              refine pure_ (i := 13) (N := some 77) (v := ?_) (a' := ?_) #[true, true, true, true, true, true, true, true, true, true, true, true, true, true, false, false, false, false, false, false, false, false, false, false, false, false, false, false, false, false, false, false, false, false, false, false, false, false, false, false, false] rfl rfl (any_of HT_.out (by kernel_rfl)) (fun _ _ _ h => h) (Or.inl ⟨by rfl, ?_⟩) ?_ ?_
                              rotate_left
                              · intro w'
                                go_simp
                                with_reducible rfl
                              rotate_left
                              · simp only [Act.put, List.setIfInBounds_toArray, List.set_cons_zero, List.set_cons_succ, i64_w, i32_w]
                                rfl
                              refine pure_ (i := 14) (N := some 78) (v := ?_) (a' := ?_) #[true, true, true, true, true, true, true, true, true, true, true, true, true, true, true, false, false, false, false, false, false, false, false, false, false, false, false, false, false, false, false, false, false, false, false, false, false, false, false, false, false] rfl rfl (any_of HT_.out (by kernel_rfl)) (fun _ _ _ h => h) (Or.inl ⟨by rfl, ?_⟩) ?_ ?_
                              rotate_left
                              · intro w'
                                go_simp
                                with_reducible rfl
                              rotate_left
                              · simp only [Act.put, List.setIfInBounds_toArray, List.set_cons_zero, List.set_cons_succ, i64_w, i32_w]
                                rfl
                              refine take_ (i := 15) (N := some 79) (v := ?_) (a' := ?_) #[true, true, true, true, true, true, true, true, true, true, true, true, true, true, true, true, false, false, false, false, false, false, false, false, false, false, false, false, false, false, false, false, false, false, false, false, false, false, false, false, false] rfl rfl (take_ofW HT_.out HW_.out (by kernel_rfl)) (fun _ _ _ h => h) (Or.inl ⟨by rfl, ?_⟩) hHeld ?_ ?_
                              rotate_left
                              · rintro w' ⟨s0, s1, s2, s3, s4, s5, s6, s7⟩
                                go_simp
                                with_reducible rfl
                              rotate_left
                              · simp only [Act.put, List.setIfInBounds_toArray, List.set_cons_zero, List.set_cons_succ, i64_w, i32_w]
                                rfl
                              refine pure_ (i := 16) (N := some 80) (v := ?_) (a' := ?_) #[true, true, true, true, true, true, true, true, true, true, true, true, true, true, true, true, true, false, false, false, false, false, false, false, false, false, false, false, false, false, false, false, false, false, false, false, false, false, false, false, false] rfl rfl (any_of HT_.out (by kernel_rfl)) (fun _ _ _ h => h) (Or.inl ⟨by rfl, ?_⟩) ?_ ?_
                              rotate_left
                              · intro w'
                                go_simp
                                with_reducible rfl
                              rotate_left
                              · simp only [Act.put, List.setIfInBounds_toArray, List.set_cons_zero, List.set_cons_succ, i64_w, i32_w]
                                rfl
                              refine pure_ (i := 17) (N := some 81) (v := ?_) (a' := ?_) #[true, true, true, true, true, true, true, true, true, true, true, true, true, true, true, true, true, true, false, false, false, false, false, false, false, false, false, false, false, false, false, false, false, false, false, false, false, false, false, false, false] rfl rfl (any_of HT_.out (by kernel_rfl)) (fun _ _ _ h => h) (Or.inl ⟨by rfl, ?_⟩) ?_ ?_
                              rotate_left
                              · intro w'
                                go_simp
                                with_reducible rfl
                              rotate_left
                              · simp only [Act.put, List.setIfInBounds_toArray, List.set_cons_zero, List.set_cons_succ, i64_w, i32_w]
                                rfl
                              refine pure_ (i := 18) (N := some 82) (v := ?_) (a' := ?_) #[true, true, true, true, true, true, true, true, true, true, true, true, true, true, true, true, true, true, true, false, false, false, false, false, false, false, false, false, false, false, false, false, false, false, false, false, false, false, false, false, false] rfl rfl (any_of HT_.out (by kernel_rfl)) (fun _ _ _ h => h) (Or.inl ⟨by rfl, ?_⟩) ?_ ?_
                              rotate_left
                              · intro w'
                                go_simp
                                with_reducible rfl
                              rotate_left
                              · simp only [Act.put, List.setIfInBounds_toArray, List.set_cons_zero, List.set_cons_succ, i64_w, i32_w]
                                rfl
                              refine pure_ (i := 19) (N := some 83) (v := ?_) (a' := ?_) #[true, true, true, true, true, true, true, true, true, true, true, true, true, true, true, true, true, true, true, true, false, false, false, false, false, false, false, false, false, false, false, false, false, false, false, false, false, false, false, false, false] rfl rfl (any_of HT_.out (by kernel_rfl)) (fun _ _ _ h => h) (Or.inl ⟨by rfl, ?_⟩) ?_ ?_
                              rotate_left
                              · intro w'
                                go_simp
                                with_reducible rfl
                              rotate_left
                              · simp only [Act.put, List.setIfInBounds_toArray, List.set_cons_zero, List.set_cons_succ, i64_w, i32_w]
                                rfl
                              refine pure_ (i := 20) (N := some 84) (v := ?_) (a' := ?_) #[true, true, true, true, true, true, true, true, true, true, true, true, true, true, true, true, true, true, true, true, true, false, false, false, false, false, false, false, false, false, false, false, false, false, false, false, false, false, false, false, false] rfl rfl (any_of HT_.out (by kernel_rfl)) (fun _ _ _ h => h) (Or.inl ⟨by rfl, ?_⟩) ?_ ?_
                              rotate_left
                              · intro w'
                                go_simp
                                with_reducible rfl
                              rotate_left
                              · simp only [Act.put, List.setIfInBounds_toArray, List.set_cons_zero, List.set_cons_succ, i64_w, i32_w]
                                rfl
                              refine pure_ (i := 26) (N := some 90) (v := ?_) (a' := ?_) #[true, true, true, true, true, true, true, true, true, true, true, true, true, true, true, true, true, true, true, true, true, false, false, false, false, false, true, false, false, false, false, false, false, false, false, false, false, false, false, false, false] rfl rfl (any_of HT_.out (by kernel_rfl)) (fun _ _ _ h => h) (Or.inl ⟨by rfl, ?_⟩) ?_ ?_
                              rotate_left
                              · intro w'
                                go_simp
                                with_reducible rfl
                              rotate_left
                              · simp only [Act.put, List.setIfInBounds_toArray, List.set_cons_zero, List.set_cons_succ, i64_w, i32_w]
                                rfl
                              refine pure_ (i := 27) (N := some 91) (v := ?_) (a' := ?_) #[true, true, true, true, true, true, true, true, true, true, true, true, true, true, true, true, true, true, true, true, true, false, false, false, false, false, true, true, false, false, false, false, false, false, false, false, false, false, false, false, false] rfl rfl (any_of HT_.out (by kernel_rfl)) (fun _ _ _ h => h) (Or.inl ⟨by rfl, ?_⟩) ?_ ?_
                              rotate_left
                              · intro w'
                                go_simp
                                with_reducible rfl
                              rotate_left
                              · simp only [Act.put, List.setIfInBounds_toArray, List.set_cons_zero, List.set_cons_succ, i64_w, i32_w]
                                rfl
                              refine take_ (i := 21) (N := some 85) (v := ?_) (a' := ?_) #[true, true, true, true, true, true, true, true, true, true, true, true, true, true, true, true, true, true, true, true, true, true, false, false, false, false, true, true, false, false, false, false, false, false, false, false, false, false, false, false, false] rfl rfl (take_ofW HT_.out HW_.out (by kernel_rfl)) (fun _ _ _ h => h) (Or.inl ⟨by rfl, ?_⟩) hHeld ?_ ?_
                              rotate_left
                              · rintro w' ⟨s0, s1, s2, s3, s4, s5, s6, s7⟩
                                go_simp
                                with_reducible rfl
                              rotate_left
                              · simp only [Act.put, List.setIfInBounds_toArray, List.set_cons_zero, List.set_cons_succ, i64_w, i32_w]
                                rfl
                              refine take_ (i := 23) (N := some 87) (v := ?_) (a' := ?_) #[true, true, true, true, true, true, true, true, true, true, true, true, true, true, true, true, true, true, true, true, true, true, false, true, false, false, true, true, false, false, false, false, false, false, false, false, false, false, false, false, false] rfl rfl (take_ofW HT_.out HW_.out (by kernel_rfl)) (fun _ _ _ h => h) (Or.inl ⟨by rfl, ?_⟩) hHeld ?_ ?_
                              rotate_left
                              · rintro w' ⟨s0, s1, s2, s3, s4, s5, s6, s7⟩
                                go_simp
                                with_reducible rfl
                              rotate_left
                              · simp only [Act.put, List.setIfInBounds_toArray, List.set_cons_zero, List.set_cons_succ, i64_w, i32_w]
                                rfl
                              refine one_ (i := 22) (N := some 86) #[true, true, true, true, true, true, true, true, true, true, true, true, true, true, true, true, true, true, true, true, true, true, true, true, false, false, true, true, false, false, false, false, false, false, false, false, false, false, false, false, false] rfl rfl (one_of HT_.out (by kernel_rfl)) (by decide) (fun K hK => ?_)
                              refine gs Try.func17 (by kernel_rfl) rfl #[.agg #[.slice Ao38 t266.length co38, .bool t269]] (by rfl) rfl rfl ?_
                              with_reducible refine (chans_Count.calls kj22 _ _ t266 t269 t300 _ ?side1 ?side2 A128.out).mono ?_
                              (case side1 => exact (Kd.V_reads' (vv HO_272000)).2.2)
                              (case side2 => exact (Kd.V_reads' HO_272000.out).2.1)
                              rintro e w136 ⟨rfl, hb⟩
                              refine ⟨_, rfl, ?_⟩
                              replace HO_272000 := vB HO_272000 hb
                              replace HO_285000 := vB HO_285000 hb
                              replace HO_294000 := vB HO_294000 hb
                              replace BK253 := kB BK253 hb
                              replace BK256 := kB BK256 hb
                              replace BK271 := kB BK271 hb
                              replace BK284 := kB BK284 hb
                              replace BK293 := kB BK293 hb
                              replace HB := hB HB hb
                              (try clear hb)
                              (try clear hb2)
                              (try clear hk)
                              (try clear hi)
                              refine hK.out _ _ ⟨cx BK271 0, cx BK271 1, cx BK284 0, cx BK284 1, cx BK293 0, cx BK293 1, cx BK256 0, cx BK256 1⟩ (fun hHeld => ?_)
                              clear hK K
                              refine norm_ (a' := ?_) ?_ ?_
                              rotate_left
                              · show Act.put _ (some 86) _ = _
                                simp only [Act.put, List.setIfInBounds_toArray, List.set_cons_zero, List.set_cons_succ, i64_w, i32_w]
                                rfl
                              refine one_ (i := 24) (N := some 88) #[true, true, true, true, true, true, true, true, true, true, true, true, true, true, true, true, true, true, true, true, true, true, true, true, true, false, true, true, false, false, false, false, false, false, false, false, false, false, false, false, false] rfl rfl (one_of HT_.out (by kernel_rfl)) (by decide) (fun K hK => ?_)
                              refine gs Try.func12 (by kernel_rfl) rfl #[.agg #[.slice A0_0 l0_0.length c0_0, .bool a0_1]] (by rfl) rfl rfl ?_
                              with_reducible refine (pentroughlaw16_ours.calls (fun k_ => k_ < w.heap.size) _ _ l0_0 a0_1 t301 t304 _ ?side1 A129.out).mono ?_
                              (case side1 => exact Kd.V_mk HC0_0.out (Kd.F_below (Kd.C_F (Kd.heap_slice 3 (Kd.heap_int .i64)) HR0_0.out) (bb HB)))
                              rintro e w137 ⟨v302, rfl, ho0, hb⟩
                              refine ⟨_, rfl, ?_⟩
                              replace HO_272000 := vB HO_272000 hb
                              replace HO_285000 := vB HO_285000 hb
                              replace HO_294000 := vB HO_294000 hb
                              have HO303 := Aside0.mk (Kd.V_lower (Kd.V_mono (ok' := fun k_ => k_ ≠ gb253 ∧ k_ ≠ gb256 ∧ k_ ≠ gb271 ∧ k_ ≠ gb284 ∧ k_ ≠ gb293) ho0 (fun k_ hk_ => ⟨o2 hk_ (gw GW253) (Kd.freshB (kk BK253) k_), o2 hk_ (gw GW256) (Kd.freshB (kk BK256) k_), o2 hk_ (gw GW271) (Kd.freshB (kk BK271) k_), o2 hk_ (gw GW284) (Kd.freshB (kk BK284) k_), o2 hk_ (gw GW293) (Kd.freshB (kk BK293) k_)⟩)) (below_size (bb HB)))
                              replace BK253 := kB BK253 hb
                              replace BK256 := kB BK256 hb
                              replace BK271 := kB BK271 hb
                              replace BK284 := kB BK284 hb
                              replace BK293 := kB BK293 hb
                              replace HB := hB HB hb
                              (try clear hb)
                              (try clear hb2)
                              (try clear hk)
                              (try clear hi)
                              (try clear ho0)
                              obtain ⟨Ao138, co138, eo138⟩ := Kd.V_slice HO303.out
                              (first | subst eo138 | (injection eo138 with f1_ f2_ f3_; have f4_ := f1_.symm; have f5_ := f3_.symm; clear f1_ f2_ f3_; subst f4_; subst f5_))
                              refine hK.out _ _ ⟨cx BK271 0, cx BK271 1, cx BK284 0, cx BK284 1, cx BK293 0, cx BK293 1, cx BK256 0, cx BK256 1⟩ (fun hHeld => ?_)
                              clear hK K
                              refine norm_ (a' := ?_) ?_ ?_
                              rotate_left
                              · show Act.put _ (some 88) _ = _
                                simp only [Act.put, List.setIfInBounds_toArray, List.set_cons_zero, List.set_cons_succ, i64_w, i32_w]
                                rfl
                              refine one_ (i := 25) (N := some 89) #[true, true, true, true, true, true, true, true, true, true, true, true, true, true, true, true, true, true, true, true, true, true, true, true, true, true, true, true, false, false, false, false, false, false, false, false, false, false, false, false, false] rfl rfl (one_of HT_.out (by kernel_rfl)) (by decide) (fun K hK => ?_)
                              refine gs Try.func17 (by kernel_rfl) rfl #[.agg #[.slice Ao138 t301.length co138, .bool t304]] (by rfl) rfl rfl ?_
                              with_reducible refine (chans_Count.calls kj22 _ _ t301 t304 t305 _ ?side1 ?side2 A130.out).mono ?_
                              (case side1 => exact (Kd.V_reads' (vv HO303)).2.2)
                              (case side2 => exact (Kd.V_reads' HO303.out).2.1)
                              rintro e w139 ⟨rfl, hb⟩
                              refine ⟨_, rfl, ?_⟩
                              replace HO_272000 := vB HO_272000 hb
                              replace HO_285000 := vB HO_285000 hb
                              replace HO_294000 := vB HO_294000 hb
                              replace HO303 := vB HO303 hb
                              replace BK253 := kB BK253 hb
                              replace BK256 := kB BK256 hb
                              replace BK271 := kB BK271 hb
                              replace BK284 := kB BK284 hb
                              replace BK293 := kB BK293 hb
                              replace HB := hB HB hb
                              (try clear hb)
                              (try clear hb2)
                              (try clear hk)
                              (try clear hi)
                              refine hK.out _ _ ⟨cx BK271 0, cx BK271 1, cx BK284 0, cx BK284 1, cx BK293 0, cx BK293 1, cx BK256 0, cx BK256 1⟩ (fun hHeld => ?_)
                              clear hK K
                              refine norm_ (a' := ?_) ?_ ?_
                              rotate_left
                              · show Act.put _ (some 89) _ = _
                                simp only [Act.put, List.setIfInBounds_toArray, List.set_cons_zero, List.set_cons_succ, i64_w, i32_w]
                                rfl
                              refine pure_ (i := 28) (N := some 92) (v := ?_) (a' := ?_) #[true, true, true, true, true, true, true, true, true, true, true, true, true, true, true, true, true, true, true, true, true, true, true, true, true, true, true, true, true, false, false, false, false, false, false, false, false, false, false, false, false] rfl rfl (any_of HT_.out (by kernel_rfl)) (fun _ _ _ h => h) (Or.inl ⟨by rfl, ?_⟩) ?_ ?_
                              rotate_left
                              · intro w'
                                go_simp
                                with_reducible rfl
                              rotate_left
                              · simp only [Act.put, List.setIfInBounds_toArray, List.set_cons_zero, List.set_cons_succ, i64_w, i32_w]
                                rfl
                              refine pure_ (i := 29) (N := some 93) (v := ?_) (a' := ?_) #[true, true, true, true, true, true, true, true, true, true, true, true, true, true, true, true, true, true, true, true, true, true, true, true, true, true, true, true, true, true, false, false, false, false, false, false, false, false, false, false, false] rfl rfl (any_of HT_.out (by kernel_rfl)) (fun _ _ _ h => h) (Or.inl ⟨by rfl, ?_⟩) ?_ ?_
                              rotate_left
                              · intro w'
                                go_simp
                                with_reducible rfl
                              rotate_left
                              · simp only [Act.put, List.setIfInBounds_toArray, List.set_cons_zero, List.set_cons_succ, i64_w, i32_w]
                                rfl
                              refine pure_ (i := 30) (N := some 94) (v := ?_) (a' := ?_) #[true, true, true, true, true, true, true, true, true, true, true, true, true, true, true, true, true, true, true, true, true, true, true, true, true, true, true, true, true, true, true, false, false, false, false, false, false, false, false, false, false] rfl rfl (any_of HT_.out (by kernel_rfl)) (fun _ _ _ h => h) (Or.inl ⟨by rfl, ?_⟩) ?_ ?_
                              rotate_left
                              · intro w'
                                go_simp
                                with_reducible rfl
                              rotate_left
                              · simp only [Act.put, List.setIfInBounds_toArray, List.set_cons_zero, List.set_cons_succ, i64_w, i32_w]
                                rfl
                              refine pure_ (i := 31) (N := some 95) (v := ?_) (a' := ?_) #[true, true, true, true, true, true, true, true, true, true, true, true, true, true, true, true, true, true, true, true, true, true, true, true, true, true, true, true, true, true, true, true, false, false, false, false, false, false, false, false, false] rfl rfl (any_of HT_.out (by kernel_rfl)) (fun _ _ _ h => h) (Or.inl ⟨by rfl, ?_⟩) ?_ ?_
                              rotate_left
                              · intro w'
                                go_simp
                                with_reducible rfl
                              rotate_left
                              · simp only [Act.put, List.setIfInBounds_toArray, List.set_cons_zero, List.set_cons_succ, i64_w, i32_w]
                                rfl
                              refine pure_ (i := 32) (N := some 96) (v := ?_) (a' := ?_) #[true, true, true, true, true, true, true, true, true, true, true, true, true, true, true, true, true, true, true, true, true, true, true, true, true, true, true, true, true, true, true, true, true, false, false, false, false, false, false, false, false] rfl rfl (any_of HT_.out (by kernel_rfl)) (fun _ _ _ h => h) (Or.inl ⟨by rfl, ?_⟩) ?_ ?_
                              rotate_left
                              · intro w'
                                go_simp
                                with_reducible rfl
                              rotate_left
                              · simp only [Act.put, List.setIfInBounds_toArray, List.set_cons_zero, List.set_cons_succ, i64_w, i32_w]
                                rfl
                              refine pure_ (i := 33) (N := some 97) (v := ?_) (a' := ?_) #[true, true, true, true, true, true, true, true, true, true, true, true, true, true, true, true, true, true, true, true, true, true, true, true, true, true, true, true, true, true, true, true, true, true, false, false, false, false, false, false, false] rfl rfl (any_of HT_.out (by kernel_rfl)) (fun _ _ _ h => h) (Or.inl ⟨by rfl, ?_⟩) ?_ ?_
                              rotate_left
                              · intro w'
                                go_simp
                                with_reducible rfl
                              rotate_left
                              · simp only [Act.put, List.setIfInBounds_toArray, List.set_cons_zero, List.set_cons_succ, i64_w, i32_w]
                                rfl
                              refine pure_ (i := 34) (N := some 98) (v := ?_) (a' := ?_) #[true, true, true, true, true, true, true, true, true, true, true, true, true, true, true, true, true, true, true, true, true, true, true, true, true, true, true, true, true, true, true, true, true, true, true, false, false, false, false, false, false] rfl rfl (any_of HT_.out (by kernel_rfl)) (fun _ _ _ h => h) (Or.inl ⟨by rfl, ?_⟩) ?_ ?_
                              rotate_left
                              · intro w'
                                go_simp
                                with_reducible rfl
                              rotate_left
                              · simp only [Act.put, List.setIfInBounds_toArray, List.set_cons_zero, List.set_cons_succ, i64_w, i32_w]
                                rfl
                              refine take_ (i := 35) (N := some 99) (v := ?_) (a' := ?_) #[true, true, true, true, true, true, true, true, true, true, true, true, true, true, true, true, true, true, true, true, true, true, true, true, true, true, true, true, true, true, true, true, true, true, true, true, false, false, false, false, false] rfl rfl (take_ofW HT_.out HW_.out (by kernel_rfl)) (fun _ _ _ h => h) (Or.inl ⟨by rfl, ?_⟩) hHeld ?_ ?_
                              rotate_left
                              · rintro w' ⟨s0, s1, s2, s3, s4, s5, s6, s7⟩
                                go_simp
                                with_reducible rfl
                              rotate_left
                              · simp only [Act.put, List.setIfInBounds_toArray, List.set_cons_zero, List.set_cons_succ, i64_w, i32_w]
                                rfl
                              refine pure_ (i := 36) (N := some 100) (v := ?_) (a' := ?_) #[true, true, true, true, true, true, true, true, true, true, true, true, true, true, true, true, true, true, true, true, true, true, true, true, true, true, true, true, true, true, true, true, true, true, true, true, true, false, false, false, false] rfl rfl (any_of HT_.out (by kernel_rfl)) (fun _ _ _ h => h) (Or.inl ⟨by rfl, ?_⟩) ?_ ?_
                              rotate_left
                              · intro w'
                                go_simp
                                with_reducible rfl
                              rotate_left
                              · simp only [Act.put, List.setIfInBounds_toArray, List.set_cons_zero, List.set_cons_succ, i64_w, i32_w]
                                rfl
                              refine pure_ (i := 37) (N := some 101) (v := ?_) (a' := ?_) #[true, true, true, true, true, true, true, true, true, true, true, true, true, true, true, true, true, true, true, true, true, true, true, true, true, true, true, true, true, true, true, true, true, true, true, true, true, true, false, false, false] rfl rfl (any_of HT_.out (by kernel_rfl)) (fun _ _ _ h => h) (Or.inl ⟨by rfl, ?_⟩) ?_ ?_
                              rotate_left
                              · intro w'
                                go_simp
                                with_reducible rfl
                              rotate_left
                              · simp only [Act.put, List.setIfInBounds_toArray, List.set_cons_zero, List.set_cons_succ, i64_w, i32_w]
                                rfl
                              refine pure_ (i := 38) (N := some 102) (v := ?_) (a' := ?_) #[true, true, true, true, true, true, true, true, true, true, true, true, true, true, true, true, true, true, true, true, true, true, true, true, true, true, true, true, true, true, true, true, true, true, true, true, true, true, true, false, false] rfl rfl (any_of HT_.out (by kernel_rfl)) (fun _ _ _ h => h) (Or.inl ⟨by rfl, ?_⟩) ?_ ?_
                              rotate_left
                              · intro w'
                                go_simp
                                with_reducible rfl
                              rotate_left
                              · simp only [Act.put, List.setIfInBounds_toArray, List.set_cons_zero, List.set_cons_succ, i64_w, i32_w]
                                rfl
                              refine pure_ (i := 39) (N := some 103) (v := ?_) (a' := ?_) #[true, true, true, true, true, true, true, true, true, true, true, true, true, true, true, true, true, true, true, true, true, true, true, true, true, true, true, true, true, true, true, true, true, true, true, true, true, true, true, true, false] rfl rfl (any_of HT_.out (by kernel_rfl)) (fun _ _ _ h => h) (Or.inl ⟨by rfl, ?_⟩) ?_ ?_
                              rotate_left
                              · intro w'
                                go_simp
                                with_reducible rfl
                              rotate_left
                              · simp only [Act.put, List.setIfInBounds_toArray, List.set_cons_zero, List.set_cons_succ, i64_w, i32_w]
                                rfl
                              refine pure_ (i := 40) (N := some 4) (v := ?_) (a' := ?_) #[true, true, true, true, true, true, true, true, true, true, true, true, true, true, true, true, true, true, true, true, true, true, true, true, true, true, true, true, true, true, true, true, true, true, true, true, true, true, true, true, true] rfl rfl (any_of HT_.out (by kernel_rfl)) (fun _ _ _ h => h) (Or.inl ⟨by rfl, ?_⟩) ?_ ?_
                              rotate_left
                              · intro w'
                                go_simp
                                with_reducible rfl
                              rotate_left
                              · simp only [Act.put, List.setIfInBounds_toArray, List.set_cons_zero, List.set_cons_succ, i64_w, i32_w]
                                rfl
                              refine done_ (done_of HT_.out (by kernel_rfl)) ?_
                              try go_wp2
                              go_ret
                              exact ⟨by first | rfl | (simp [errW_none, errW_some] <;> rfl) | (simp [*, errW_none, errW_some] <;> rfl), by repeat (first | (with_reducible first | exact HB.out | apply below_alloc | apply pw_below_drewN | apply below_drew1 | refine below_set ?_ GE253.out | refine below_set ?_ GE256.out | refine below_set ?_ GE271.out | refine below_set ?_ GE284.out | refine below_set ?_ GE293.out) | exact HB.out)⟩
                            · rw [if_neg c131] at H
                              cases H; exact absurd HRT.out (by decide)
                          · replace c127 := Bool.eq_false_iff.mpr c127
                            subst c127
                            rw [if_neg nf] at H
                            obtain rfl := Option.some.inj H
                            try go_wp2
                            replace HO_272000 := Aside0.mk (Kd.V_drew HO_272000.out)
                            replace HO_285000 := Aside0.mk (Kd.V_drew HO_285000.out)
                            replace HO_294000 := Aside0.mk (Kd.V_drew HO_294000.out)
                            replace BK253 := Aside0.mk (blk_drew BK253.out)
                            replace BK256 := Aside0.mk (blk_drew BK256.out)
                            replace BK271 := Aside0.mk (blk_drew BK271.out)
                            replace BK284 := Aside0.mk (blk_drew BK284.out)
                            replace BK293 := Aside0.mk (blk_drew BK293.out)
                            replace HB := Aside0.mk (below_drew1 HB.out)
                            refine start_ (n := 41) (S := fun w' => w'.cell? ⟨gb271, 0, none⟩ = some (.slice Ao38 t266.length co38) ∧ w'.cell? ⟨gb271, 1, none⟩ = some (.bool t269) ∧ w'.cell? ⟨gb284, 0, none⟩ = some (.slice Ao48 t276.length co48) ∧ w'.cell? ⟨gb284, 1, none⟩ = some (.bool t279) ∧ w'.cell? ⟨gb293, 0, none⟩ = some (.slice Ao59 t289.length co59) ∧ w'.cell? ⟨gb293, 1, none⟩ = some (.bool true) ∧ w'.cell? ⟨gb256, 0, none⟩ = some (.slice A0_0 l0_0.length c0_0) ∧ w'.cell? ⟨gb256, 1, none⟩ = some (.bool a0_1)) (ds := []) #[false, false, false, false, false, false, false, false, false, false, false, false, false, false, false, false, false, false, false, false, false, false, false, false, false, false, false, false, false, false, false, false, false, false, false, false, false, false, false, false, false] (by kernel_rfl) rfl rfl ⟨cx BK271 0, cx BK271 1, cx BK284 0, cx BK284 1, cx BK293 0, cx BK293 1, cx BK256 0, cx BK256 1⟩ (fun hHeld => ?_); refine with_tabW pentroughlaw16_ChansKeeps.tab12 pentroughlaw16_ChansKeeps.bits12 (fun HT_ HW_ => ?_)
                            generalize wc.drew = w140 at HO_272000 HO_285000 HO_294000 BK253 BK256 BK271 BK284 BK293 HB hHeld ⊢
                            refine pure_ (i := 0) (N := some 64) (v := ?_) (a' := ?_) #[true, false, false, false, false, false, false, false, false, false, false, false, false, false, false, false, false, false, false, false, false, false, false, false, false, false, false, false, false, false, false, false, false, false, false, false, false, false, false, false, false] rfl rfl (any_of HT_.out (by kernel_rfl)) (fun _ _ _ h => h) (Or.inl ⟨by rfl, ?_⟩) ?_ ?_
                            rotate_left
                            · intro w'
                              go_simp
                              with_reducible rfl
                            rotate_left
                            · simp only [Act.put, List.setIfInBounds_toArray, List.set_cons_zero, List.set_cons_succ, i64_w, i32_w]
                              rfl
                            refine pure_ (i := 1) (N := some 65) (v := ?_) (a' := ?_) #[true, true, false, false, false, false, false, false, false, false, false, false, false, false, false, false, false, false, false, false, false, false, false, false, false, false, false, false, false, false, false, false, false, false, false, false, false, false, false, false, false] rfl rfl (any_of HT_.out (by kernel_rfl)) (fun _ _ _ h => h) (Or.inl ⟨by rfl, ?_⟩) ?_ ?_
                            rotate_left
                            · intro w'
                              go_simp
                              with_reducible rfl
                            rotate_left
                            · simp only [Act.put, List.setIfInBounds_toArray, List.set_cons_zero, List.set_cons_succ, i64_w, i32_w]
                              rfl
                            refine take_ (i := 2) (N := some 66) (v := ?_) (a' := ?_) #[true, true, true, false, false, false, false, false, false, false, false, false, false, false, false, false, false, false, false, false, false, false, false, false, false, false, false, false, false, false, false, false, false, false, false, false, false, false, false, false, false] rfl rfl (take_ofW HT_.out HW_.out (by kernel_rfl)) (fun _ _ _ h => h) (Or.inl ⟨by rfl, ?_⟩) hHeld ?_ ?_
                            rotate_left
                            · rintro w' ⟨s0, s1, s2, s3, s4, s5, s6, s7⟩
                              go_simp
                              with_reducible rfl
                            rotate_left
                            · simp only [Act.put, List.setIfInBounds_toArray, List.set_cons_zero, List.set_cons_succ, i64_w, i32_w]
                              rfl
                            refine one_ (i := 3) (N := some 67) #[true, true, true, true, false, false, false, false, false, false, false, false, false, false, false, false, false, false, false, false, false, false, false, false, false, false, false, false, false, false, false, false, false, false, false, false, false, false, false, false, false] rfl rfl (one_of HT_.out (by kernel_rfl)) (by decide) (fun K hK => ?_)
                            refine gs Try.func11 (by kernel_rfl) rfl #[.agg #[.slice Ao38 t266.length co38, .bool t269]] (by rfl) rfl rfl ?_
                            with_reducible refine (chans_Sane.calls kj22 _ _ t266 t269 true _ ?side1 ?side2 A120.out).mono ?_
                            (case side1 => exact (Kd.V_reads' (vv HO_272000)).2.2)
                            (case side2 => exact (Kd.V_reads' HO_272000.out).2.1)
                            rintro e w141 ⟨rfl, hb⟩
                            refine ⟨_, rfl, ?_⟩
                            replace HO_272000 := vB HO_272000 hb
                            replace HO_285000 := vB HO_285000 hb
                            replace HO_294000 := vB HO_294000 hb
                            replace BK253 := kB BK253 hb
                            replace BK256 := kB BK256 hb
                            replace BK271 := kB BK271 hb
                            replace BK284 := kB BK284 hb
                            replace BK293 := kB BK293 hb
                            replace HB := hB HB hb
                            (try clear hb)
                            (try clear hb2)
                            (try clear hk)
                            (try clear hi)
                            refine hK.out _ _ ⟨cx BK271 0, cx BK271 1, cx BK284 0, cx BK284 1, cx BK293 0, cx BK293 1, cx BK256 0, cx BK256 1⟩ (fun hHeld => ?_)
                            clear hK K
                            refine norm_ (a' := ?_) ?_ ?_
                            rotate_left
                            · show Act.put _ (some 67) _ = _
                              simp only [Act.put, List.setIfInBounds_toArray, List.set_cons_zero, List.set_cons_succ, i64_w, i32_w]
                              rfl
                            refine pure_ (i := 4) (N := some 68) (v := ?_) (a' := ?_) #[true, true, true, true, true, false, false, false, false, false, false, false, false, false, false, false, false, false, false, false, false, false, false, false, false, false, false, false, false, false, false, false, false, false, false, false, false, false, false, false, false] rfl rfl (any_of HT_.out (by kernel_rfl)) (fun _ _ _ h => h) (Or.inl ⟨by rfl, ?_⟩) ?_ ?_
                            rotate_left
                            · intro w'
                              go_simp
                              with_reducible rfl
                            rotate_left
                            · simp only [Act.put, List.setIfInBounds_toArray, List.set_cons_zero, List.set_cons_succ, i64_w, i32_w]
                              rfl
                            refine pure_ (i := 5) (N := some 69) (v := ?_) (a' := ?_) #[true, true, true, true, true, true, false, false, false, false, false, false, false, false, false, false, false, false, false, false, false, false, false, false, false, false, false, false, false, false, false, false, false, false, false, false, false, false, false, false, false] rfl rfl (any_of HT_.out (by kernel_rfl)) (fun _ _ _ h => h) (Or.inl ⟨by rfl, ?_⟩) ?_ ?_
                            rotate_left
                            · intro w'
                              go_simp
                              with_reducible rfl
                            rotate_left
                            · simp only [Act.put, List.setIfInBounds_toArray, List.set_cons_zero, List.set_cons_succ, i64_w, i32_w]
                              rfl
                            refine take_ (i := 6) (N := some 70) (v := ?_) (a' := ?_) #[true, true, true, true, true, true, true, false, false, false, false, false, false, false, false, false, false, false, false, false, false, false, false, false, false, false, false, false, false, false, false, false, false, false, false, false, false, false, false, false, false] rfl rfl (take_ofW HT_.out HW_.out (by kernel_rfl)) (fun _ _ _ h => h) (Or.inl ⟨by rfl, ?_⟩) hHeld ?_ ?_
                            rotate_left
                            · rintro w' ⟨s0, s1, s2, s3, s4, s5, s6, s7⟩
                              go_simp
                              with_reducible rfl
                            rotate_left
                            · simp only [Act.put, List.setIfInBounds_toArray, List.set_cons_zero, List.set_cons_succ, i64_w, i32_w]
                              rfl
                            refine one_ (i := 7) (N := some 71) #[true, true, true, true, true, true, true, true, false, false, false, false, false, false, false, false, false, false, false, false, false, false, false, false, false, false, false, false, false, false, false, false, false, false, false, false, false, false, false, false, false] rfl rfl (one_of HT_.out (by kernel_rfl)) (by decide) (fun K hK => ?_)
                            refine gs Try.func11 (by kernel_rfl) rfl #[.agg #[.slice Ao48 t276.length co48, .bool t279]] (by rfl) rfl rfl ?_
                            with_reducible refine (chans_Sane.calls kj22 _ _ t276 t279 true _ ?side1 ?side2 A122.out).mono ?_
                            (case side1 => exact (Kd.V_reads' (vv HO_285000)).2.2)
                            (case side2 => exact (Kd.V_reads' HO_285000.out).2.1)
                            rintro e w142 ⟨rfl, hb⟩
                            refine ⟨_, rfl, ?_⟩
                            replace HO_272000 := vB HO_272000 hb
                            replace HO_285000 := vB HO_285000 hb
                            replace HO_294000 := vB HO_294000 hb
                            replace BK253 := kB BK253 hb
                            replace BK256 := kB BK256 hb
                            replace BK271 := kB BK271 hb
                            replace BK284 := kB BK284 hb
                            replace BK293 := kB BK293 hb
                            replace HB := hB HB hb
                            (try clear hb)
                            (try clear hb2)
                            (try clear hk)
                            (try clear hi)
                            refine hK.out _ _ ⟨cx BK271 0, cx BK271 1, cx BK284 0, cx BK284 1, cx BK293 0, cx BK293 1, cx BK256 0, cx BK256 1⟩ (fun hHeld => ?_)
                            clear hK K
                            refine norm_ (a' := ?_) ?_ ?_
                            rotate_left
                            · show Act.put _ (some 71) _ = _
                              simp only [Act.put, List.setIfInBounds_toArray, List.set_cons_zero, List.set_cons_succ, i64_w, i32_w]
                              rfl
                            refine pure_ (i := 8) (N := some 72) (v := ?_) (a' := ?_) #[true, true, true, true, true, true, true, true, true, false, false, false, false, false, false, false, false, false, false, false, false, false, false, false, false, false, false, false, false, false, false, false, false, false, false, false, false, false, false, false, false] rfl rfl (any_of HT_.out (by kernel_rfl)) (fun _ _ _ h => h) (Or.inl ⟨by rfl, ?_⟩) ?_ ?_
                            rotate_left
                            · intro w'
                              go_simp
                              with_reducible rfl
                            rotate_left
                            · simp only [Act.put, List.setIfInBounds_toArray, List.set_cons_zero, List.set_cons_succ, i64_w, i32_w]
                              rfl
                            refine pure_ (i := 9) (N := some 73) (v := ?_) (a' := ?_) #[true, true, true, true, true, true, true, true, true, true, false, false, false, false, false, false, false, false, false, false, false, false, false, false, false, false, false, false, false, false, false, false, false, false, false, false, false, false, false, false, false] rfl rfl (any_of HT_.out (by kernel_rfl)) (fun _ _ _ h => h) (Or.inl ⟨by rfl, ?_⟩) ?_ ?_
                            rotate_left
                            · intro w'
                              go_simp
                              with_reducible rfl
                            rotate_left
                            · simp only [Act.put, List.setIfInBounds_toArray, List.set_cons_zero, List.set_cons_succ, i64_w, i32_w]
                              rfl
                            refine take_ (i := 10) (N := some 74) (v := ?_) (a' := ?_) #[true, true, true, true, true, true, true, true, true, true, true, false, false, false, false, false, false, false, false, false, false, false, false, false, false, false, false, false, false, false, false, false, false, false, false, false, false, false, false, false, false] rfl rfl (take_ofW HT_.out HW_.out (by kernel_rfl)) (fun _ _ _ h => h) (Or.inl ⟨by rfl, ?_⟩) hHeld ?_ ?_
                            rotate_left
                            · rintro w' ⟨s0, s1, s2, s3, s4, s5, s6, s7⟩
                              go_simp
                              with_reducible rfl
                            rotate_left
                            · simp only [Act.put, List.setIfInBounds_toArray, List.set_cons_zero, List.set_cons_succ, i64_w, i32_w]
                              rfl
                            refine one_ (i := 11) (N := some 75) #[true, true, true, true, true, true, true, true, true, true, true, true, false, false, false, false, false, false, false, false, false, false, false, false, false, false, false, false, false, false, false, false, false, false, false, false, false, false, false, false, false] rfl rfl (one_of HT_.out (by kernel_rfl)) (by decide) (fun K hK => ?_)
                            refine gs Try.func11 (by kernel_rfl) rfl #[.agg #[.slice Ao59 t289.length co59, .bool true]] (by rfl) rfl rfl ?_
                            with_reducible refine (chans_Sane.calls kj22 _ _ t289 true true _ ?side1 ?side2 A124.out).mono ?_
                            (case side1 => exact (Kd.V_reads' (vv HO_294000)).2.2)
                            (case side2 => exact (Kd.V_reads' HO_294000.out).2.1)
                            rintro e w143 ⟨rfl, hb⟩
                            refine ⟨_, rfl, ?_⟩
                            replace HO_272000 := vB HO_272000 hb
                            replace HO_285000 := vB HO_285000 hb
                            replace HO_294000 := vB HO_294000 hb
                            replace BK253 := kB BK253 hb
                            replace BK256 := kB BK256 hb
                            replace BK271 := kB BK271 hb
                            replace BK284 := kB BK284 hb
                            replace BK293 := kB BK293 hb
                            replace HB := hB HB hb
                            (try clear hb)
                            (try clear hb2)
                            (try clear hk)
                            (try clear hi)
                            refine hK.out _ _ ⟨cx BK271 0, cx BK271 1, cx BK284 0, cx BK284 1, cx BK293 0, cx BK293 1, cx BK256 0, cx BK256 1⟩ (fun hHeld => ?_)
                            clear hK K
                            refine norm_ (a' := ?_) ?_ ?_
                            rotate_left
                            · show Act.put _ (some 75) _ = _
                              simp only [Act.put, List.setIfInBounds_toArray, List.set_cons_zero, List.set_cons_succ, i64_w, i32_w]
                              rfl
                            refine pure_ (i := 12) (N := some 76) (v := ?_) (a' := ?_) #[true, true, true, true, true, true, true, true, true, true, true, true, true, false, false, false, false, false, false, false, false, false, false, false, false, false, false, false, false, false, false, false, false, false, false, false, false, false, false, false, false] rfl rfl (any_of HT_.out (by kernel_rfl)) (fun _ _ _ h => h) (Or.inl ⟨by rfl, ?_⟩) ?_ ?_
                            rotate_left
                            · intro w'
                              go_simp
                              with_reducible rfl
                            rotate_left
                            · simp only [Act.put, List.setIfInBounds_toArray, List.set_cons_zero, List.set_cons_succ, i64_w, i32_w]
                              rfl
                            refine pure_ (i := 13) (N := some 77) (v := ?_) (a' := ?_) #[true, true, true, true, true, true, true, true, true, true, true, true, true, true, false, false, false, false, false, false, false, false, false, false, false, false, false, false, false, false, false, false, false, false, false, false, false, false, false, false, false] rfl rfl (any_of HT_.out (by kernel_rfl)) (fun _ _ _ h => h) (Or.inl ⟨by rfl, ?_⟩) ?_ ?_
                            rotate_left
                            · intro w'
                              go_simp
                              with_reducible rfl
                            rotate_left
                            · simp only [Act.put, List.setIfInBounds_toArray, List.set_cons_zero, List.set_cons_succ, i64_w, i32_w]
                              rfl
                            refine pure_ (i := 14) (N := some 78) (v := ?_) (a' := ?_) #[true, true, true, true, true, true, true, true, true, true, true, true, true, true, true, false, false, false, false, false, false, false, false, false, false, false, false, false, false, false, false, false, false, false, false, false, false, false, false, false, false] rfl rfl (any_of HT_.out (by kernel_rfl)) (fun _ _ _ h => h) (Or.inl ⟨by rfl, ?_⟩) ?_ ?_
                            rotate_left
                            · intro w'
                              go_simp
                              with_reducible rfl
                            rotate_left
                            · simp only [Act.put, List.setIfInBounds_toArray, List.set_cons_zero, List.set_cons_succ, i64_w, i32_w]
                              rfl
                            refine take_ (i := 15) (N := some 79) (v := ?_) (a' := ?_) #[true, true, true, true, true, true, true, true, true, true, true, true, true, true, true, true, false, false, false, false, false, false, false, false, false, false, false, false, false, false, false, false, false, false, false, false, false, false, false, false, false] rfl rfl (take_ofW HT_.out HW_.out (by kernel_rfl)) (fun _ _ _ h => h) (Or.inl ⟨by rfl, ?_⟩) hHeld ?_ ?_
                            rotate_left
                            · rintro w' ⟨s0, s1, s2, s3, s4, s5, s6, s7⟩
                              go_simp
                              with_reducible rfl
                            rotate_left
                            · simp only [Act.put, List.setIfInBounds_toArray, List.set_cons_zero, List.set_cons_succ, i64_w, i32_w]
                              rfl
                            refine pure_ (i := 16) (N := some 80) (v := ?_) (a' := ?_) #[true, true, true, true, true, true, true, true, true, true, true, true, true, true, true, true, true, false, false, false, false, false, false, false, false, false, false, false, false, false, false, false, false, false, false, false, false, false, false, false, false] rfl rfl (any_of HT_.out (by kernel_rfl)) (fun _ _ _ h => h) (Or.inl ⟨by rfl, ?_⟩) ?_ ?_
                            rotate_left
                            · intro w'
                              go_simp
                              with_reducible rfl
                            rotate_left
                            · simp only [Act.put, List.setIfInBounds_toArray, List.set_cons_zero, List.set_cons_succ, i64_w, i32_w]
                              rfl
                            refine pure_ (i := 17) (N := some 81) (v := ?_) (a' := ?_) #[true, true, true, true, true, true, true, true, true, true, true, true, true, true, true, true, true, true, false, false, false, false, false, false, false, false, false, false, false, false, false, false, false, false, false, false, false, false, false, false, false] rfl rfl (any_of HT_.out (by kernel_rfl)) (fun _ _ _ h => h) (Or.inl ⟨by rfl, ?_⟩) ?_ ?_
                            rotate_left
                            · intro w'
                              go_simp
                              with_reducible rfl
                            rotate_left
                            · simp only [Act.put, List.setIfInBounds_toArray, List.set_cons_zero, List.set_cons_succ, i64_w, i32_w]
                              rfl
                            refine pure_ (i := 18) (N := some 82) (v := ?_) (a' := ?_) #[true, true, true, true, true, true, true, true, true, true, true, true, true, true, true, true, true, true, true, false, false, false, false, false, false, false, false, false, false, false, false, false, false, false, false, false, false, false, false, false, false] rfl rfl (any_of HT_.out (by kernel_rfl)) (fun _ _ _ h => h) (Or.inl ⟨by rfl, ?_⟩) ?_ ?_
                            rotate_left
                            · intro w'
                              go_simp
                              with_reducible rfl
                            rotate_left
                            · simp only [Act.put, List.setIfInBounds_toArray, List.set_cons_zero, List.set_cons_succ, i64_w, i32_w]
                              rfl
                            refine pure_ (i := 19) (N := some 83) (v := ?_) (a' := ?_) #[true, true, true, true, true, true, true, true, true, true, true, true, true, true, true, true, true, true, true, true, false, false, false, false, false, false, false, false, false, false, false, false, false, false, false, false, false, false, false, false, false] rfl rfl (any_of HT_.out (by kernel_rfl)) (fun _ _ _ h => h) (Or.inl ⟨by rfl, ?_⟩) ?_ ?_
                            rotate_left
                            · intro w'
                              go_simp
                              with_reducible rfl
                            rotate_left
                            · simp only [Act.put, List.setIfInBounds_toArray, List.set_cons_zero, List.set_cons_succ, i64_w, i32_w]
                              rfl
                            refine pure_ (i := 20) (N := some 84) (v := ?_) (a' := ?_) #[true, true, true, true, true, true, true, true, true, true, true, true, true, true, true, true, true, true, true, true, true, false, false, false, false, false, false, false, false, false, false, false, false, false, false, false, false, false, false, false, false] rfl rfl (any_of HT_.out (by kernel_rfl)) (fun _ _ _ h => h) (Or.inl ⟨by rfl, ?_⟩) ?_ ?_
                            rotate_left
                            · intro w'
                              go_simp
                              with_reducible rfl
                            rotate_left
                            · simp only [Act.put, List.setIfInBounds_toArray, List.set_cons_zero, List.set_cons_succ, i64_w, i32_w]
                              rfl
                            refine pure_ (i := 21) (N := some 85) (v := undef) (a' := ?_) #[true, true, true, true, true, true, true, true, true, true, true, true, true, true, true, true, true, true, true, true, true, true, false, false, false, false, false, false, false, false, false, false, false, false, false, false, false, false, false, false, false] rfl rfl (any_of HT_.out (by kernel_rfl)) (fun _ _ _ h => h) (Or.inr ⟨by rfl, rfl⟩) ?_ ?_
                            rotate_left
                            · simp only [Act.put, List.setIfInBounds_toArray, List.set_cons_zero, List.set_cons_succ, i64_w, i32_w]
                              rfl
                            refine pure_ (i := 22) (N := some 86) (v := undef) (a' := ?_) #[true, true, true, true, true, true, true, true, true, true, true, true, true, true, true, true, true, true, true, true, true, true, true, false, false, false, false, false, false, false, false, false, false, false, false, false, false, false, false, false, false] rfl rfl (any_of HT_.out (by kernel_rfl)) (fun _ _ _ h => h) (Or.inr ⟨by rfl, rfl⟩) ?_ ?_
                            rotate_left
                            · simp only [Act.put, List.setIfInBounds_toArray, List.set_cons_zero, List.set_cons_succ, i64_w, i32_w]
                              rfl
                            refine pure_ (i := 23) (N := some 87) (v := undef) (a' := ?_) #[true, true, true, true, true, true, true, true, true, true, true, true, true, true, true, true, true, true, true, true, true, true, true, true, false, false, false, false, false, false, false, false, false, false, false, false, false, false, false, false, false] rfl rfl (any_of HT_.out (by kernel_rfl)) (fun _ _ _ h => h) (Or.inr ⟨by rfl, rfl⟩) ?_ ?_
                            rotate_left
                            · simp only [Act.put, List.setIfInBounds_toArray, List.set_cons_zero, List.set_cons_succ, i64_w, i32_w]
                              rfl
                            refine pure_ (i := 24) (N := some 88) (v := undef) (a' := ?_) #[true, true, true, true, true, true, true, true, true, true, true, true, true, true, true, true, true, true, true, true, true, true, true, true, true, false, false, false, false, false, false, false, false, false, false, false, false, false, false, false, false] rfl rfl (any_of HT_.out (by kernel_rfl)) (fun _ _ _ h => h) (Or.inr ⟨by rfl, rfl⟩) ?_ ?_
                            rotate_left
                            · simp only [Act.put, List.setIfInBounds_toArray, List.set_cons_zero, List.set_cons_succ, i64_w, i32_w]
                              rfl
                            refine pure_ (i := 25) (N := some 89) (v := undef) (a' := ?_) #[true, true, true, true, true, true, true, true, true, true, true, true, true, true, true, true, true, true, true, true, true, true, true, true, true, true, false, false, false, false, false, false, false, false, false, false, false, false, false, false, false] rfl rfl (any_of HT_.out (by kernel_rfl)) (fun _ _ _ h => h) (Or.inr ⟨by rfl, rfl⟩) ?_ ?_
                            rotate_left
                            · simp only [Act.put, List.setIfInBounds_toArray, List.set_cons_zero, List.set_cons_succ, i64_w, i32_w]
                              rfl
                            refine pure_ (i := 26) (N := some 90) (v := undef) (a' := ?_) #[true, true, true, true, true, true, true, true, true, true, true, true, true, true, true, true, true, true, true, true, true, true, true, true, true, true, true, false, false, false, false, false, false, false, false, false, false, false, false, false, false] rfl rfl (any_of HT_.out (by kernel_rfl)) (fun _ _ _ h => h) (Or.inr ⟨by rfl, rfl⟩) ?_ ?_
                            rotate_left
                            · simp only [Act.put, List.setIfInBounds_toArray, List.set_cons_zero, List.set_cons_succ, i64_w, i32_w]
                              rfl
                            refine pure_ (i := 27) (N := some 91) (v := undef) (a' := ?_) #[true, true, true, true, true, true, true, true, true, true, true, true, true, true, true, true, true, true, true, true, true, true, true, true, true, true, true, true, false, false, false, false, false, false, false, false, false, false, false, false, false] rfl rfl (any_of HT_.out (by kernel_rfl)) (fun _ _ _ h => h) (Or.inr ⟨by rfl, rfl⟩) ?_ ?_
                            rotate_left
                            · simp only [Act.put, List.setIfInBounds_toArray, List.set_cons_zero, List.set_cons_succ, i64_w, i32_w]
                              rfl
                            refine pure_ (i := 28) (N := some 92) (v := undef) (a' := ?_) #[true, true, true, true, true, true, true, true, true, true, true, true, true, true, true, true, true, true, true, true, true, true, true, true, true, true, true, true, true, false, false, false, false, false, false, false, false, false, false, false, false] rfl rfl (any_of HT_.out (by kernel_rfl)) (fun _ _ _ h => h) (Or.inr ⟨by rfl, rfl⟩) ?_ ?_
                            rotate_left
                            · simp only [Act.put, List.setIfInBounds_toArray, List.set_cons_zero, List.set_cons_succ, i64_w, i32_w]
                              rfl
                            refine pure_ (i := 29) (N := some 93) (v := undef) (a' := ?_) #[true, true, true, true, true, true, true, true, true, true, true, true, true, true, true, true, true, true, true, true, true, true, true, true, true, true, true, true, true, true, false, false, false, false, false, false, false, false, false, false, false] rfl rfl (any_of HT_.out (by kernel_rfl)) (fun _ _ _ h => h) (Or.inr ⟨by rfl, rfl⟩) ?_ ?_
                            rotate_left
                            · simp only [Act.put, List.setIfInBounds_toArray, List.set_cons_zero, List.set_cons_succ, i64_w, i32_w]
                              rfl
                            refine pure_ (i := 30) (N := some 94) (v := ?_) (a' := ?_) #[true, true, true, true, true, true, true, true, true, true, true, true, true, true, true, true, true, true, true, true, true, true, true, true, true, true, true, true, true, true, true, false, false, false, false, false, false, false, false, false, false] rfl rfl (any_of HT_.out (by kernel_rfl)) (fun _ _ _ h => h) (Or.inl ⟨by rfl, ?_⟩) ?_ ?_
                            rotate_left
                            · intro w'
                              go_simp
                              with_reducible rfl
                            rotate_left
                            · simp only [Act.put, List.setIfInBounds_toArray, List.set_cons_zero, List.set_cons_succ, i64_w, i32_w]
                              rfl
                            refine pure_ (i := 31) (N := some 95) (v := ?_) (a' := ?_) #[true, true, true, true, true, true, true, true, true, true, true, true, true, true, true, true, true, true, true, true, true, true, true, true, true, true, true, true, true, true, true, true, false, false, false, false, false, false, false, false, false] rfl rfl (any_of HT_.out (by kernel_rfl)) (fun _ _ _ h => h) (Or.inl ⟨by rfl, ?_⟩) ?_ ?_
                            rotate_left
                            · intro w'
                              go_simp
                              with_reducible rfl
                            rotate_left
                            · simp only [Act.put, List.setIfInBounds_toArray, List.set_cons_zero, List.set_cons_succ, i64_w, i32_w]
                              rfl
                            refine pure_ (i := 32) (N := some 96) (v := ?_) (a' := ?_) #[true, true, true, true, true, true, true, true, true, true, true, true, true, true, true, true, true, true, true, true, true, true, true, true, true, true, true, true, true, true, true, true, true, false, false, false, false, false, false, false, false] rfl rfl (any_of HT_.out (by kernel_rfl)) (fun _ _ _ h => h) (Or.inl ⟨by rfl, ?_⟩) ?_ ?_
                            rotate_left
                            · intro w'
                              go_simp
                              with_reducible rfl
                            rotate_left
                            · simp only [Act.put, List.setIfInBounds_toArray, List.set_cons_zero, List.set_cons_succ, i64_w, i32_w]
                              rfl
                            refine pure_ (i := 33) (N := some 97) (v := ?_) (a' := ?_) #[true, true, true, true, true, true, true, true, true, true, true, true, true, true, true, true, true, true, true, true, true, true, true, true, true, true, true, true, true, true, true, true, true, true, false, false, false, false, false, false, false] rfl rfl (any_of HT_.out (by kernel_rfl)) (fun _ _ _ h => h) (Or.inl ⟨by rfl, ?_⟩) ?_ ?_
                            rotate_left
                            · intro w'
                              go_simp
                              with_reducible rfl
                            rotate_left
                            · simp only [Act.put, List.setIfInBounds_toArray, List.set_cons_zero, List.set_cons_succ, i64_w, i32_w]
                              rfl
                            refine pure_ (i := 34) (N := some 98) (v := ?_) (a' := ?_) #[true, true, true, true, true, true, true, true, true, true, true, true, true, true, true, true, true, true, true, true, true, true, true, true, true, true, true, true, true, true, true, true, true, true, true, false, false, false, false, false, false] rfl rfl (any_of HT_.out (by kernel_rfl)) (fun _ _ _ h => h) (Or.inl ⟨by rfl, ?_⟩) ?_ ?_
                            rotate_left
                            · intro w'
                              go_simp
                              with_reducible rfl
                            rotate_left
                            · simp only [Act.put, List.setIfInBounds_toArray, List.set_cons_zero, List.set_cons_succ, i64_w, i32_w]
                              rfl
                            refine take_ (i := 35) (N := some 99) (v := ?_) (a' := ?_) #[true, true, true, true, true, true, true, true, true, true, true, true, true, true, true, true, true, true, true, true, true, true, true, true, true, true, true, true, true, true, true, true, true, true, true, true, false, false, false, false, false] rfl rfl (take_ofW HT_.out HW_.out (by kernel_rfl)) (fun _ _ _ h => h) (Or.inl ⟨by rfl, ?_⟩) hHeld ?_ ?_
                            rotate_left
                            · rintro w' ⟨s0, s1, s2, s3, s4, s5, s6, s7⟩
                              go_simp
                              with_reducible rfl
                            rotate_left
                            · simp only [Act.put, List.setIfInBounds_toArray, List.set_cons_zero, List.set_cons_succ, i64_w, i32_w]
                              rfl
                            refine pure_ (i := 36) (N := some 100) (v := ?_) (a' := ?_) #[true, true, true, true, true, true, true, true, true, true, true, true, true, true, true, true, true, true, true, true, true, true, true, true, true, true, true, true, true, true, true, true, true, true, true, true, true, false, false, false, false] rfl rfl (any_of HT_.out (by kernel_rfl)) (fun _ _ _ h => h) (Or.inl ⟨by rfl, ?_⟩) ?_ ?_
                            rotate_left
                            · intro w'
                              go_simp
                              with_reducible rfl
                            rotate_left
                            · simp only [Act.put, List.setIfInBounds_toArray, List.set_cons_zero, List.set_cons_succ, i64_w, i32_w]
                              rfl
                            refine pure_ (i := 37) (N := some 101) (v := ?_) (a' := ?_) #[true, true, true, true, true, true, true, true, true, true, true, true, true, true, true, true, true, true, true, true, true, true, true, true, true, true, true, true, true, true, true, true, true, true, true, true, true, true, false, false, false] rfl rfl (any_of HT_.out (by kernel_rfl)) (fun _ _ _ h => h) (Or.inl ⟨by rfl, ?_⟩) ?_ ?_
                            rotate_left
                            · intro w'
                              go_simp
                              with_reducible rfl
                            rotate_left
                            · simp only [Act.put, List.setIfInBounds_toArray, List.set_cons_zero, List.set_cons_succ, i64_w, i32_w]
                              rfl
                            refine pure_ (i := 38) (N := some 102) (v := ?_) (a' := ?_) #[true, true, true, true, true, true, true, true, true, true, true, true, true, true, true, true, true, true, true, true, true, true, true, true, true, true, true, true, true, true, true, true, true, true, true, true, true, true, true, false, false] rfl rfl (any_of HT_.out (by kernel_rfl)) (fun _ _ _ h => h) (Or.inl ⟨by rfl, ?_⟩) ?_ ?_
                            rotate_left
                            · intro w'
                              go_simp
                              with_reducible rfl
                            rotate_left
                            · simp only [Act.put, List.setIfInBounds_toArray, List.set_cons_zero, List.set_cons_succ, i64_w, i32_w]
                              rfl
                            refine pure_ (i := 39) (N := some 103) (v := ?_) (a' := ?_) #[true, true, true, true, true, true, true, true, true, true, true, true, true, true, true, true, true, true, true, true, true, true, true, true, true, true, true, true, true, true, true, true, true, true, true, true, true, true, true, true, false] rfl rfl (any_of HT_.out (by kernel_rfl)) (fun _ _ _ h => h) (Or.inl ⟨by rfl, ?_⟩) ?_ ?_
                            rotate_left
                            · intro w'
                              go_simp
                              with_reducible rfl
                            rotate_left
                            · simp only [Act.put, List.setIfInBounds_toArray, List.set_cons_zero, List.set_cons_succ, i64_w, i32_w]
                              rfl
                            refine pure_ (i := 40) (N := some 4) (v := ?_) (a' := ?_) #[true, true, true, true, true, true, true, true, true, true, true, true, true, true, true, true, true, true, true, true, true, true, true, true, true, true, true, true, true, true, true, true, true, true, true, true, true, true, true, true, true] rfl rfl (any_of HT_.out (by kernel_rfl)) (fun _ _ _ h => h) (Or.inl ⟨by rfl, ?_⟩) ?_ ?_
                            rotate_left
                            · intro w'
                              go_simp
                              with_reducible rfl
                            rotate_left
                            · simp only [Act.put, List.setIfInBounds_toArray, List.set_cons_zero, List.set_cons_succ, i64_w, i32_w]
                              rfl
                            refine done_ (done_of HT_.out (by kernel_rfl)) ?_
                            try go_wp2
                            go_ret
                            exact ⟨by first | rfl | (simp [errW_none, errW_some] <;> rfl) | (simp [*, errW_none, errW_some] <;> rfl), by repeat (first | (with_reducible first | exact HB.out | apply below_alloc | apply pw_below_drewN | apply below_drew1 | refine below_set ?_ GE253.out | refine below_set ?_ GE256.out | refine below_set ?_ GE271.out | refine below_set ?_ GE284.out | refine below_set ?_ GE293.out) | exact HB.out)⟩
                        · replace c126 := Bool.eq_false_iff.mpr c126
                          subst c126
                          rw [if_neg nf] at H
                          cases H; exact absurd HRT.out (by decide)
                      · replace c125 := Bool.eq_false_iff.mpr c125
                        subst c125
                        rw [if_neg nf] at H
                        cases H; exact absurd HRT.out (by decide)
                    · replace c123 := Bool.eq_false_iff.mpr c123
                      subst c123
                      rw [if_neg nf] at H
                      cases H; exact absurd HRT.out (by decide)
                  · replace c121 := Bool.eq_false_iff.mpr c121
                    subst c121
                    rw [if_neg nf] at H
                    cases H; exact absurd HRT.out (by decide)
                · replace c119 := Bool.eq_false_iff.mpr c119
                  subst c119
                  rw [if_neg nf] at H
                  cases H; exact absurd HRT.out (by decide)
        · replace c16 := Bool.eq_false_iff.mpr c16
          subst c16
          rw [if_neg nf] at H
          obtain ⟨⟨t306, t309⟩, A144, H⟩ := ob H
          (try dsimp only at H)
          obtain ⟨⟨t310, t313, t314⟩, A145, H⟩ := ob H
          (try dsimp only at H)
          obtain ⟨⟨t316, t319⟩, A146, H⟩ := ob H
          (try dsimp only at H)
          obtain ⟨⟨t320, t323, t324, t327⟩, A147, H⟩ := ob H
          (try dsimp only at H)
          obtain ⟨⟨t329, t332⟩, A148, H⟩ := ob H
          (try dsimp only at H)
          obtain ⟨⟨t333, t336⟩, A149, H⟩ := ob H
          (try dsimp only at H)
          have HC150 := Aside0.mk H
          clear H
          obtain ⟨hcz151_0, hcz151_1, hfz151_0, hfz151_1⟩ := bc2 BK253
          go_upto_region 10 with (first | ((with_reducible refine gate_dst (N := 6) rfl ?_); (try (refine gate_guard (by rfl) ?_; dsimp only)); refine box_event ?hg (N := 6) ?hd (cs := #[.slice none 0 0, .bool false]) (t := 24) ?hr ?_; (case hd => rfl); (case hg => rfl); (case hr => first | (go_simp; done) | (go_simp; rfl)); intro gb256 hg w152 hbox hb; have BK256 := Aside0.mk hbox; have GW256 := gE HB hg; have GE256 := gE HB hg; replace HB := hB HB hb; have NB253_256 := nL BK253 hg; have NB256_253 := nG BK253 hg; replace BK253 := kB BK253 hb; clear hb hbox hg; have hnb153 := NB256_253.out; have hnc153 := NB253_256.out; obtain ⟨hcz154_0, hcz154_1, hfz154_0, hfz154_1⟩ := bc2 BK256) | ((with_reducible refine gate_store (t := 24) (p := 6) rfl ?_); refine store_event (t := 24) (p := 6) (v := ?vo_w155) (w1 := ((w152.setCell ⟨gb256, 0, none⟩ (.slice A0_0 l0_0.length c0_0)).setCell ⟨gb256, 1, none⟩ (.bool a0_1))) ?hg ?ho ?hn ?hr ?_; (case ho => rfl); (case hg => rfl); (case hn => rfl); (case hr => first | (go_simp; done) | (go_simp; rfl)); intro w155 hw; replace BK253 := kS BK253 hw; replace BK256 := kP2 BK256 hw; replace HB : Aside0 (Below w.heap.size w w155) := ⟨(by rw [hw]; exact (bb HB))⟩; clear hw; obtain ⟨hcz156_0, hcz156_1, hfz156_0, hfz156_1⟩ := bc2 BK253) | ((with_reducible refine gate_callee (f := 12) rfl ?_); refine gL (some 25) rfl rfl Try.func12 (by kernel_rfl) rfl #[.agg #[.slice A0_0 l0_0.length c0_0, .bool a0_1]] rfl ?_; (with_reducible refine (pentroughlaw16_ours.calls (fun k_ => k_ < w.heap.size) _ _ l0_0 a0_1 t257 t260 _ ?side1 A14.out).mono ?_); (case side1 => exact Kd.V_mk HC0_0.out (Kd.F_below (Kd.C_F (Kd.heap_slice 3 (Kd.heap_int .i64)) HR0_0.out) (bb HB))); rintro e w157 ⟨v258, rfl, ho0, hb⟩; refine ⟨_, rfl, ?_⟩; have HO259 := Aside0.mk (Kd.V_lower (Kd.V_mono (ok' := fun k_ => k_ ≠ gb253 ∧ k_ ≠ gb256) ho0 (fun k_ hk_ => ⟨o2 hk_ (gw GW253) (Kd.freshB (kk BK253) k_), o2 hk_ (gw GW256) (Kd.freshB (kk BK256) k_)⟩)) (below_size (bb HB))); replace BK253 := kB BK253 hb; replace BK256 := kB BK256 hb; replace HB := hB HB hb; (try clear hb); (try clear hb2); (try clear hk); (try clear hi); (try clear ho0); obtain ⟨Ao158, co158, eo158⟩ := Kd.V_slice HO259.out; subst eo158) | ((with_reducible refine gate_callee (f := 11) rfl ?_); refine gL (some 26) rfl rfl Try.func11 (by kernel_rfl) rfl #[.agg #[.slice Ao158 t257.length co158, .bool t260]] rfl ?_; (with_reducible refine (chans_Sane.calls kj3 _ _ t257 t260 false _ ?side1 ?side2 A15.out).mono ?_); (case side1 => exact (Kd.V_reads' (vv HO259)).2.2); (case side2 => exact (Kd.V_reads' HO259.out).2.1); rintro e w159 ⟨rfl, hb⟩; refine ⟨_, rfl, ?_⟩; replace HO259 := vB HO259 hb; replace BK253 := kB BK253 hb; replace BK256 := kB BK256 hb; replace HB := hB HB hb; (try clear hb); (try clear hb2); (try clear hk); (try clear hi); obtain ⟨hcz160_0, hcz160_1, hfz160_0, hfz160_1⟩ := bc2 BK256) | ((with_reducible refine gate_store (t := 24) (p := 6) rfl ?_); refine store_event (t := 24) (p := 6) (v := ?vo_w161) (w1 := ((w159.setCell ⟨gb256, 0, none⟩ (.slice none 0 0)).setCell ⟨gb256, 1, none⟩ (.bool false))) ?hg ?ho ?hn ?hr ?_; (case ho => rfl); (case hg => rfl); (case hn => rfl); (case hr => first | (go_simp; done) | (go_simp; rfl)); intro w161 hw; replace HO259 := vS (fun k_ => k_ ≠ gb253 ∧ k_ ≠ gb256) HO259 hw; replace BK253 := kS BK253 hw; replace BK256 := kP2 BK256 hw; replace HB : Aside0 (Below w.heap.size w w161) := ⟨(by rw [hw]; exact (bb HB))⟩; clear hw; obtain ⟨hcz162_0, hcz162_1, hfz162_0, hfz162_1⟩ := bc2 BK253) | ((with_reducible refine gate_callee (f := 12) rfl ?_); refine gL (some 31) rfl rfl Try.func12 (by kernel_rfl) rfl #[.agg #[.slice A0_0 l0_0.length c0_0, .bool a0_1]] rfl ?_; (with_reducible refine (pentroughlaw16_ours.calls (fun k_ => k_ < w.heap.size) _ _ l0_0 a0_1 t306 t309 _ ?side1 A144.out).mono ?_); (case side1 => exact Kd.V_mk HC0_0.out (Kd.F_below (Kd.C_F (Kd.heap_slice 3 (Kd.heap_int .i64)) HR0_0.out) (bb HB))); rintro e w163 ⟨v307, rfl, ho0, hb⟩; refine ⟨_, rfl, ?_⟩; replace HO259 := vB HO259 hb; have HO308 := Aside0.mk (Kd.V_lower (Kd.V_mono (ok' := fun k_ => k_ ≠ gb253 ∧ k_ ≠ gb256) ho0 (fun k_ hk_ => ⟨o2 hk_ (gw GW253) (Kd.freshB (kk BK253) k_), o2 hk_ (gw GW256) (Kd.freshB (kk BK256) k_)⟩)) (below_size (bb HB))); replace BK253 := kB BK253 hb; replace BK256 := kB BK256 hb; replace HB := hB HB hb; (try clear hb); (try clear hb2); (try clear hk); (try clear hi); (try clear ho0); obtain ⟨Ao164, co164, eo164⟩ := Kd.V_slice HO308.out; subst eo164) | ((with_reducible refine gate_callee (f := 13) rfl ?_); refine gL (some 33) rfl rfl Try.func13 (by kernel_rfl) rfl #[.agg #[.slice Ao164 t306.length co164, .bool t309], .slice A1 l1.length c1] rfl ?_; (with_reducible refine (chans_Put.calls kj3 (fun k_ => (k_ ≠ gb253 ∧ k_ ≠ gb256)) _ _ t306 t309 (fun k_ => k_ < w.heap.size) _ _ l1 t310 t313 t314 _ ?side1 ?side2 A145.out).mono ?_); (case side1 => exact HO308.out); (case side2 => exact Kd.V_mk HC1.out (Kd.F_below (Kd.C_F (Kd.heap_int .i64) HR1.out) (bb HB))); rintro e w165 ⟨v311, rfl, ho0, hb⟩; refine ⟨_, rfl, ?_⟩; replace HO259 := vB HO259 hb; replace HO308 := vB HO308 hb; have HO312 := Aside0.mk (Kd.V_lower (Kd.V_mono (ok' := fun k_ => k_ ≠ gb253 ∧ k_ ≠ gb256) ho0 (fun k_ hk_ => ⟨Or.elim hk_ (fun hs_ => Or.elim hs_ (fun hs_ => hs_.1) (gw GW253)) (fun hn_ => (Kd.freshB (kk BK253) k_ hn_)), Or.elim hk_ (fun hs_ => Or.elim hs_ (fun hs_ => hs_.2) (gw GW256)) (fun hn_ => (Kd.freshB (kk BK256) k_ hn_))⟩)) (below_size (bb HB))); replace BK253 := kB BK253 hb; replace BK256 := kB BK256 hb; replace HB := hB HB hb; (try clear hb); (try clear hb2); (try clear hk); (try clear hi); (try clear ho0)) | ((with_reducible refine gate_dst (N := 7) rfl ?_); (try (refine gate_guard (by rfl) ?_; dsimp only)); refine box_event ?hg (N := 7) ?hd (cs := #[.slice none 0 0, .bool false]) (t := 28) ?hr ?_; (case hd => rfl); (case hg => rfl); (case hr => first | (go_simp; done) | (go_simp; rfl)); intro gb315 hg w166 hbox hb; replace HO259 := vE HO259 hg hb; replace HO308 := vE HO308 hg hb; replace HO312 := vE HO312 hg hb; have BK315 := Aside0.mk hbox; have GW315 := gE HB hg; have GE315 := gE HB hg; replace HB := hB HB hb; have NB253_315 := nL BK253 hg; have NB315_253 := nG BK253 hg; replace BK253 := kB BK253 hb; have NB256_315 := nL BK256 hg; have NB315_256 := nG BK256 hg; replace BK256 := kB BK256 hb; clear hb hbox hg; obtain ⟨Ao167, co167, eo167⟩ := Kd.V_slice HO312.out; subst eo167; have hnb168 := NB315_253.out; have hnc168 := NB253_315.out; have hnb169 := NB315_256.out; have hnc169 := NB256_315.out; obtain ⟨hcz170_0, hcz170_1, hfz170_0, hfz170_1⟩ := bc2 BK315) | ((with_reducible refine gate_store (t := 28) (p := 7) rfl ?_); refine store_event (t := 28) (p := 7) (v := ?vo_w171) (w1 := ((w166.setCell ⟨gb315, 0, none⟩ (.slice Ao167 t310.length co167)).setCell ⟨gb315, 1, none⟩ (.bool t313))) ?hg ?ho ?hn ?hr ?_; (case ho => rfl); (case hg => rfl); (case hn => rfl); (case hr => first | (go_simp; done) | (go_simp; rfl)); intro w171 hw; replace HO259 := vS (fun k_ => k_ ≠ gb253 ∧ k_ ≠ gb256 ∧ k_ ≠ gb315) HO259 hw; replace HO308 := vS (fun k_ => k_ ≠ gb253 ∧ k_ ≠ gb256 ∧ k_ ≠ gb315) HO308 hw; replace HO312 := vS (fun k_ => k_ ≠ gb253 ∧ k_ ≠ gb256 ∧ k_ ≠ gb315) HO312 hw; replace BK253 := kS BK253 hw; replace BK256 := kS BK256 hw; replace BK315 := kP2 BK315 hw; replace HB : Aside0 (Below w.heap.size w w171) := ⟨(by rw [hw]; exact (bb HB))⟩; clear hw; obtain ⟨hcz172_0, hcz172_1, hfz172_0, hfz172_1⟩ := bc2 BK253) | ((with_reducible refine gate_callee (f := 12) rfl ?_); refine gL (some 38) rfl rfl Try.func12 (by kernel_rfl) rfl #[.agg #[.slice A0_0 l0_0.length c0_0, .bool a0_1]] rfl ?_; (with_reducible refine (pentroughlaw16_ours.calls (fun k_ => k_ < w.heap.size) _ _ l0_0 a0_1 t316 t319 _ ?side1 A146.out).mono ?_); (case side1 => exact Kd.V_mk HC0_0.out (Kd.F_below (Kd.C_F (Kd.heap_slice 3 (Kd.heap_int .i64)) HR0_0.out) (bb HB))); rintro e w173 ⟨v317, rfl, ho0, hb⟩; refine ⟨_, rfl, ?_⟩; replace HO259 := vB HO259 hb; replace HO308 := vB HO308 hb; replace HO312 := vB HO312 hb; have HO318 := Aside0.mk (Kd.V_lower (Kd.V_mono (ok' := fun k_ => k_ ≠ gb253 ∧ k_ ≠ gb256 ∧ k_ ≠ gb315) ho0 (fun k_ hk_ => ⟨o2 hk_ (gw GW253) (Kd.freshB (kk BK253) k_), o2 hk_ (gw GW256) (Kd.freshB (kk BK256) k_), o2 hk_ (gw GW315) (Kd.freshB (kk BK315) k_)⟩)) (below_size (bb HB))); replace BK253 := kB BK253 hb; replace BK256 := kB BK256 hb; replace BK315 := kB BK315 hb; replace HB := hB HB hb; (try clear hb); (try clear hb2); (try clear hk); (try clear hi); (try clear ho0); obtain ⟨Ao174, co174, eo174⟩ := Kd.V_slice HO318.out; subst eo174) | ((with_reducible refine gate_callee (f := 14) rfl ?_); refine gL (some 39) rfl rfl Try.func14 (by kernel_rfl) rfl #[.agg #[.slice Ao174 t316.length co174, .bool t319]] rfl ?_; (with_reducible refine (chans_Take.calls kj3 (fun k_ => (k_ ≠ gb253 ∧ (k_ ≠ gb256 ∧ k_ ≠ gb315))) _ _ t316 t319 t320 t323 t324 t327 _ ?side1 A147.out).mono ?_); (case side1 => exact HO318.out); rintro e w175 ⟨v321, v325, rfl, ho0, ho1, hb⟩; refine ⟨_, rfl, ?_⟩; replace HO259 := vB HO259 hb; replace HO308 := vB HO308 hb; replace HO312 := vB HO312 hb; replace HO318 := vB HO318 hb; have HO322 := Aside0.mk (Kd.V_lower (Kd.V_mono (ok' := fun k_ => k_ ≠ gb253 ∧ k_ ≠ gb256 ∧ k_ ≠ gb315) ho0 (fun k_ hk_ => ⟨o2 hk_ (fun h => h.1) (Kd.freshB (kk BK253) k_), o2 hk_ (fun h => h.2.1) (Kd.freshB (kk BK256) k_), o2 hk_ (fun h => h.2.2) (Kd.freshB (kk BK315) k_)⟩)) (below_size (bb HB))); have HO326 := Aside0.mk (Kd.V_lower (Kd.V_mono (ok' := fun k_ => k_ ≠ gb253 ∧ k_ ≠ gb256 ∧ k_ ≠ gb315) ho1 (fun k_ hk_ => ⟨o2 hk_ (fun h => h.1) (Kd.freshB (kk BK253) k_), o2 hk_ (fun h => h.2.1) (Kd.freshB (kk BK256) k_), o2 hk_ (fun h => h.2.2) (Kd.freshB (kk BK315) k_)⟩)) (below_size (bb HB))); replace BK253 := kB BK253 hb; replace BK256 := kB BK256 hb; replace BK315 := kB BK315 hb; replace HB := hB HB hb; (try clear hb); (try clear hb2); (try clear hk); (try clear hi); (try clear ho0); (try clear ho1)) | ((with_reducible refine gate_dst (N := 9) rfl ?_); (try (refine gate_guard (by rfl) ?_; dsimp only)); refine box_event ?hg (N := 9) ?hd (cs := #[.slice none 0 0, .bool false]) (t := 28) ?hr ?_; (case hd => rfl); (case hg => rfl); (case hr => first | (go_simp; done) | (go_simp; rfl)); intro gb328 hg w176 hbox hb; replace HO259 := vE HO259 hg hb; replace HO308 := vE HO308 hg hb; replace HO312 := vE HO312 hg hb; replace HO318 := vE HO318 hg hb; replace HO322 := vE HO322 hg hb; replace HO326 := vE HO326 hg hb; have BK328 := Aside0.mk hbox; have GW328 := gE HB hg; have GE328 := gE HB hg; replace HB := hB HB hb; have NB253_328 := nL BK253 hg; have NB328_253 := nG BK253 hg; replace BK253 := kB BK253 hb; have NB256_328 := nL BK256 hg; have NB328_256 := nG BK256 hg; replace BK256 := kB BK256 hb; have NB315_328 := nL BK315 hg; have NB328_315 := nG BK315 hg; replace BK315 := kB BK315 hb; clear hb hbox hg; obtain ⟨Ao177, co177, eo177⟩ := Kd.V_slice HO322.out; subst eo177; have hnb178 := NB328_253.out; have hnc178 := NB253_328.out; have hnb179 := NB328_256.out; have hnc179 := NB256_328.out; have hnb180 := NB328_315.out; have hnc180 := NB315_328.out; obtain ⟨hcz181_0, hcz181_1, hfz181_0, hfz181_1⟩ := bc2 BK328) | ((with_reducible refine gate_store (t := 28) (p := 9) rfl ?_); refine store_event (t := 28) (p := 9) (v := ?vo_w182) (w1 := ((w176.setCell ⟨gb328, 0, none⟩ (.slice Ao177 t320.length co177)).setCell ⟨gb328, 1, none⟩ (.bool t323))) ?hg ?ho ?hn ?hr ?_; (case ho => rfl); (case hg => rfl); (case hn => rfl); (case hr => first | (go_simp; done) | (go_simp; rfl)); intro w182 hw; replace HO259 := vS (fun k_ => k_ ≠ gb253 ∧ k_ ≠ gb256 ∧ k_ ≠ gb315 ∧ k_ ≠ gb328) HO259 hw; replace HO308 := vS (fun k_ => k_ ≠ gb253 ∧ k_ ≠ gb256 ∧ k_ ≠ gb315 ∧ k_ ≠ gb328) HO308 hw; replace HO312 := vS (fun k_ => k_ ≠ gb253 ∧ k_ ≠ gb256 ∧ k_ ≠ gb315 ∧ k_ ≠ gb328) HO312 hw; replace HO318 := vS (fun k_ => k_ ≠ gb253 ∧ k_ ≠ gb256 ∧ k_ ≠ gb315 ∧ k_ ≠ gb328) HO318 hw; replace HO322 := vS (fun k_ => k_ ≠ gb253 ∧ k_ ≠ gb256 ∧ k_ ≠ gb315 ∧ k_ ≠ gb328) HO322 hw; replace HO326 := vS (fun k_ => k_ ≠ gb253 ∧ k_ ≠ gb256 ∧ k_ ≠ gb315 ∧ k_ ≠ gb328) HO326 hw; replace BK253 := kS BK253 hw; replace BK256 := kS BK256 hw; replace BK315 := kS BK315 hw; replace BK328 := kP2 BK328 hw; replace HB : Aside0 (Below w.heap.size w w182) := ⟨(by rw [hw]; exact (bb HB))⟩; clear hw; obtain ⟨hcz183_0, hcz183_1, hfz183_0, hfz183_1⟩ := bc2 BK253) | ((with_reducible refine gate_callee (f := 12) rfl ?_); refine gL (some 44) rfl rfl Try.func12 (by kernel_rfl) rfl #[.agg #[.slice A0_0 l0_0.length c0_0, .bool a0_1]] rfl ?_; (with_reducible refine (pentroughlaw16_ours.calls (fun k_ => k_ < w.heap.size) _ _ l0_0 a0_1 t329 t332 _ ?side1 A148.out).mono ?_); (case side1 => exact Kd.V_mk HC0_0.out (Kd.F_below (Kd.C_F (Kd.heap_slice 3 (Kd.heap_int .i64)) HR0_0.out) (bb HB))); rintro e w184 ⟨v330, rfl, ho0, hb⟩; refine ⟨_, rfl, ?_⟩; replace HO259 := vB HO259 hb; replace HO308 := vB HO308 hb; replace HO312 := vB HO312 hb; replace HO318 := vB HO318 hb; replace HO322 := vB HO322 hb; replace HO326 := vB HO326 hb; have HO331 := Aside0.mk (Kd.V_lower (Kd.V_mono (ok' := fun k_ => k_ ≠ gb253 ∧ k_ ≠ gb256 ∧ k_ ≠ gb315 ∧ k_ ≠ gb328) ho0 (fun k_ hk_ => ⟨o2 hk_ (gw GW253) (Kd.freshB (kk BK253) k_), o2 hk_ (gw GW256) (Kd.freshB (kk BK256) k_), o2 hk_ (gw GW315) (Kd.freshB (kk BK315) k_), o2 hk_ (gw GW328) (Kd.freshB (kk BK328) k_)⟩)) (below_size (bb HB))); replace BK253 := kB BK253 hb; replace BK256 := kB BK256 hb; replace BK315 := kB BK315 hb; replace BK328 := kB BK328 hb; replace HB := hB HB hb; (try clear hb); (try clear hb2); (try clear hk); (try clear hi); (try clear ho0); obtain ⟨Ao185, co185, eo185⟩ := Kd.V_slice HO331.out; subst eo185) | ((with_reducible refine gate_callee (f := 16) rfl ?_); refine gL (some 45) rfl rfl Try.func16 (by kernel_rfl) rfl #[.agg #[.slice Ao185 t329.length co185, .bool t332]] rfl ?_; (with_reducible refine (chans_Close.calls kj3 (fun k_ => (k_ ≠ gb253 ∧ (k_ ≠ gb256 ∧ (k_ ≠ gb315 ∧ k_ ≠ gb328)))) _ _ t329 t332 t333 t336 _ ?side1 A149.out).mono ?_); (case side1 => exact HO331.out); rintro e w186 ⟨v334, rfl, ho0, hb⟩; refine ⟨_, rfl, ?_⟩; replace HO259 := vB HO259 hb; replace HO308 := vB HO308 hb; replace HO312 := vB HO312 hb; replace HO318 := vB HO318 hb; replace HO322 := vB HO322 hb; replace HO326 := vB HO326 hb; replace HO331 := vB HO331 hb; have HO335 := Aside0.mk (Kd.V_lower (Kd.V_mono (ok' := fun k_ => k_ ≠ gb253 ∧ k_ ≠ gb256 ∧ k_ ≠ gb315 ∧ k_ ≠ gb328) ho0 (fun k_ hk_ => ⟨o2 hk_ (fun h => h.1) (Kd.freshB (kk BK253) k_), o2 hk_ (fun h => h.2.1) (Kd.freshB (kk BK256) k_), o2 hk_ (fun h => h.2.2.1) (Kd.freshB (kk BK315) k_), o2 hk_ (fun h => h.2.2.2) (Kd.freshB (kk BK328) k_)⟩)) (below_size (bb HB))); replace BK253 := kB BK253 hb; replace BK256 := kB BK256 hb; replace BK315 := kB BK315 hb; replace BK328 := kB BK328 hb; replace HB := hB HB hb; (try clear hb); (try clear hb2); (try clear hk); (try clear hi); (try clear ho0)) | ((with_reducible refine gate_dst (N := 12) rfl ?_); (try (refine gate_guard (by rfl) ?_; dsimp only)); refine box_event ?hg (N := 12) ?hd (cs := #[.slice none 0 0, .bool false]) (t := 28) ?hr ?_; (case hd => rfl); (case hg => rfl); (case hr => first | (go_simp; done) | (go_simp; rfl)); intro gb337 hg w187 hbox hb; replace HO259 := vE HO259 hg hb; replace HO308 := vE HO308 hg hb; replace HO312 := vE HO312 hg hb; replace HO318 := vE HO318 hg hb; replace HO322 := vE HO322 hg hb; replace HO326 := vE HO326 hg hb; replace HO331 := vE HO331 hg hb; replace HO335 := vE HO335 hg hb; have BK337 := Aside0.mk hbox; have GW337 := gE HB hg; have GE337 := gE HB hg; replace HB := hB HB hb; have NB253_337 := nL BK253 hg; have NB337_253 := nG BK253 hg; replace BK253 := kB BK253 hb; have NB256_337 := nL BK256 hg; have NB337_256 := nG BK256 hg; replace BK256 := kB BK256 hb; have NB315_337 := nL BK315 hg; have NB337_315 := nG BK315 hg; replace BK315 := kB BK315 hb; have NB328_337 := nL BK328 hg; have NB337_328 := nG BK328 hg; replace BK328 := kB BK328 hb; clear hb hbox hg; obtain ⟨Ao188, co188, eo188⟩ := Kd.V_slice HO335.out; subst eo188; have hnb189 := NB337_253.out; have hnc189 := NB253_337.out; have hnb190 := NB337_256.out; have hnc190 := NB256_337.out; have hnb191 := NB337_315.out; have hnc191 := NB315_337.out; have hnb192 := NB337_328.out; have hnc192 := NB328_337.out; obtain ⟨hcz193_0, hcz193_1, hfz193_0, hfz193_1⟩ := bc2 BK337) | ((with_reducible refine gate_store (t := 28) (p := 12) rfl ?_); refine store_event (t := 28) (p := 12) (v := ?vo_w194) (w1 := ((w187.setCell ⟨gb337, 0, none⟩ (.slice Ao188 t333.length co188)).setCell ⟨gb337, 1, none⟩ (.bool t336))) ?hg ?ho ?hn ?hr ?_; (case ho => rfl); (case hg => rfl); (case hn => rfl); (case hr => first | (go_simp; done) | (go_simp; rfl)); intro w194 hw; replace HO259 := vS (fun k_ => k_ ≠ gb253 ∧ k_ ≠ gb256 ∧ k_ ≠ gb315 ∧ k_ ≠ gb328 ∧ k_ ≠ gb337) HO259 hw; replace HO308 := vS (fun k_ => k_ ≠ gb253 ∧ k_ ≠ gb256 ∧ k_ ≠ gb315 ∧ k_ ≠ gb328 ∧ k_ ≠ gb337) HO308 hw; replace HO312 := vS (fun k_ => k_ ≠ gb253 ∧ k_ ≠ gb256 ∧ k_ ≠ gb315 ∧ k_ ≠ gb328 ∧ k_ ≠ gb337) HO312 hw; replace HO318 := vS (fun k_ => k_ ≠ gb253 ∧ k_ ≠ gb256 ∧ k_ ≠ gb315 ∧ k_ ≠ gb328 ∧ k_ ≠ gb337) HO318 hw; replace HO322 := vS (fun k_ => k_ ≠ gb253 ∧ k_ ≠ gb256 ∧ k_ ≠ gb315 ∧ k_ ≠ gb328 ∧ k_ ≠ gb337) HO322 hw; replace HO326 := vS (fun k_ => k_ ≠ gb253 ∧ k_ ≠ gb256 ∧ k_ ≠ gb315 ∧ k_ ≠ gb328 ∧ k_ ≠ gb337) HO326 hw; replace HO331 := vS (fun k_ => k_ ≠ gb253 ∧ k_ ≠ gb256 ∧ k_ ≠ gb315 ∧ k_ ≠ gb328 ∧ k_ ≠ gb337) HO331 hw; replace HO335 := vS (fun k_ => k_ ≠ gb253 ∧ k_ ≠ gb256 ∧ k_ ≠ gb315 ∧ k_ ≠ gb328 ∧ k_ ≠ gb337) HO335 hw; replace BK253 := kS BK253 hw; replace BK256 := kS BK256 hw; replace BK315 := kS BK315 hw; replace BK328 := kS BK328 hw; replace BK337 := kP2 BK337 hw; replace HB : Aside0 (Below w.heap.size w w194) := ⟨(by rw [hw]; exact (bb HB))⟩; clear hw))
          (try simp only [Act.put, List.setIfInBounds_toArray, List.set_cons_zero, List.set_cons_succ])
          go_cut [63] (fun v63 wc => ∃ (kq : Nat) (x63_149 : Bool), v63 = .bool x63_149 ∧ Aside0 (pentroughlaw16_ChansKeeps.j2 kq l1 t254 t314 t327 x63_149 false t310 t313 t320 t323 t333 t336 = some r) ∧ Aside0 (kq ≤ kj3) ∧ Aside0 (Kd.V (Kd.slice 3 (Kd.int .i64)) 32 wc w.heap.size (fun k_ => k_ ≠ gb253 ∧ k_ ≠ gb256 ∧ k_ ≠ gb315 ∧ k_ ≠ gb328 ∧ k_ ≠ gb337) (.slice Ao167 t310.length co167) t310) ∧ Aside0 (Kd.V (Kd.slice 3 (Kd.int .i64)) 32 wc w.heap.size (fun k_ => k_ ≠ gb253 ∧ k_ ≠ gb256 ∧ k_ ≠ gb315 ∧ k_ ≠ gb328 ∧ k_ ≠ gb337) (.slice Ao177 t320.length co177) t320) ∧ Aside0 (Kd.V (Kd.slice 3 (Kd.int .i64)) 32 wc w.heap.size (fun k_ => k_ ≠ gb253 ∧ k_ ≠ gb256 ∧ k_ ≠ gb315 ∧ k_ ≠ gb328 ∧ k_ ≠ gb337) (.slice Ao188 t333.length co188) t333) ∧ Aside0 (wc.heap[gb253]? = some (.cells #[(.slice A0_0 l0_0.length c0_0), .bool a0_1] 24 (0, 0))) ∧ Aside0 (wc.heap[gb256]? = some (.cells #[(.slice none 0 0), .bool false] 24 (0, 0))) ∧ Aside0 (wc.heap[gb315]? = some (.cells #[(.slice Ao167 t310.length co167), .bool t313] 28 (0, 0))) ∧ Aside0 (wc.heap[gb328]? = some (.cells #[(.slice Ao177 t320.length co177), .bool t323] 28 (0, 0))) ∧ Aside0 (wc.heap[gb337]? = some (.cells #[(.slice Ao188 t333.length co188), .bool t336] 28 (0, 0))) ∧ Aside0 (Below w.heap.size w wc))
          case first =>
            have H := HC150.out
            clear HC150
            by_cases c195 : t314 = true
            · subst c195
              rw [if_pos rfl] at H
              by_cases c196 : t327 = true
              · subst c196
                rw [if_pos rfl] at H
                have H' := Aside0.mk H
                clear H
                go_wp2
                go_meet
                case rel => exact ⟨_, (false), (by first | rfl | (simp; done) | (simp [*]; done)), H', ⟨by have := HJ3.out; first | omega | exact Nat.le_refl _⟩, ⟨vM HO312⟩, ⟨vM HO322⟩, ⟨vM HO335⟩, ⟨kk BK253⟩, ⟨kk BK256⟩, ⟨kk BK315⟩, ⟨kk BK328⟩, ⟨kk BK337⟩, ⟨bb HB⟩⟩
              · replace c196 := Bool.eq_false_iff.mpr c196
                subst c196
                rw [if_neg nf] at H
                obtain ⟨t338, A197, H⟩ := ob H
                have H' := Aside0.mk H
                clear H
                have hnb198 := NB328_253.out
                have hnc198 := NB253_328.out
                have hnb199 := NB328_256.out
                have hnc199 := NB256_328.out
                have hnb200 := NB328_315.out
                have hnc200 := NB315_328.out
                have hnb201 := NB328_337.out
                have hnc201 := NB337_328.out
                obtain ⟨hcz202_0, hcz202_1, hfz202_0, hfz202_1⟩ := bc2 BK328
                have hnb203 := NB256_253.out
                have hnc203 := NB253_256.out
                have hnb204 := NB256_315.out
                have hnc204 := NB315_256.out
                have hnb205 := NB256_337.out
                have hnc205 := NB337_256.out
                obtain ⟨hcz206_0, hcz206_1, hfz206_0, hfz206_1⟩ := bc2 BK256
                go_wp2_with (first | (go_at_call 19; (with_reducible refine (same_nil kj3 _ _ t320 t323 t338 _ ?side1 ?side2 A197.out).mono ?_); (case side1 => exact (Kd.V_reads' (vv HO322)).2.2); (case side2 => exact (Kd.V_reads' HO322.out).2.1); rintro e w207 ⟨rfl, hb⟩; replace HO259 := vB HO259 hb; replace HO308 := vB HO308 hb; replace HO312 := vB HO312 hb; replace HO318 := vB HO318 hb; replace HO322 := vB HO322 hb; replace HO326 := vB HO326 hb; replace HO331 := vB HO331 hb; replace HO335 := vB HO335 hb; replace BK253 := kB BK253 hb; replace BK256 := kB BK256 hb; replace BK315 := kB BK315 hb; replace BK328 := kB BK328 hb; replace BK337 := kB BK337 hb; replace HB := hB HB hb; (try clear hb); (try clear hb2); (try clear hk); (try clear hi)))
                go_meet
                case rel => exact ⟨_, (!t338), (by first | rfl | (simp; done) | (simp [*]; done)), H', ⟨by have := HJ3.out; first | omega | exact Nat.le_refl _⟩, ⟨vM HO312⟩, ⟨vM HO322⟩, ⟨vM HO335⟩, ⟨kk BK253⟩, ⟨kk BK256⟩, ⟨kk BK315⟩, ⟨kk BK328⟩, ⟨kk BK337⟩, ⟨bb HB⟩⟩
            · replace c195 := Bool.eq_false_iff.mpr c195
              subst c195
              rw [if_neg nf] at H
              obtain ⟨t339, A208, H⟩ := ob H
              by_cases c209 : t339 = true
              · subst c209
                rw [if_pos rfl] at H
                by_cases c210 : t327 = true
                · subst c210
                  rw [if_pos rfl] at H
                  have H' := Aside0.mk H
                  clear H
                  have hnb211 := NB315_253.out
                  have hnc211 := NB253_315.out
                  have hnb212 := NB315_256.out
                  have hnc212 := NB256_315.out
                  have hnb213 := NB315_328.out
                  have hnc213 := NB328_315.out
                  have hnb214 := NB315_337.out
                  have hnc214 := NB337_315.out
                  obtain ⟨hcz215_0, hcz215_1, hfz215_0, hfz215_1⟩ := bc2 BK315
                  have hnb216 := NB256_253.out
                  have hnc216 := NB253_256.out
                  have hnb217 := NB256_328.out
                  have hnc217 := NB328_256.out
                  have hnb218 := NB256_337.out
                  have hnc218 := NB337_256.out
                  obtain ⟨hcz219_0, hcz219_1, hfz219_0, hfz219_1⟩ := bc2 BK256
                  go_wp2_with (first | (go_at_call 19; (with_reducible refine (same_nil kj3 _ _ t310 t313 true _ ?side1 ?side2 A208.out).mono ?_); (case side1 => exact (Kd.V_reads' (vv HO312)).2.2); (case side2 => exact (Kd.V_reads' HO312.out).2.1); rintro e w220 ⟨rfl, hb⟩; replace HO259 := vB HO259 hb; replace HO308 := vB HO308 hb; replace HO312 := vB HO312 hb; replace HO318 := vB HO318 hb; replace HO322 := vB HO322 hb; replace HO326 := vB HO326 hb; replace HO331 := vB HO331 hb; replace HO335 := vB HO335 hb; replace BK253 := kB BK253 hb; replace BK256 := kB BK256 hb; replace BK315 := kB BK315 hb; replace BK328 := kB BK328 hb; replace BK337 := kB BK337 hb; replace HB := hB HB hb; (try clear hb); (try clear hb2); (try clear hk); (try clear hi)))
                  go_meet
                  case rel => exact ⟨_, (false), (by first | rfl | (simp; done) | (simp [*]; done)), H', ⟨by have := HJ3.out; first | omega | exact Nat.le_refl _⟩, ⟨vM HO312⟩, ⟨vM HO322⟩, ⟨vM HO335⟩, ⟨kk BK253⟩, ⟨kk BK256⟩, ⟨kk BK315⟩, ⟨kk BK328⟩, ⟨kk BK337⟩, ⟨bb HB⟩⟩
                · replace c210 := Bool.eq_false_iff.mpr c210
                  subst c210
                  rw [if_neg nf] at H
                  obtain ⟨t340, A221, H⟩ := ob H
                  have H' := Aside0.mk H
                  clear H
                  have hnb222 := NB315_253.out
                  have hnc222 := NB253_315.out
                  have hnb223 := NB315_256.out
                  have hnc223 := NB256_315.out
                  have hnb224 := NB315_328.out
                  have hnc224 := NB328_315.out
                  have hnb225 := NB315_337.out
                  have hnc225 := NB337_315.out
                  obtain ⟨hcz226_0, hcz226_1, hfz226_0, hfz226_1⟩ := bc2 BK315
                  have hnb227 := NB256_253.out
                  have hnc227 := NB253_256.out
                  have hnb228 := NB256_328.out
                  have hnc228 := NB328_256.out
                  have hnb229 := NB256_337.out
                  have hnc229 := NB337_256.out
                  obtain ⟨hcz230_0, hcz230_1, hfz230_0, hfz230_1⟩ := bc2 BK256
                  go_wp2_with (first | (go_at_call 19; (with_reducible refine (same_nil kj3 _ _ t310 t313 true _ ?side1 ?side2 A208.out).mono ?_); (case side1 => exact (Kd.V_reads' (vv HO312)).2.2); (case side2 => exact (Kd.V_reads' HO312.out).2.1); rintro e w231 ⟨rfl, hb⟩; replace HO259 := vB HO259 hb; replace HO308 := vB HO308 hb; replace HO312 := vB HO312 hb; replace HO318 := vB HO318 hb; replace HO322 := vB HO322 hb; replace HO326 := vB HO326 hb; replace HO331 := vB HO331 hb; replace HO335 := vB HO335 hb; replace BK253 := kB BK253 hb; replace BK256 := kB BK256 hb; replace BK315 := kB BK315 hb; replace BK328 := kB BK328 hb; replace BK337 := kB BK337 hb; replace HB := hB HB hb; (try clear hb); (try clear hb2); (try clear hk); (try clear hi); have hnb232 := NB328_253.out; have hnc232 := NB253_328.out; have hnb233 := NB328_337.out; have hnc233 := NB337_328.out; obtain ⟨hcz234_0, hcz234_1, hfz234_0, hfz234_1⟩ := bc2 BK328; obtain ⟨hcz235_0, hcz235_1, hfz235_0, hfz235_1⟩ := bc2 BK256) | (go_at_call 19; (with_reducible refine (same_nil kj3 _ _ t320 t323 t340 _ ?side1 ?side2 A221.out).mono ?_); (case side1 => exact (Kd.V_reads' (vv HO322)).2.2); (case side2 => exact (Kd.V_reads' HO322.out).2.1); rintro e w236 ⟨rfl, hb⟩; replace HO259 := vB HO259 hb; replace HO308 := vB HO308 hb; replace HO312 := vB HO312 hb; replace HO318 := vB HO318 hb; replace HO322 := vB HO322 hb; replace HO326 := vB HO326 hb; replace HO331 := vB HO331 hb; replace HO335 := vB HO335 hb; replace BK253 := kB BK253 hb; replace BK256 := kB BK256 hb; replace BK315 := kB BK315 hb; replace BK328 := kB BK328 hb; replace BK337 := kB BK337 hb; replace HB := hB HB hb; (try clear hb); (try clear hb2); (try clear hk); (try clear hi)))
                  go_meet
                  case rel => exact ⟨_, (!t340), (by first | rfl | (simp; done) | (simp [*]; done)), H', ⟨by have := HJ3.out; first | omega | exact Nat.le_refl _⟩, ⟨vM HO312⟩, ⟨vM HO322⟩, ⟨vM HO335⟩, ⟨kk BK253⟩, ⟨kk BK256⟩, ⟨kk BK315⟩, ⟨kk BK328⟩, ⟨kk BK337⟩, ⟨bb HB⟩⟩
              · replace c209 := Bool.eq_false_iff.mpr c209
                subst c209
                rw [if_neg nf] at H
                have H' := Aside0.mk H
                clear H
                have hnb237 := NB315_253.out
                have hnc237 := NB253_315.out
                have hnb238 := NB315_256.out
                have hnc238 := NB256_315.out
                have hnb239 := NB315_328.out
                have hnc239 := NB328_315.out
                have hnb240 := NB315_337.out
                have hnc240 := NB337_315.out
                obtain ⟨hcz241_0, hcz241_1, hfz241_0, hfz241_1⟩ := bc2 BK315
                have hnb242 := NB256_253.out
                have hnc242 := NB253_256.out
                have hnb243 := NB256_328.out
                have hnc243 := NB328_256.out
                have hnb244 := NB256_337.out
                have hnc244 := NB337_256.out
                obtain ⟨hcz245_0, hcz245_1, hfz245_0, hfz245_1⟩ := bc2 BK256
                go_wp2_with (first | (go_at_call 19; (with_reducible refine (same_nil kj3 _ _ t310 t313 false _ ?side1 ?side2 A208.out).mono ?_); (case side1 => exact (Kd.V_reads' (vv HO312)).2.2); (case side2 => exact (Kd.V_reads' HO312.out).2.1); rintro e w246 ⟨rfl, hb⟩; replace HO259 := vB HO259 hb; replace HO308 := vB HO308 hb; replace HO312 := vB HO312 hb; replace HO318 := vB HO318 hb; replace HO322 := vB HO322 hb; replace HO326 := vB HO326 hb; replace HO331 := vB HO331 hb; replace HO335 := vB HO335 hb; replace BK253 := kB BK253 hb; replace BK256 := kB BK256 hb; replace BK315 := kB BK315 hb; replace BK328 := kB BK328 hb; replace BK337 := kB BK337 hb; replace HB := hB HB hb; (try clear hb); (try clear hb2); (try clear hk); (try clear hi)))
                go_meet
                case rel => exact ⟨_, (true), (by first | rfl | (simp; done) | (simp [*]; done)), H', ⟨by have := HJ3.out; first | omega | exact Nat.le_refl _⟩, ⟨vM HO312⟩, ⟨vM HO322⟩, ⟨vM HO335⟩, ⟨kk BK253⟩, ⟨kk BK256⟩, ⟨kk BK315⟩, ⟨kk BK328⟩, ⟨kk BK337⟩, ⟨bb HB⟩⟩
          case rest =>
            clear HC150
            try clear c1
            try clear c2
            try clear p2
            try clear c11
            try clear c12
            try clear c13
            try clear c14
            try clear c15
            try clear c16
            try clear c17
            try clear c18
            try clear c19
            try clear c20
            try clear c21
            try clear c22
            try clear c23
            try clear c24
            try clear c119
            try clear c121
            try clear c123
            try clear c125
            try clear c126
            try clear c153
            try clear c168
            try clear c169
            try clear c178
            try clear c179
            try clear c180
            try clear c189
            try clear c190
            try clear c191
            try clear c192
            try clear c195
            try clear c196
            try clear c198
            try clear c199
            try clear c200
            try clear c201
            try clear c203
            try clear c204
            try clear c205
            try clear c209
            try clear c210
            try clear c211
            try clear c212
            try clear c213
            try clear c214
            try clear c216
            try clear c217
            try clear c218
            try clear c222
            try clear c223
            try clear c224
            try clear c225
            try clear c227
            try clear c228
            try clear c229
            try clear c232
            try clear c233
            try clear c237
            try clear c238
            try clear c239
            try clear c240
            try clear c242
            try clear c243
            try clear c244
            try clear hcz151_0
            try clear hcz151_1
            try clear hcz154_0
            try clear hcz154_1
            try clear hcz156_0
            try clear hcz156_1
            try clear hcz160_0
            try clear hcz160_1
            try clear hcz162_0
            try clear hcz162_1
            try clear hcz170_0
            try clear hcz170_1
            try clear hcz172_0
            try clear hcz172_1
            try clear hcz181_0
            try clear hcz181_1
            try clear hcz183_0
            try clear hcz183_1
            try clear hcz193_0
            try clear hcz193_1
            try clear hcz202_0
            try clear hcz202_1
            try clear hcz206_0
            try clear hcz206_1
            try clear hcz215_0
            try clear hcz215_1
            try clear hcz219_0
            try clear hcz219_1
            try clear hcz226_0
            try clear hcz226_1
            try clear hcz230_0
            try clear hcz230_1
            try clear hcz234_0
            try clear hcz234_1
            try clear hcz235_0
            try clear hcz235_1
            try clear hcz241_0
            try clear hcz241_1
            try clear hcz245_0
            try clear hcz245_1
            try clear hfz151_0
            try clear hfz151_1
            try clear hfz154_0
            try clear hfz154_1
            try clear hfz156_0
            try clear hfz156_1
            try clear hfz160_0
            try clear hfz160_1
            try clear hfz162_0
            try clear hfz162_1
            try clear hfz170_0
            try clear hfz170_1
            try clear hfz172_0
            try clear hfz172_1
            try clear hfz181_0
            try clear hfz181_1
            try clear hfz183_0
            try clear hfz183_1
            try clear hfz193_0
            try clear hfz193_1
            try clear hfz202_0
            try clear hfz202_1
            try clear hfz206_0
            try clear hfz206_1
            try clear hfz215_0
            try clear hfz215_1
            try clear hfz219_0
            try clear hfz219_1
            try clear hfz226_0
            try clear hfz226_1
            try clear hfz230_0
            try clear hfz230_1
            try clear hfz234_0
            try clear hfz234_1
            try clear hfz235_0
            try clear hfz235_1
            try clear hfz241_0
            try clear hfz241_1
            try clear hfz245_0
            try clear hfz245_1
            obtain ⟨kq, x63_149, rfl, HA, HJ149, HO_316000, HO_329000, HO_338000, BK253, BK256, BK315, BK328, BK337, HB⟩ := hcut
            cases kq with
            | zero => exact absurd HA.out (by simp [pentroughlaw16_ChansKeeps.j2])
            | succ kj149 =>
              have H := HA.out
              clear HA
              simp only [pentroughlaw16_ChansKeeps.j2] at H
              by_cases c247 : x63_149 = true
              · subst c247
                rw [if_pos rfl] at H
                cases H; exact absurd HRT.out (by decide)
              · replace c247 := Bool.eq_false_iff.mpr c247
                subst c247
                rw [if_neg nf] at H
                by_cases c248 : t254 = true
                · subst c248
                  rw [if_pos rfl] at H
                  obtain ⟨t341, A249, H⟩ := ob H
                  by_cases c250 : t341 = true
                  · subst c250
                    rw [if_pos rfl] at H
                    obtain ⟨t342, A251, H⟩ := ob H
                    by_cases c252 : t342 = true
                    · subst c252
                      rw [if_pos rfl] at H
                      obtain ⟨t343, A253, H⟩ := ob H
                      by_cases c254 : t343 = true
                      · subst c254
                        rw [if_pos rfl] at H
                        by_cases c255 : t336 = true
                        · subst c255
                          rw [if_pos rfl] at H
                          by_cases c256 : t314 = true
                          · subst c256
                            rw [if_pos rfl] at H
                            obtain ⟨t344, A257, H⟩ := ob H
                            obtain ⟨⟨t345, t348⟩, A258, H⟩ := ob H
                            (try dsimp only at H)
                            obtain ⟨t349, A259, H⟩ := ob H
                            by_cases c260 : t344 = (wrap64 (t349 + (l1.length : Int)))
                            · rw [if_pos c260] at H
                              have c260b0 : (t344 == (wrap64 (t349 + (l1.length : Int)))) = true := beq_iff_eq.mpr c260
                              have c260b1 : (t344 != (wrap64 (t349 + (l1.length : Int)))) = false := bne_eq_false_iff_eq.mpr c260
                              clear c260
                              obtain rfl := Option.some.inj H
                              try go_wp2
                              replace HO_316000 := Aside0.mk (Kd.V_drew HO_316000.out)
                              replace HO_329000 := Aside0.mk (Kd.V_drew HO_329000.out)
                              replace HO_338000 := Aside0.mk (Kd.V_drew HO_338000.out)
                              replace BK253 := Aside0.mk (blk_drew BK253.out)
                              replace BK256 := Aside0.mk (blk_drew BK256.out)
                              replace BK315 := Aside0.mk (blk_drew BK315.out)
                              replace BK328 := Aside0.mk (blk_drew BK328.out)
                              replace BK337 := Aside0.mk (blk_drew BK337.out)
                              replace HB := Aside0.mk (below_drew1 HB.out)
                              refine start_ (n := 41) (S := fun w' => w'.cell? ⟨gb315, 0, none⟩ = some (.slice Ao167 t310.length co167) ∧ w'.cell? ⟨gb315, 1, none⟩ = some (.bool t313) ∧ w'.cell? ⟨gb328, 0, none⟩ = some (.slice Ao177 t320.length co177) ∧ w'.cell? ⟨gb328, 1, none⟩ = some (.bool t323) ∧ w'.cell? ⟨gb337, 0, none⟩ = some (.slice Ao188 t333.length co188) ∧ w'.cell? ⟨gb337, 1, none⟩ = some (.bool true) ∧ w'.cell? ⟨gb256, 0, none⟩ = some (.slice none 0 0) ∧ w'.cell? ⟨gb256, 1, none⟩ = some (.bool false)) (ds := []) #[false, false, false, false, false, false, false, false, false, false, false, false, false, false, false, false, false, false, false, false, false, false, false, false, false, false, false, false, false, false, false, false, false, false, false, false, false, false, false, false, false] (by kernel_rfl) rfl rfl ⟨cx BK315 0, cx BK315 1, cx BK328 0, cx BK328 1, cx BK337 0, cx BK337 1, cx BK256 0, cx BK256 1⟩ (fun hHeld => ?_); refine with_tabW pentroughlaw16_ChansKeeps.tab12 pentroughlaw16_ChansKeeps.bits12 (fun HT_ HW_ => ?_)
                              generalize wc.drew = w261 at HO_316000 HO_329000 HO_338000 BK253 BK256 BK315 BK328 BK337 HB hHeld ⊢
                              refine pure_ (i := 0) (N := some 64) (v := ?_) (a' := ?_) #[true, false, false, false, false, false, false, false, false, false, false, false, false, false, false, false, false, false, false, false, false, false, false, false, false, false, false, false, false, false, false, false, false, false, false, false, false, false, false, false, false] rfl rfl (any_of HT_.out (by kernel_rfl)) (fun _ _ _ h => h) (Or.inl ⟨by rfl, ?_⟩) ?_ ?_
                              rotate_left
                              · intro w'
                                go_simp
                                with_reducible rfl
                              rotate_left
                              · simp only [Act.put, List.setIfInBounds_toArray, List.set_cons_zero, List.set_cons_succ, i64_w, i32_w]
                                rfl
                              refine pure_ (i := 1) (N := some 65) (v := ?_) (a' := ?_) #[true, true, false, false, false, false, false, false, false, false, false, false, false, false, false, false, false, false, false, false, false, false, false, false, false, false, false, false, false, false, false, false, false, false, false, false, false, false, false, false, false] rfl rfl (any_of HT_.out (by kernel_rfl)) (fun _ _ _ h => h) (Or.inl ⟨by rfl, ?_⟩) ?_ ?_
                              rotate_left
                              · intro w'
                                go_simp
                                with_reducible rfl
                              rotate_left
                              · simp only [Act.put, List.setIfInBounds_toArray, List.set_cons_zero, List.set_cons_succ, i64_w, i32_w]
                                rfl
                              refine take_ (i := 2) (N := some 66) (v := ?_) (a' := ?_) #[true, true, true, false, false, false, false, false, false, false, false, false, false, false, false, false, false, false, false, false, false, false, false, false, false, false, false, false, false, false, false, false, false, false, false, false, false, false, false, false, false] rfl rfl (take_ofW HT_.out HW_.out (by kernel_rfl)) (fun _ _ _ h => h) (Or.inl ⟨by rfl, ?_⟩) hHeld ?_ ?_
                              rotate_left
                              · rintro w' ⟨s0, s1, s2, s3, s4, s5, s6, s7⟩
                                go_simp
                                with_reducible rfl
                              rotate_left
                              · simp only [Act.put, List.setIfInBounds_toArray, List.set_cons_zero, List.set_cons_succ, i64_w, i32_w]
                                rfl
                              refine one_ (i := 3) (N := some 67) #[true, true, true, true, false, false, false, false, false, false, false, false, false, false, false, false, false, false, false, false, false, false, false, false, false, false, false, false, false, false, false, false, false, false, false, false, false, false, false, false, false] rfl rfl (one_of HT_.out (by kernel_rfl)) (by decide) (fun K hK => ?_)
                              refine gs Try.func11 (by kernel_rfl) rfl #[.agg #[.slice Ao167 t310.length co167, .bool t313]] (by rfl) rfl rfl ?_
                              with_reducible refine (chans_Sane.calls kj149 _ _ t310 t313 true _ ?side1 ?side2 A249.out).mono ?_
                              (case side1 => exact (Kd.V_reads' (vv HO_316000)).2.2)
                              (case side2 => exact (Kd.V_reads' HO_316000.out).2.1)
                              rintro e w262 ⟨rfl, hb⟩
                              refine ⟨_, rfl, ?_⟩
                              replace HO_316000 := vB HO_316000 hb
                              replace HO_329000 := vB HO_329000 hb
                              replace HO_338000 := vB HO_338000 hb
                              replace BK253 := kB BK253 hb
                              replace BK256 := kB BK256 hb
                              replace BK315 := kB BK315 hb
                              replace BK328 := kB BK328 hb
                              replace BK337 := kB BK337 hb
                              replace HB := hB HB hb
                              (try clear hb)
                              (try clear hb2)
                              (try clear hk)
                              (try clear hi)
                              refine hK.out _ _ ⟨cx BK315 0, cx BK315 1, cx BK328 0, cx BK328 1, cx BK337 0, cx BK337 1, cx BK256 0, cx BK256 1⟩ (fun hHeld => ?_)
                              clear hK K
                              refine norm_ (a' := ?_) ?_ ?_
                              rotate_left
                              · show Act.put _ (some 67) _ = _
                                simp only [Act.put, List.setIfInBounds_toArray, List.set_cons_zero, List.set_cons_succ, i64_w, i32_w]
                                rfl
                              refine pure_ (i := 4) (N := some 68) (v := ?_) (a' := ?_) #[true, true, true, true, true, false, false, false, false, false, false, false, false, false, false, false, false, false, false, false, false, false, false, false, false, false, false, false, false, false, false, false, false, false, false, false, false, false, false, false, false] rfl rfl (any_of HT_.out (by kernel_rfl)) (fun _ _ _ h => h) (Or.inl ⟨by rfl, ?_⟩) ?_ ?_
                              rotate_left
                              · intro w'
                                go_simp
                                with_reducible rfl
                              rotate_left
                              · simp only [Act.put, List.setIfInBounds_toArray, List.set_cons_zero, List.set_cons_succ, i64_w, i32_w]
                                rfl
                              refine pure_ (i := 5) (N := some 69) (v := ?_) (a' := ?_) #[true, true, true, true, true, true, false, false, false, false, false, false, false, false, false, false, false, false, false, false, false, false, false, false, false, false, false, false, false, false, false, false, false, false, false, false, false, false, false, false, false] rfl rfl (any_of HT_.out (by kernel_rfl)) (fun _ _ _ h => h) (Or.inl ⟨by rfl, ?_⟩) ?_ ?_
                              rotate_left
                              · intro w'
                                go_simp
                                with_reducible rfl
                              rotate_left
                              · simp only [Act.put, List.setIfInBounds_toArray, List.set_cons_zero, List.set_cons_succ, i64_w, i32_w]
                                rfl
                              refine take_ (i := 6) (N := some 70) (v := ?_) (a' := ?_) #[true, true, true, true, true, true, true, false, false, false, false, false, false, false, false, false, false, false, false, false, false, false, false, false, false, false, false, false, false, false, false, false, false, false, false, false, false, false, false, false, false] rfl rfl (take_ofW HT_.out HW_.out (by kernel_rfl)) (fun _ _ _ h => h) (Or.inl ⟨by rfl, ?_⟩) hHeld ?_ ?_
                              rotate_left
                              · rintro w' ⟨s0, s1, s2, s3, s4, s5, s6, s7⟩
                                go_simp
                                with_reducible rfl
                              rotate_left
                              · simp only [Act.put, List.setIfInBounds_toArray, List.set_cons_zero, List.set_cons_succ, i64_w, i32_w]
                                rfl
                              refine one_ (i := 7) (N := some 71) #[true, true, true, true, true, true, true, true, false, false, false, false, false, false, false, false, false, false, false, false, false, false, false, false, false, false, false, false, false, false, false, false, false, false, false, false, false, false, false, false, false] rfl rfl (one_of HT_.out (by kernel_rfl)) (by decide) (fun K hK => ?_)
                              refine gs Try.func11 (by kernel_rfl) rfl #[.agg #[.slice Ao177 t320.length co177, .bool t323]] (by rfl) rfl rfl ?_
                              with_reducible refine (chans_Sane.calls kj149 _ _ t320 t323 true _ ?side1 ?side2 A251.out).mono ?_
                              (case side1 => exact (Kd.V_reads' (vv HO_329000)).2.2)
                              (case side2 => exact (Kd.V_reads' HO_329000.out).2.1)
                              rintro e w263 ⟨rfl, hb⟩
                              refine ⟨_, rfl, ?_⟩
                              replace HO_316000 := vB HO_316000 hb
                              replace HO_329000 := vB HO_329000 hb
                              replace HO_338000 := vB HO_338000 hb
                              replace BK253 := kB BK253 hb
                              replace BK256 := kB BK256 hb
                              replace BK315 := kB BK315 hb
                              replace BK328 := kB BK328 hb
                              replace BK337 := kB BK337 hb
                              replace HB := hB HB hb
                              (try clear hb)
                              (try clear hb2)
                              (try clear hk)
                              (try clear hi)
                              refine hK.out _ _ ⟨cx BK315 0, cx BK315 1, cx BK328 0, cx BK328 1, cx BK337 0, cx BK337 1, cx BK256 0, cx BK256 1⟩ (fun hHeld => ?_)
                              clear hK K
                              refine norm_ (a' := ?_) ?_ ?_
                              rotate_left
                              · show Act.put _ (some 71) _ = _
                                simp only [Act.put, List.setIfInBounds_toArray, List.set_cons_zero, List.set_cons_succ, i64_w, i32_w]
                                rfl
                              refine pure_ (i := 8) (N := some 72) (v := ?_) (a' := ?_) #[true, true, true, true, true, true, true, true, true, false, false, false, false, false, false, false, false, false, false, false, false, false, false, false, false, false, false, false, false, false, false, false, false, false, false, false, false, false, false, false, false] rfl rfl (any_of HT_.out (by kernel_rfl)) (fun _ _ _ h => h) (Or.inl ⟨by rfl, ?_⟩) ?_ ?_
                              rotate_left
                              · intro w'
                                go_simp
                                with_reducible rfl
                              rotate_left
                              · simp only [Act.put, List.setIfInBounds_toArray, List.set_cons_zero, List.set_cons_succ, i64_w, i32_w]
                                rfl
                              refine pure_ (i := 9) (N := some 73) (v := ?_) (a' := ?_) #[true, true, true, true, true, true, true, true, true, true, false, false, false, false, false, false, false, false, false, false, false, false, false, false, false, false, false, false, false, false, false, false, false, false, false, false, false, false, false, false, false] rfl rfl (any_of HT_.out (by kernel_rfl)) (fun _ _ _ h => h) (Or.inl ⟨by rfl, ?_⟩) ?_ ?_
                              rotate_left
                              · intro w'
                                go_simp
                                with_reducible rfl
                              rotate_left
                              · simp only [Act.put, List.setIfInBounds_toArray, List.set_cons_zero, List.set_cons_succ, i64_w, i32_w]
                                rfl
                              refine take_ (i := 10) (N := some 74) (v := ?_) (a' := ?_) #[true, true, true, true, true, true, true, true, true, true, true, false, false, false, false, false, false, false, false, false, false, false, false, false, false, false, false, false, false, false, false, false, false, false, false, false, false, false, false, false, false] rfl rfl (take_ofW HT_.out HW_.out (by kernel_rfl)) (fun _ _ _ h => h) (Or.inl ⟨by rfl, ?_⟩) hHeld ?_ ?_
                              rotate_left
                              · rintro w' ⟨s0, s1, s2, s3, s4, s5, s6, s7⟩
                                go_simp
                                with_reducible rfl
                              rotate_left
                              · simp only [Act.put, List.setIfInBounds_toArray, List.set_cons_zero, List.set_cons_succ, i64_w, i32_w]
                                rfl
                              refine one_ (i := 11) (N := some 75) #[true, true, true, true, true, true, true, true, true, true, true, true, false, false, false, false, false, false, false, false, false, false, false, false, false, false, false, false, false, false, false, false, false, false, false, false, false, false, false, false, false] rfl rfl (one_of HT_.out (by kernel_rfl)) (by decide) (fun K hK => ?_)
                              refine gs Try.func11 (by kernel_rfl) rfl #[.agg #[.slice Ao188 t333.length co188, .bool true]] (by rfl) rfl rfl ?_
                              with_reducible refine (chans_Sane.calls kj149 _ _ t333 true true _ ?side1 ?side2 A253.out).mono ?_
                              (case side1 => exact (Kd.V_reads' (vv HO_338000)).2.2)
                              (case side2 => exact (Kd.V_reads' HO_338000.out).2.1)
                              rintro e w264 ⟨rfl, hb⟩
                              refine ⟨_, rfl, ?_⟩
                              replace HO_316000 := vB HO_316000 hb
                              replace HO_329000 := vB HO_329000 hb
                              replace HO_338000 := vB HO_338000 hb
                              replace BK253 := kB BK253 hb
                              replace BK256 := kB BK256 hb
                              replace BK315 := kB BK315 hb
                              replace BK328 := kB BK328 hb
                              replace BK337 := kB BK337 hb
                              replace HB := hB HB hb
                              (try clear hb)
                              (try clear hb2)
                              (try clear hk)
                              (try clear hi)
                              refine hK.out _ _ ⟨cx BK315 0, cx BK315 1, cx BK328 0, cx BK328 1, cx BK337 0, cx BK337 1, cx BK256 0, cx BK256 1⟩ (fun hHeld => ?_)
                              clear hK K
                              refine norm_ (a' := ?_) ?_ ?_
                              rotate_left
                              · show Act.put _ (some 75) _ = _
                                simp only [Act.put, List.setIfInBounds_toArray, List.set_cons_zero, List.set_cons_succ, i64_w, i32_w]
                                rfl
                              refine pure_ (i := 12) (N := some 76) (v := ?_) (a' := ?_) #[true, true, true, true, true, true, true, true, true, true, true, true, true, false, false, false, false, false, false, false, false, false, false, false, false, false, false, false, false, false, false, false, false, false, false, false, false, false, false, false, false] rfl rfl (any_of HT_.out (by kernel_rfl)) (fun _ _ _ h => h) (Or.inl ⟨by rfl, ?_⟩) ?_ ?_
                              rotate_left
                              · intro w'
                                go_simp
                                with_reducible rfl
                              rotate_left
                              · simp only [Act.put, List.setIfInBounds_toArray, List.set_cons_zero, List.set_cons_succ, i64_w, i32_w]
                                rfl
                              refine pure_ (i := 13) (N := some 77) (v := ?_) (a' := ?_) #[true, true, true, true, true, true, true, true, true, true, true, true, true, true, false, false, false, false, false, false, false, false, false, false, false, false, false, false, false, false, false, false, false, false, false, false, false, false, false, false, false] rfl rfl (any_of HT_.out (by kernel_rfl)) (fun _ _ _ h => h) (Or.inl ⟨by rfl, ?_⟩) ?_ ?_
                              rotate_left
                              · intro w'
                                go_simp
                                with_reducible rfl
                              rotate_left
                              · simp only [Act.put, List.setIfInBounds_toArray, List.set_cons_zero, List.set_cons_succ, i64_w, i32_w]
                                rfl
                              refine pure_ (i := 14) (N := some 78) (v := ?_) (a' := ?_) #[true, true, true, true, true, true, true, true, true, true, true, true, true, true, true, false, false, false, false, false, false, false, false, false, false, false, false, false, false, false, false, false, false, false, false, false, false, false, false, false, false] rfl rfl (any_of HT_.out (by kernel_rfl)) (fun _ _ _ h => h) (Or.inl ⟨by rfl, ?_⟩) ?_ ?_
                              rotate_left
                              · intro w'
                                go_simp
                                with_reducible rfl
                              rotate_left
                              · simp only [Act.put, List.setIfInBounds_toArray, List.set_cons_zero, List.set_cons_succ, i64_w, i32_w]
                                rfl
                              refine take_ (i := 15) (N := some 79) (v := ?_) (a' := ?_) #[true, true, true, true, true, true, true, true, true, true, true, true, true, true, true, true, false, false, false, false, false, false, false, false, false, false, false, false, false, false, false, false, false, false, false, false, false, false, false, false, false] rfl rfl (take_ofW HT_.out HW_.out (by kernel_rfl)) (fun _ _ _ h => h) (Or.inl ⟨by rfl, ?_⟩) hHeld ?_ ?_
                              rotate_left
                              · rintro w' ⟨s0, s1, s2, s3, s4, s5, s6, s7⟩
                                go_simp
                                with_reducible rfl
                              rotate_left
                              · simp only [Act.put, List.setIfInBounds_toArray, List.set_cons_zero, List.set_cons_succ, i64_w, i32_w]
                                rfl
                              refine pure_ (i := 16) (N := some 80) (v := ?_) (a' := ?_) #[true, true, true, true, true, true, true, true, true, true, true, true, true, true, true, true, true, false, false, false, false, false, false, false, false, false, false, false, false, false, false, false, false, false, false, false, false, false, false, false, false] rfl rfl (any_of HT_.out (by kernel_rfl)) (fun _ _ _ h => h) (Or.inl ⟨by rfl, ?_⟩) ?_ ?_
                              rotate_left
                              · intro w'
                                go_simp
                                with_reducible rfl
                              rotate_left
                              · simp only [Act.put, List.setIfInBounds_toArray, List.set_cons_zero, List.set_cons_succ, i64_w, i32_w]
                                rfl
                              refine pure_ (i := 17) (N := some 81) (v := ?_) (a' := ?_) #[true, true, true, true, true, true, true, true, true, true, true, true, true, true, true, true, true, true, false, false, false, false, false, false, false, false, false, false, false, false, false, false, false, false, false, false, false, false, false, false, false] rfl rfl (any_of HT_.out (by kernel_rfl)) (fun _ _ _ h => h) (Or.inl ⟨by rfl, ?_⟩) ?_ ?_
                              rotate_left
                              · intro w'
                                go_simp
                                with_reducible rfl
                              rotate_left
                              · simp only [Act.put, List.setIfInBounds_toArray, List.set_cons_zero, List.set_cons_succ, i64_w, i32_w]
                                rfl
                              refine pure_ (i := 18) (N := some 82) (v := ?_) (a' := ?_) #[true, true, true, true, true, true, true, true, true, true, true, true, true, true, true, true, true, true, true, false, false, false, false, false, false, false, false, false, false, false, false, false, false, false, false, false, false, false, false, false, false] rfl rfl (any_of HT_.out (by kernel_rfl)) (fun _ _ _ h => h) (Or.inl ⟨by rfl, ?_⟩) ?_ ?_
                              rotate_left
                              · intro w'
                                go_simp
                                with_reducible rfl
                              rotate_left
                              · simp only [Act.put, List.setIfInBounds_toArray, List.set_cons_zero, List.set_cons_succ, i64_w, i32_w]
                                rfl
                              refine pure_ (i := 19) (N := some 83) (v := ?_) (a' := ?_) #[true, true, true, true, true, true, true, true, true, true, true, true, true, true, true, true, true, true, true, true, false, false, false, false, false, false, false, false, false, false, false, false, false, false, false, false, false, false, false, false, false] rfl rfl (any_of HT_.out (by kernel_rfl)) (fun _ _ _ h => h) (Or.inl ⟨by rfl, ?_⟩) ?_ ?_
                              rotate_left
                              · intro w'
                                go_simp
                                with_reducible rfl
                              rotate_left
                              · simp only [Act.put, List.setIfInBounds_toArray, List.set_cons_zero, List.set_cons_succ, i64_w, i32_w]
                                rfl
                              refine pure_ (i := 20) (N := some 84) (v := ?_) (a' := ?_) #[true, true, true, true, true, true, true, true, true, true, true, true, true, true, true, true, true, true, true, true, true, false, false, false, false, false, false, false, false, false, false, false, false, false, false, false, false, false, false, false, false] rfl rfl (any_of HT_.out (by kernel_rfl)) (fun _ _ _ h => h) (Or.inl ⟨by rfl, ?_⟩) ?_ ?_
                              rotate_left
                              · intro w'
                                go_simp
                                with_reducible rfl
                              rotate_left
                              · simp only [Act.put, List.setIfInBounds_toArray, List.set_cons_zero, List.set_cons_succ, i64_w, i32_w]
                                rfl
                              refine pure_ (i := 26) (N := some 90) (v := ?_) (a' := ?_) #[true, true, true, true, true, true, true, true, true, true, true, true, true, true, true, true, true, true, true, true, true, false, false, false, false, false, true, false, false, false, false, false, false, false, false, false, false, false, false, false, false] rfl rfl (any_of HT_.out (by kernel_rfl)) (fun _ _ _ h => h) (Or.inl ⟨by rfl, ?_⟩) ?_ ?_
                              rotate_left
                              · intro w'
                                go_simp
                                with_reducible rfl
                              rotate_left
                              · simp only [Act.put, List.setIfInBounds_toArray, List.set_cons_zero, List.set_cons_succ, i64_w, i32_w]
                                rfl
                              refine pure_ (i := 27) (N := some 91) (v := ?_) (a' := ?_) #[true, true, true, true, true, true, true, true, true, true, true, true, true, true, true, true, true, true, true, true, true, false, false, false, false, false, true, true, false, false, false, false, false, false, false, false, false, false, false, false, false] rfl rfl (any_of HT_.out (by kernel_rfl)) (fun _ _ _ h => h) (Or.inl ⟨by rfl, ?_⟩) ?_ ?_
                              rotate_left
                              · intro w'
                                go_simp
                                with_reducible rfl
                              rotate_left
                              · simp only [Act.put, List.setIfInBounds_toArray, List.set_cons_zero, List.set_cons_succ, i64_w, i32_w]
                                rfl
                              refine take_ (i := 21) (N := some 85) (v := ?_) (a' := ?_) #[true, true, true, true, true, true, true, true, true, true, true, true, true, true, true, true, true, true, true, true, true, true, false, false, false, false, true, true, false, false, false, false, false, false, false, false, false, false, false, false, false] rfl rfl (take_ofW HT_.out HW_.out (by kernel_rfl)) (fun _ _ _ h => h) (Or.inl ⟨by rfl, ?_⟩) hHeld ?_ ?_
                              rotate_left
                              · rintro w' ⟨s0, s1, s2, s3, s4, s5, s6, s7⟩
                                go_simp
                                with_reducible rfl
                              rotate_left
                              · simp only [Act.put, List.setIfInBounds_toArray, List.set_cons_zero, List.set_cons_succ, i64_w, i32_w]
                                rfl
                              refine take_ (i := 23) (N := some 87) (v := ?_) (a' := ?_) #[true, true, true, true, true, true, true, true, true, true, true, true, true, true, true, true, true, true, true, true, true, true, false, true, false, false, true, true, false, false, false, false, false, false, false, false, false, false, false, false, false] rfl rfl (take_ofW HT_.out HW_.out (by kernel_rfl)) (fun _ _ _ h => h) (Or.inl ⟨by rfl, ?_⟩) hHeld ?_ ?_
                              rotate_left
                              · rintro w' ⟨s0, s1, s2, s3, s4, s5, s6, s7⟩
                                go_simp
                                with_reducible rfl
                              rotate_left
                              · simp only [Act.put, List.setIfInBounds_toArray, List.set_cons_zero, List.set_cons_succ, i64_w, i32_w]
                                rfl
                              refine one_ (i := 22) (N := some 86) #[true, true, true, true, true, true, true, true, true, true, true, true, true, true, true, true, true, true, true, true, true, true, true, true, false, false, true, true, false, false, false, false, false, false, false, false, false, false, false, false, false] rfl rfl (one_of HT_.out (by kernel_rfl)) (by decide) (fun K hK => ?_)
                              refine gs Try.func17 (by kernel_rfl) rfl #[.agg #[.slice Ao167 t310.length co167, .bool t313]] (by rfl) rfl rfl ?_
                              with_reducible refine (chans_Count.calls kj149 _ _ t310 t313 t344 _ ?side1 ?side2 A257.out).mono ?_
                              (case side1 => exact (Kd.V_reads' (vv HO_316000)).2.2)
                              (case side2 => exact (Kd.V_reads' HO_316000.out).2.1)
                              rintro e w265 ⟨rfl, hb⟩
                              refine ⟨_, rfl, ?_⟩
                              replace HO_316000 := vB HO_316000 hb
                              replace HO_329000 := vB HO_329000 hb
                              replace HO_338000 := vB HO_338000 hb
                              replace BK253 := kB BK253 hb
                              replace BK256 := kB BK256 hb
                              replace BK315 := kB BK315 hb
                              replace BK328 := kB BK328 hb
                              replace BK337 := kB BK337 hb
                              replace HB := hB HB hb
                              (try clear hb)
                              (try clear hb2)
                              (try clear hk)
                              (try clear hi)
                              refine hK.out _ _ ⟨cx BK315 0, cx BK315 1, cx BK328 0, cx BK328 1, cx BK337 0, cx BK337 1, cx BK256 0, cx BK256 1⟩ (fun hHeld => ?_)
                              clear hK K
                              refine norm_ (a' := ?_) ?_ ?_
                              rotate_left
                              · show Act.put _ (some 86) _ = _
                                simp only [Act.put, List.setIfInBounds_toArray, List.set_cons_zero, List.set_cons_succ, i64_w, i32_w]
                                rfl
                              refine one_ (i := 24) (N := some 88) #[true, true, true, true, true, true, true, true, true, true, true, true, true, true, true, true, true, true, true, true, true, true, true, true, true, false, true, true, false, false, false, false, false, false, false, false, false, false, false, false, false] rfl rfl (one_of HT_.out (by kernel_rfl)) (by decide) (fun K hK => ?_)
                              refine gs Try.func12 (by kernel_rfl) rfl #[.agg #[.slice none 0 0, .bool false]] (by rfl) rfl rfl ?_
                              refine (pentroughlaw16_ours.calls (fun k_ => False) _ _ ([] : List (List Int)) false t345 t348 _ ?side1 A258.out).mono ?_
                              (case side1 => exact Kd.V_nil _ _ _ _ _)
                              rintro e w266 ⟨v346, rfl, ho0, hb⟩
                              refine ⟨_, rfl, ?_⟩
                              replace HO_316000 := vB HO_316000 hb
                              replace HO_329000 := vB HO_329000 hb
                              replace HO_338000 := vB HO_338000 hb
                              have HO347 := Aside0.mk (Kd.V_lower (Kd.V_mono (ok' := fun k_ => k_ ≠ gb253 ∧ k_ ≠ gb256 ∧ k_ ≠ gb315 ∧ k_ ≠ gb328 ∧ k_ ≠ gb337) ho0 (fun k_ hk_ => ⟨Or.elim hk_ (fun hs_ => (hs_).elim) (fun hn_ => (Kd.freshB (kk BK253) k_ hn_)), Or.elim hk_ (fun hs_ => (hs_).elim) (fun hn_ => (Kd.freshB (kk BK256) k_ hn_)), Or.elim hk_ (fun hs_ => (hs_).elim) (fun hn_ => (Kd.freshB (kk BK315) k_ hn_)), Or.elim hk_ (fun hs_ => (hs_).elim) (fun hn_ => (Kd.freshB (kk BK328) k_ hn_)), Or.elim hk_ (fun hs_ => (hs_).elim) (fun hn_ => (Kd.freshB (kk BK337) k_ hn_))⟩)) (below_size (bb HB)))
                              replace BK253 := kB BK253 hb
                              replace BK256 := kB BK256 hb
                              replace BK315 := kB BK315 hb
                              replace BK328 := kB BK328 hb
                              replace BK337 := kB BK337 hb
                              replace HB := hB HB hb
                              (try clear hb)
                              (try clear hb2)
                              (try clear hk)
                              (try clear hi)
                              (try clear ho0)
                              obtain ⟨Ao267, co267, eo267⟩ := Kd.V_slice HO347.out
                              (first | subst eo267 | (injection eo267 with f1_ f2_ f3_; have f4_ := f1_.symm; have f5_ := f3_.symm; clear f1_ f2_ f3_; subst f4_; subst f5_))
                              refine hK.out _ _ ⟨cx BK315 0, cx BK315 1, cx BK328 0, cx BK328 1, cx BK337 0, cx BK337 1, cx BK256 0, cx BK256 1⟩ (fun hHeld => ?_)
                              clear hK K
                              refine norm_ (a' := ?_) ?_ ?_
                              rotate_left
                              · show Act.put _ (some 88) _ = _
                                simp only [Act.put, List.setIfInBounds_toArray, List.set_cons_zero, List.set_cons_succ, i64_w, i32_w]
                                rfl
                              refine one_ (i := 25) (N := some 89) #[true, true, true, true, true, true, true, true, true, true, true, true, true, true, true, true, true, true, true, true, true, true, true, true, true, true, true, true, false, false, false, false, false, false, false, false, false, false, false, false, false] rfl rfl (one_of HT_.out (by kernel_rfl)) (by decide) (fun K hK => ?_)
                              refine gs Try.func17 (by kernel_rfl) rfl #[.agg #[.slice Ao267 t345.length co267, .bool t348]] (by rfl) rfl rfl ?_
                              with_reducible refine (chans_Count.calls kj149 _ _ t345 t348 t349 _ ?side1 ?side2 A259.out).mono ?_
                              (case side1 => exact (Kd.V_reads' (vv HO347)).2.2)
                              (case side2 => exact (Kd.V_reads' HO347.out).2.1)
                              rintro e w268 ⟨rfl, hb⟩
                              refine ⟨_, rfl, ?_⟩
                              replace HO_316000 := vB HO_316000 hb
                              replace HO_329000 := vB HO_329000 hb
                              replace HO_338000 := vB HO_338000 hb
                              replace HO347 := vB HO347 hb
                              replace BK253 := kB BK253 hb
                              replace BK256 := kB BK256 hb
                              replace BK315 := kB BK315 hb
                              replace BK328 := kB BK328 hb
                              replace BK337 := kB BK337 hb
                              replace HB := hB HB hb
                              (try clear hb)
                              (try clear hb2)
                              (try clear hk)
                              (try clear hi)
                              refine hK.out _ _ ⟨cx BK315 0, cx BK315 1, cx BK328 0, cx BK328 1, cx BK337 0, cx BK337 1, cx BK256 0, cx BK256 1⟩ (fun hHeld => ?_)
                              clear hK K
                              refine norm_ (a' := ?_) ?_ ?_
                              rotate_left
                              · show Act.put _ (some 89) _ = _
                                simp only [Act.put, List.setIfInBounds_toArray, List.set_cons_zero, List.set_cons_succ, i64_w, i32_w]
                                rfl
                              refine pure_ (i := 28) (N := some 92) (v := ?_) (a' := ?_) #[true, true, true, true, true, true, true, true, true, true, true, true, true, true, true, true, true, true, true, true, true, true, true, true, true, true, true, true, true, false, false, false, false, false, false, false, false, false, false, false, false] rfl rfl (any_of HT_.out (by kernel_rfl)) (fun _ _ _ h => h) (Or.inl ⟨by rfl, ?_⟩) ?_ ?_
                              rotate_left
                              · intro w'
                                go_simp
                                with_reducible rfl
                              rotate_left
                              · simp only [Act.put, List.setIfInBounds_toArray, List.set_cons_zero, List.set_cons_succ, i64_w, i32_w]
                                rfl
                              refine pure_ (i := 29) (N := some 93) (v := ?_) (a' := ?_) #[true, true, true, true, true, true, true, true, true, true, true, true, true, true, true, true, true, true, true, true, true, true, true, true, true, true, true, true, true, true, false, false, false, false, false, false, false, false, false, false, false] rfl rfl (any_of HT_.out (by kernel_rfl)) (fun _ _ _ h => h) (Or.inl ⟨by rfl, ?_⟩) ?_ ?_
                              rotate_left
                              · intro w'
                                go_simp
                                with_reducible rfl
                              rotate_left
                              · simp only [Act.put, List.setIfInBounds_toArray, List.set_cons_zero, List.set_cons_succ, i64_w, i32_w]
                                rfl
                              refine pure_ (i := 30) (N := some 94) (v := ?_) (a' := ?_) #[true, true, true, true, true, true, true, true, true, true, true, true, true, true, true, true, true, true, true, true, true, true, true, true, true, true, true, true, true, true, true, false, false, false, false, false, false, false, false, false, false] rfl rfl (any_of HT_.out (by kernel_rfl)) (fun _ _ _ h => h) (Or.inl ⟨by rfl, ?_⟩) ?_ ?_
                              rotate_left
                              · intro w'
                                go_simp
                                with_reducible rfl
                              rotate_left
                              · simp only [Act.put, List.setIfInBounds_toArray, List.set_cons_zero, List.set_cons_succ, i64_w, i32_w]
                                rfl
                              refine pure_ (i := 31) (N := some 95) (v := ?_) (a' := ?_) #[true, true, true, true, true, true, true, true, true, true, true, true, true, true, true, true, true, true, true, true, true, true, true, true, true, true, true, true, true, true, true, true, false, false, false, false, false, false, false, false, false] rfl rfl (any_of HT_.out (by kernel_rfl)) (fun _ _ _ h => h) (Or.inl ⟨by rfl, ?_⟩) ?_ ?_
                              rotate_left
                              · intro w'
                                go_simp
                                with_reducible rfl
                              rotate_left
                              · simp only [Act.put, List.setIfInBounds_toArray, List.set_cons_zero, List.set_cons_succ, i64_w, i32_w]
                                rfl
                              refine pure_ (i := 32) (N := some 96) (v := ?_) (a' := ?_) #[true, true, true, true, true, true, true, true, true, true, true, true, true, true, true, true, true, true, true, true, true, true, true, true, true, true, true, true, true, true, true, true, true, false, false, false, false, false, false, false, false] rfl rfl (any_of HT_.out (by kernel_rfl)) (fun _ _ _ h => h) (Or.inl ⟨by rfl, ?_⟩) ?_ ?_
                              rotate_left
                              · intro w'
                                go_simp
                                with_reducible rfl
                              rotate_left
                              · simp only [Act.put, List.setIfInBounds_toArray, List.set_cons_zero, List.set_cons_succ, i64_w, i32_w]
                                rfl
                              refine pure_ (i := 33) (N := some 97) (v := ?_) (a' := ?_) #[true, true, true, true, true, true, true, true, true, true, true, true, true, true, true, true, true, true, true, true, true, true, true, true, true, true, true, true, true, true, true, true, true, true, false, false, false, false, false, false, false] rfl rfl (any_of HT_.out (by kernel_rfl)) (fun _ _ _ h => h) (Or.inl ⟨by rfl, ?_⟩) ?_ ?_
                              rotate_left
                              · intro w'
                                go_simp
                                with_reducible rfl
                              rotate_left
                              · simp only [Act.put, List.setIfInBounds_toArray, List.set_cons_zero, List.set_cons_succ, i64_w, i32_w]
                                rfl
                              refine pure_ (i := 34) (N := some 98) (v := ?_) (a' := ?_) #[true, true, true, true, true, true, true, true, true, true, true, true, true, true, true, true, true, true, true, true, true, true, true, true, true, true, true, true, true, true, true, true, true, true, true, false, false, false, false, false, false] rfl rfl (any_of HT_.out (by kernel_rfl)) (fun _ _ _ h => h) (Or.inl ⟨by rfl, ?_⟩) ?_ ?_
                              rotate_left
                              · intro w'
                                go_simp
                                with_reducible rfl
                              rotate_left
                              · simp only [Act.put, List.setIfInBounds_toArray, List.set_cons_zero, List.set_cons_succ, i64_w, i32_w]
                                rfl
                              refine take_ (i := 35) (N := some 99) (v := ?_) (a' := ?_) #[true, true, true, true, true, true, true, true, true, true, true, true, true, true, true, true, true, true, true, true, true, true, true, true, true, true, true, true, true, true, true, true, true, true, true, true, false, false, false, false, false] rfl rfl (take_ofW HT_.out HW_.out (by kernel_rfl)) (fun _ _ _ h => h) (Or.inl ⟨by rfl, ?_⟩) hHeld ?_ ?_
                              rotate_left
                              · rintro w' ⟨s0, s1, s2, s3, s4, s5, s6, s7⟩
                                go_simp
                                with_reducible rfl
                              rotate_left
                              · simp only [Act.put, List.setIfInBounds_toArray, List.set_cons_zero, List.set_cons_succ, i64_w, i32_w]
                                rfl
                              refine pure_ (i := 36) (N := some 100) (v := ?_) (a' := ?_) #[true, true, true, true, true, true, true, true, true, true, true, true, true, true, true, true, true, true, true, true, true, true, true, true, true, true, true, true, true, true, true, true, true, true, true, true, true, false, false, false, false] rfl rfl (any_of HT_.out (by kernel_rfl)) (fun _ _ _ h => h) (Or.inl ⟨by rfl, ?_⟩) ?_ ?_
                              rotate_left
                              · intro w'
                                go_simp
                                with_reducible rfl
                              rotate_left
                              · simp only [Act.put, List.setIfInBounds_toArray, List.set_cons_zero, List.set_cons_succ, i64_w, i32_w]
                                rfl
                              refine pure_ (i := 37) (N := some 101) (v := ?_) (a' := ?_) #[true, true, true, true, true, true, true, true, true, true, true, true, true, true, true, true, true, true, true, true, true, true, true, true, true, true, true, true, true, true, true, true, true, true, true, true, true, true, false, false, false] rfl rfl (any_of HT_.out (by kernel_rfl)) (fun _ _ _ h => h) (Or.inl ⟨by rfl, ?_⟩) ?_ ?_
                              rotate_left
                              · intro w'
                                go_simp
                                with_reducible rfl
                              rotate_left
                              · simp only [Act.put, List.setIfInBounds_toArray, List.set_cons_zero, List.set_cons_succ, i64_w, i32_w]
                                rfl
                              refine pure_ (i := 38) (N := some 102) (v := ?_) (a' := ?_) #[true, true, true, true, true, true, true, true, true, true, true, true, true, true, true, true, true, true, true, true, true, true, true, true, true, true, true, true, true, true, true, true, true, true, true, true, true, true, true, false, false] rfl rfl (any_of HT_.out (by kernel_rfl)) (fun _ _ _ h => h) (Or.inl ⟨by rfl, ?_⟩) ?_ ?_
                              rotate_left
                              · intro w'
                                go_simp
                                with_reducible rfl
                              rotate_left
                              · simp only [Act.put, List.setIfInBounds_toArray, List.set_cons_zero, List.set_cons_succ, i64_w, i32_w]
                                rfl
                              refine pure_ (i := 39) (N := some 103) (v := ?_) (a' := ?_) #[true, true, true, true, true, true, true, true, true, true, true, true, true, true, true, true, true, true, true, true, true, true, true, true, true, true, true, true, true, true, true, true, true, true, true, true, true, true, true, true, false] rfl rfl (any_of HT_.out (by kernel_rfl)) (fun _ _ _ h => h) (Or.inl ⟨by rfl, ?_⟩) ?_ ?_
                              rotate_left
                              · intro w'
                                go_simp
                                with_reducible rfl
                              rotate_left
                              · simp only [Act.put, List.setIfInBounds_toArray, List.set_cons_zero, List.set_cons_succ, i64_w, i32_w]
                                rfl
                              refine pure_ (i := 40) (N := some 4) (v := ?_) (a' := ?_) #[true, true, true, true, true, true, true, true, true, true, true, true, true, true, true, true, true, true, true, true, true, true, true, true, true, true, true, true, true, true, true, true, true, true, true, true, true, true, true, true, true] rfl rfl (any_of HT_.out (by kernel_rfl)) (fun _ _ _ h => h) (Or.inl ⟨by rfl, ?_⟩) ?_ ?_
                              rotate_left
                              · intro w'
                                go_simp
                                with_reducible rfl
                              rotate_left
                              · simp only [Act.put, List.setIfInBounds_toArray, List.set_cons_zero, List.set_cons_succ, i64_w, i32_w]
                                rfl
                              refine done_ (done_of HT_.out (by kernel_rfl)) ?_
                              try go_wp2
                              go_ret
                              exact ⟨by first | rfl | (simp [errW_none, errW_some] <;> rfl) | (simp [*, errW_none, errW_some] <;> rfl), by repeat (first | (with_reducible first | exact HB.out | apply below_alloc | apply pw_below_drewN | apply below_drew1 | refine below_set ?_ GE253.out | refine below_set ?_ GE256.out | refine below_set ?_ GE315.out | refine below_set ?_ GE328.out | refine below_set ?_ GE337.out) | exact HB.out)⟩
                            · rw [if_neg c260] at H
                              cases H; exact absurd HRT.out (by decide)
                          · replace c256 := Bool.eq_false_iff.mpr c256
                            subst c256
                            rw [if_neg nf] at H
                            obtain rfl := Option.some.inj H
                            try go_wp2
                            replace HO_316000 := Aside0.mk (Kd.V_drew HO_316000.out)
                            replace HO_329000 := Aside0.mk (Kd.V_drew HO_329000.out)
                            replace HO_338000 := Aside0.mk (Kd.V_drew HO_338000.out)
                            replace BK253 := Aside0.mk (blk_drew BK253.out)
                            replace BK256 := Aside0.mk (blk_drew BK256.out)
                            replace BK315 := Aside0.mk (blk_drew BK315.out)
                            replace BK328 := Aside0.mk (blk_drew BK328.out)
                            replace BK337 := Aside0.mk (blk_drew BK337.out)
                            replace HB := Aside0.mk (below_drew1 HB.out)
                            refine start_ (n := 41) (S := fun w' => w'.cell? ⟨gb315, 0, none⟩ = some (.slice Ao167 t310.length co167) ∧ w'.cell? ⟨gb315, 1, none⟩ = some (.bool t313) ∧ w'.cell? ⟨gb328, 0, none⟩ = some (.slice Ao177 t320.length co177) ∧ w'.cell? ⟨gb328, 1, none⟩ = some (.bool t323) ∧ w'.cell? ⟨gb337, 0, none⟩ = some (.slice Ao188 t333.length co188) ∧ w'.cell? ⟨gb337, 1, none⟩ = some (.bool true) ∧ w'.cell? ⟨gb256, 0, none⟩ = some (.slice none 0 0) ∧ w'.cell? ⟨gb256, 1, none⟩ = some (.bool false)) (ds := []) #[false, false, false, false, false, false, false, false, false, false, false, false, false, false, false, false, false, false, false, false, false, false, false, false, false, false, false, false, false, false, false, false, false, false, false, false, false, false, false, false, false] (by kernel_rfl) rfl rfl ⟨cx BK315 0, cx BK315 1, cx BK328 0, cx BK328 1, cx BK337 0, cx BK337 1, cx BK256 0, cx BK256 1⟩ (fun hHeld => ?_); refine with_tabW pentroughlaw16_ChansKeeps.tab12 pentroughlaw16_ChansKeeps.bits12 (fun HT_ HW_ => ?_)
                            generalize wc.drew = w269 at HO_316000 HO_329000 HO_338000 BK253 BK256 BK315 BK328 BK337 HB hHeld ⊢
                            refine pure_ (i := 0) (N := some 64) (v := ?_) (a' := ?_) #[true, false, false, false, false, false, false, false, false, false, false, false, false, false, false, false, false, false, false, false, false, false, false, false, false, false, false, false, false, false, false, false, false, false, false, false, false, false, false, false, false] rfl rfl (any_of HT_.out (by kernel_rfl)) (fun _ _ _ h => h) (Or.inl ⟨by rfl, ?_⟩) ?_ ?_
                            rotate_left
                            · intro w'
                              go_simp
                              with_reducible rfl
                            rotate_left
                            · simp only [Act.put, List.setIfInBounds_toArray, List.set_cons_zero, List.set_cons_succ, i64_w, i32_w]
                              rfl
                            refine pure_ (i := 1) (N := some 65) (v := ?_) (a' := ?_) #[true, true, false, false, false, false, false, false, false, false, false, false, false, false, false, false, false, false, false, false, false, false, false, false, false, false, false, false, false, false, false, false, false, false, false, false, false, false, false, false, false] rfl rfl (any_of HT_.out (by kernel_rfl)) (fun _ _ _ h => h) (Or.inl ⟨by rfl, ?_⟩) ?_ ?_
                            rotate_left
                            · intro w'
                              go_simp
                              with_reducible rfl
                            rotate_left
                            · simp only [Act.put, List.setIfInBounds_toArray, List.set_cons_zero, List.set_cons_succ, i64_w, i32_w]
                              rfl
                            refine take_ (i := 2) (N := some 66) (v := ?_) (a' := ?_) #[true, true, true, false, false, false, false, false, false, false, false, false, false, false, false, false, false, false, false, false, false, false, false, false, false, false, false, false, false, false, false, false, false, false, false, false, false, false, false, false, false] rfl rfl (take_ofW HT_.out HW_.out (by kernel_rfl)) (fun _ _ _ h => h) (Or.inl ⟨by rfl, ?_⟩) hHeld ?_ ?_
                            rotate_left
                            · rintro w' ⟨s0, s1, s2, s3, s4, s5, s6, s7⟩
                              go_simp
                              with_reducible rfl
                            rotate_left
                            · simp only [Act.put, List.setIfInBounds_toArray, List.set_cons_zero, List.set_cons_succ, i64_w, i32_w]
                              rfl
                            refine one_ (i := 3) (N := some 67) #[true, true, true, true, false, false, false, false, false, false, false, false, false, false, false, false, false, false, false, false, false, false, false, false, false, false, false, false, false, false, false, false, false, false, false, false, false, false, false, false, false] rfl rfl (one_of HT_.out (by kernel_rfl)) (by decide) (fun K hK => ?_)
                            refine gs Try.func11 (by kernel_rfl) rfl #[.agg #[.slice Ao167 t310.length co167, .bool t313]] (by rfl) rfl rfl ?_
                            with_reducible refine (chans_Sane.calls kj149 _ _ t310 t313 true _ ?side1 ?side2 A249.out).mono ?_
                            (case side1 => exact (Kd.V_reads' (vv HO_316000)).2.2)
                            (case side2 => exact (Kd.V_reads' HO_316000.out).2.1)
                            rintro e w270 ⟨rfl, hb⟩
                            refine ⟨_, rfl, ?_⟩
                            replace HO_316000 := vB HO_316000 hb
                            replace HO_329000 := vB HO_329000 hb
                            replace HO_338000 := vB HO_338000 hb
                            replace BK253 := kB BK253 hb
                            replace BK256 := kB BK256 hb
                            replace BK315 := kB BK315 hb
                            replace BK328 := kB BK328 hb
                            replace BK337 := kB BK337 hb
                            replace HB := hB HB hb
                            (try clear hb)
                            (try clear hb2)
                            (try clear hk)
                            (try clear hi)
                            refine hK.out _ _ ⟨cx BK315 0, cx BK315 1, cx BK328 0, cx BK328 1, cx BK337 0, cx BK337 1, cx BK256 0, cx BK256 1⟩ (fun hHeld => ?_)
                            clear hK K
                            refine norm_ (a' := ?_) ?_ ?_
                            rotate_left
                            · show Act.put _ (some 67) _ = _
                              simp only [Act.put, List.setIfInBounds_toArray, List.set_cons_zero, List.set_cons_succ, i64_w, i32_w]
                              rfl
                            refine pure_ (i := 4) (N := some 68) (v := ?_) (a' := ?_) #[true, true, true, true, true, false, false, false, false, false, false, false, false, false, false, false, false, false, false, false, false, false, false, false, false, false, false, false, false, false, false, false, false, false, false, false, false, false, false, false, false] rfl rfl (any_of HT_.out (by kernel_rfl)) (fun _ _ _ h => h) (Or.inl ⟨by rfl, ?_⟩) ?_ ?_
                            rotate_left
                            · intro w'
                              go_simp
                              with_reducible rfl
                            rotate_left
                            · simp only [Act.put, List.setIfInBounds_toArray, List.set_cons_zero, List.set_cons_succ, i64_w, i32_w]
                              rfl
                            refine pure_ (i := 5) (N := some 69) (v := ?_) (a' := ?_) #[true, true, true, true, true, true, false, false, false, false, false, false, false, false, false, false, false, false, false, false, false, false, false, false, false, false, false, false, false, false, false, false, false, false, false, false, false, false, false, false, false] rfl rfl (any_of HT_.out (by kernel_rfl)) (fun _ _ _ h => h) (Or.inl ⟨by rfl, ?_⟩) ?_ ?_
                            rotate_left
                            · intro w'
                              go_simp
                              with_reducible rfl
                            rotate_left
                            · simp only [Act.put, List.setIfInBounds_toArray, List.set_cons_zero, List.set_cons_succ, i64_w, i32_w]
                              rfl
                            refine take_ (i := 6) (N := some 70) (v := ?_) (a' := ?_) #[true, true, true, true, true, true, true, false, false, false, false, false, false, false, false, false, false, false, false, false, false, false, false, false, false, false, false, false, false, false, false, false, false, false, false, false, false, false, false, false, false] rfl rfl (take_ofW HT_.out HW_.out (by kernel_rfl)) (fun _ _ _ h => h) (Or.inl ⟨by rfl, ?_⟩) hHeld ?_ ?_
                            rotate_left
                            · rintro w' ⟨s0, s1, s2, s3, s4, s5, s6, s7⟩
                              go_simp
                              with_reducible rfl
                            rotate_left
                            · simp only [Act.put, List.setIfInBounds_toArray, List.set_cons_zero, List.set_cons_succ, i64_w, i32_w]
                              rfl
                            refine one_ (i := 7) (N := some 71) #[true, true, true, true, true, true, true, true, false, false, false, false, false, false, false, false, false, false, false, false, false, false, false, false, false, false, false, false, false, false, false, false, false, false, false, false, false, false, false, false, false] rfl rfl (one_of HT_.out (by kernel_rfl)) (by decide) (fun K hK => ?_)
                            refine gs Try.func11 (by kernel_rfl) rfl #[.agg #[.slice Ao177 t320.length co177, .bool t323]] (by rfl) rfl rfl ?_
                            with_reducible refine (chans_Sane.calls kj149 _ _ t320 t323 true _ ?side1 ?side2 A251.out).mono ?_
                            (case side1 => exact (Kd.V_reads' (vv HO_329000)).2.2)
                            (case side2 => exact (Kd.V_reads' HO_329000.out).2.1)
                            rintro e w271 ⟨rfl, hb⟩
                            refine ⟨_, rfl, ?_⟩
                            replace HO_316000 := vB HO_316000 hb
                            replace HO_329000 := vB HO_329000 hb
                            replace HO_338000 := vB HO_338000 hb
                            replace BK253 := kB BK253 hb
                            replace BK256 := kB BK256 hb
                            replace BK315 := kB BK315 hb
                            replace BK328 := kB BK328 hb
                            replace BK337 := kB BK337 hb
                            replace HB := hB HB hb
                            (try clear hb)
                            (try clear hb2)
                            (try clear hk)
                            (try clear hi)
                            refine hK.out _ _ ⟨cx BK315 0, cx BK315 1, cx BK328 0, cx BK328 1, cx BK337 0, cx BK337 1, cx BK256 0, cx BK256 1⟩ (fun hHeld => ?_)
                            clear hK K
                            refine norm_ (a' := ?_) ?_ ?_
                            rotate_left
                            · show Act.put _ (some 71) _ = _
                              simp only [Act.put, List.setIfInBounds_toArray, List.set_cons_zero, List.set_cons_succ, i64_w, i32_w]
                              rfl
                            refine pure_ (i := 8) (N := some 72) (v := ?_) (a' := ?_) #[true, true, true, true, true, true, true, true, true, false, false, false, false, false, false, false, false, false, false, false, false, false, false, false, false, false, false, false, false, false, false, false, false, false, false, false, false, false, false, false, false] rfl rfl (any_of HT_.out (by kernel_rfl)) (fun _ _ _ h => h) (Or.inl ⟨by rfl, ?_⟩) ?_ ?_
                            rotate_left
                            · intro w'
                              go_simp
                              with_reducible rfl
                            rotate_left
                            · simp only [Act.put, List.setIfInBounds_toArray, List.set_cons_zero, List.set_cons_succ, i64_w, i32_w]
                              rfl
                            refine pure_ (i := 9) (N := some 73) (v := ?_) (a' := ?_) #[true, true, true, true, true, true, true, true, true, true, false, false, false, false, false, false, false, false, false, false, false, false, false, false, false, false, false, false, false, false, false, false, false, false, false, false, false, false, false, false, false] rfl rfl (any_of HT_.out (by kernel_rfl)) (fun _ _ _ h => h) (Or.inl ⟨by rfl, ?_⟩) ?_ ?_
                            rotate_left
                            · intro w'
                              go_simp
                              with_reducible rfl
                            rotate_left
                            · simp only [Act.put, List.setIfInBounds_toArray, List.set_cons_zero, List.set_cons_succ, i64_w, i32_w]
                              rfl
                            refine take_ (i := 10) (N := some 74) (v := ?_) (a' := ?_) #[true, true, true, true, true, true, true, true, true, true, true, false, false, false, false, false, false, false, false, false, false, false, false, false, false, false, false, false, false, false, false, false, false, false, false, false, false, false, false, false, false] rfl rfl (take_ofW HT_.out HW_.out (by kernel_rfl)) (fun _ _ _ h => h) (Or.inl ⟨by rfl, ?_⟩) hHeld ?_ ?_
                            rotate_left
                            · rintro w' ⟨s0, s1, s2, s3, s4, s5, s6, s7⟩
                              go_simp
                              with_reducible rfl
                            rotate_left
                            · simp only [Act.put, List.setIfInBounds_toArray, List.set_cons_zero, List.set_cons_succ, i64_w, i32_w]
                              rfl
                            refine one_ (i := 11) (N := some 75) #[true, true, true, true, true, true, true, true, true, true, true, true, false, false, false, false, false, false, false, false, false, false, false, false, false, false, false, false, false, false, false, false, false, false, false, false, false, false, false, false, false] rfl rfl (one_of HT_.out (by kernel_rfl)) (by decide) (fun K hK => ?_)
                            refine gs Try.func11 (by kernel_rfl) rfl #[.agg #[.slice Ao188 t333.length co188, .bool true]] (by rfl) rfl rfl ?_
                            with_reducible refine (chans_Sane.calls kj149 _ _ t333 true true _ ?side1 ?side2 A253.out).mono ?_
                            (case side1 => exact (Kd.V_reads' (vv HO_338000)).2.2)
                            (case side2 => exact (Kd.V_reads' HO_338000.out).2.1)
                            rintro e w272 ⟨rfl, hb⟩
                            refine ⟨_, rfl, ?_⟩
                            replace HO_316000 := vB HO_316000 hb
                            replace HO_329000 := vB HO_329000 hb
                            replace HO_338000 := vB HO_338000 hb
                            replace BK253 := kB BK253 hb
                            replace BK256 := kB BK256 hb
                            replace BK315 := kB BK315 hb
                            replace BK328 := kB BK328 hb
                            replace BK337 := kB BK337 hb
                            replace HB := hB HB hb
                            (try clear hb)
                            (try clear hb2)
                            (try clear hk)
                            (try clear hi)
                            refine hK.out _ _ ⟨cx BK315 0, cx BK315 1, cx BK328 0, cx BK328 1, cx BK337 0, cx BK337 1, cx BK256 0, cx BK256 1⟩ (fun hHeld => ?_)
                            clear hK K
                            refine norm_ (a' := ?_) ?_ ?_
                            rotate_left
                            · show Act.put _ (some 75) _ = _
                              simp only [Act.put, List.setIfInBounds_toArray, List.set_cons_zero, List.set_cons_succ, i64_w, i32_w]
                              rfl
                            refine pure_ (i := 12) (N := some 76) (v := ?_) (a' := ?_) #[true, true, true, true, true, true, true, true, true, true, true, true, true, false, false, false, false, false, false, false, false, false, false, false, false, false, false, false, false, false, false, false, false, false, false, false, false, false, false, false, false] rfl rfl (any_of HT_.out (by kernel_rfl)) (fun _ _ _ h => h) (Or.inl ⟨by rfl, ?_⟩) ?_ ?_
                            rotate_left
                            · intro w'
                              go_simp
                              with_reducible rfl
                            rotate_left
                            · simp only [Act.put, List.setIfInBounds_toArray, List.set_cons_zero, List.set_cons_succ, i64_w, i32_w]
                              rfl
                            refine pure_ (i := 13) (N := some 77) (v := ?_) (a' := ?_) #[true, true, true, true, true, true, true, true, true, true, true, true, true, true, false, false, false, false, false, false, false, false, false, false, false, false, false, false, false, false, false, false, false, false, false, false, false, false, false, false, false] rfl rfl (any_of HT_.out (by kernel_rfl)) (fun _ _ _ h => h) (Or.inl ⟨by rfl, ?_⟩) ?_ ?_
                            rotate_left
                            · intro w'
                              go_simp
                              with_reducible rfl
                            rotate_left
                            · simp only [Act.put, List.setIfInBounds_toArray, List.set_cons_zero, List.set_cons_succ, i64_w, i32_w]
                              rfl
                            refine pure_ (i := 14) (N := some 78) (v := ?_) (a' := ?_) #[true, true, true, true, true, true, true, true, true, true, true, true, true, true, true, false, false, false, false, false, false, false, false, false, false, false, false, false, false, false, false, false, false, false, false, false, false, false, false, false, false] rfl rfl (any_of HT_.out (by kernel_rfl)) (fun _ _ _ h => h) (Or.inl ⟨by rfl, ?_⟩) ?_ ?_
                            rotate_left
                            · intro w'
                              go_simp
                              with_reducible rfl
                            rotate_left
                            · simp only [Act.put, List.setIfInBounds_toArray, List.set_cons_zero, List.set_cons_succ, i64_w, i32_w]
                              rfl
                            refine take_ (i := 15) (N := some 79) (v := ?_) (a' := ?_) #[true, true, true, true, true, true, true, true, true, true, true, true, true, true, true, true, false, false, false, false, false, false, false, false, false, false, false, false, false, false, false, false, false, false, false, false, false, false, false, false, false] rfl rfl (take_ofW HT_.out HW_.out (by kernel_rfl)) (fun _ _ _ h => h) (Or.inl ⟨by rfl, ?_⟩) hHeld ?_ ?_
                            rotate_left
                            · rintro w' ⟨s0, s1, s2, s3, s4, s5, s6, s7⟩
                              go_simp
                              with_reducible rfl
                            rotate_left
                            · simp only [Act.put, List.setIfInBounds_toArray, List.set_cons_zero, List.set_cons_succ, i64_w, i32_w]
                              rfl
                            refine pure_ (i := 16) (N := some 80) (v := ?_) (a' := ?_) #[true, true, true, true, true, true, true, true, true, true, true, true, true, true, true, true, true, false, false, false, false, false, false, false, false, false, false, false, false, false, false, false, false, false, false, false, false, false, false, false, false] rfl rfl (any_of HT_.out (by kernel_rfl)) (fun _ _ _ h => h) (Or.inl ⟨by rfl, ?_⟩) ?_ ?_
                            rotate_left
                            · intro w'
                              go_simp
                              with_reducible rfl
                            rotate_left
                            · simp only [Act.put, List.setIfInBounds_toArray, List.set_cons_zero, List.set_cons_succ, i64_w, i32_w]
                              rfl
                            refine pure_ (i := 17) (N := some 81) (v := ?_) (a' := ?_) #[true, true, true, true, true, true, true, true, true, true, true, true, true, true, true, true, true, true, false, false, false, false, false, false, false, false, false, false, false, false, false, false, false, false, false, false, false, false, false, false, false] rfl rfl (any_of HT_.out (by kernel_rfl)) (fun _ _ _ h => h) (Or.inl ⟨by rfl, ?_⟩) ?_ ?_
                            rotate_left
                            · intro w'
                              go_simp
                              with_reducible rfl
                            rotate_left
                            · simp only [Act.put, List.setIfInBounds_toArray, List.set_cons_zero, List.set_cons_succ, i64_w, i32_w]
                              rfl
                            refine pure_ (i := 18) (N := some 82) (v := ?_) (a' := ?_) #[true, true, true, true, true, true, true, true, true, true, true, true, true, true, true, true, true, true, true, false, false, false, false, false, false, false, false, false, false, false, false, false, false, false, false, false, false, false, false, false, false] rfl rfl (any_of HT_.out (by kernel_rfl)) (fun _ _ _ h => h) (Or.inl ⟨by rfl, ?_⟩) ?_ ?_
                            rotate_left
                            · intro w'
                              go_simp
                              with_reducible rfl
                            rotate_left
                            · simp only [Act.put, List.setIfInBounds_toArray, List.set_cons_zero, List.set_cons_succ, i64_w, i32_w]
                              rfl
                            refine pure_ (i := 19) (N := some 83) (v := ?_) (a' := ?_) #[true, true, true, true, true, true, true, true, true, true, true, true, true, true, true, true, true, true, true, true, false, false, false, false, false, false, false, false, false, false, false, false, false, false, false, false, false, false, false, false, false] rfl rfl (any_of HT_.out (by kernel_rfl)) (fun _ _ _ h => h) (Or.inl ⟨by rfl, ?_⟩) ?_ ?_
                            rotate_left
                            · intro w'
                              go_simp
                              with_reducible rfl
                            rotate_left
                            · simp only [Act.put, List.setIfInBounds_toArray, List.set_cons_zero, List.set_cons_succ, i64_w, i32_w]
                              rfl
                            refine pure_ (i := 20) (N := some 84) (v := ?_) (a' := ?_) #[true, true, true, true, true, true, true, true, true, true, true, true, true, true, true, true, true, true, true, true, true, false, false, false, false, false, false, false, false, false, false, false, false, false, false, false, false, false, false, false, false] rfl rfl (any_of HT_.out (by kernel_rfl)) (fun _ _ _ h => h) (Or.inl ⟨by rfl, ?_⟩) ?_ ?_
                            rotate_left
                            · intro w'
                              go_simp
                              with_reducible rfl
                            rotate_left
                            · simp only [Act.put, List.setIfInBounds_toArray, List.set_cons_zero, List.set_cons_succ, i64_w, i32_w]
                              rfl
                            refine pure_ (i := 21) (N := some 85) (v := undef) (a' := ?_) #[true, true, true, true, true, true, true, true, true, true, true, true, true, true, true, true, true, true, true, true, true, true, false, false, false, false, false, false, false, false, false, false, false, false, false, false, false, false, false, false, false] rfl rfl (any_of HT_.out (by kernel_rfl)) (fun _ _ _ h => h) (Or.inr ⟨by rfl, rfl⟩) ?_ ?_
                            rotate_left
                            · simp only [Act.put, List.setIfInBounds_toArray, List.set_cons_zero, List.set_cons_succ, i64_w, i32_w]
                              rfl
                            refine pure_ (i := 22) (N := some 86) (v := undef) (a' := ?_) #[true, true, true, true, true, true, true, true, true, true, true, true, true, true, true, true, true, true, true, true, true, true, true, false, false, false, false, false, false, false, false, false, false, false, false, false, false, false, false, false, false] rfl rfl (any_of HT_.out (by kernel_rfl)) (fun _ _ _ h => h) (Or.inr ⟨by rfl, rfl⟩) ?_ ?_
                            rotate_left
                            · simp only [Act.put, List.setIfInBounds_toArray, List.set_cons_zero, List.set_cons_succ, i64_w, i32_w]
                              rfl
                            refine pure_ (i := 23) (N := some 87) (v := undef) (a' := ?_) #[true, true, true, true, true, true, true, true, true, true, true, true, true, true, true, true, true, true, true, true, true, true, true, true, false, false, false, false, false, false, false, false, false, false, false, false, false, false, false, false, false] rfl rfl (any_of HT_.out (by kernel_rfl)) (fun _ _ _ h => h) (Or.inr ⟨by rfl, rfl⟩) ?_ ?_
                            rotate_left
                            · simp only [Act.put, List.setIfInBounds_toArray, List.set_cons_zero, List.set_cons_succ, i64_w, i32_w]
                              rfl
                            refine pure_ (i := 24) (N := some 88) (v := undef) (a' := ?_) #[true, true, true, true, true, true, true, true, true, true, true, true, true, true, true, true, true, true, true, true, true, true, true, true, true, false, false, false, false, false, false, false, false, false, false, false, false, false, false, false, false] rfl rfl (any_of HT_.out (by kernel_rfl)) (fun _ _ _ h => h) (Or.inr ⟨by rfl, rfl⟩) ?_ ?_
                            rotate_left
                            · simp only [Act.put, List.setIfInBounds_toArray, List.set_cons_zero, List.set_cons_succ, i64_w, i32_w]
                              rfl
                            refine pure_ (i := 25) (N := some 89) (v := undef) (a' := ?_) #[true, true, true, true, true, true, true, true, true, true, true, true, true, true, true, true, true, true, true, true, true, true, true, true, true, true, false, false, false, false, false, false, false, false, false, false, false, false, false, false, false] rfl rfl (any_of HT_.out (by kernel_rfl)) (fun _ _ _ h => h) (Or.inr ⟨by rfl, rfl⟩) ?_ ?_
                            rotate_left
                            · simp only [Act.put, List.setIfInBounds_toArray, List.set_cons_zero, List.set_cons_succ, i64_w, i32_w]
                              rfl
                            refine pure_ (i := 26) (N := some 90) (v := undef) (a' := ?_) #[true, true, true, true, true, true, true, true, true, true, true, true, true, true, true, true, true, true, true, true, true, true, true, true, true, true, true, false, false, false, false, false, false, false, false, false, false, false, false, false, false] rfl rfl (any_of HT_.out (by kernel_rfl)) (fun _ _ _ h => h) (Or.inr ⟨by rfl, rfl⟩) ?_ ?_
                            rotate_left
                            · simp only [Act.put, List.setIfInBounds_toArray, List.set_cons_zero, List.set_cons_succ, i64_w, i32_w]
                              rfl
                            refine pure_ (i := 27) (N := some 91) (v := undef) (a' := ?_) #[true, true, true, true, true, true, true, true, true, true, true, true, true, true, true, true, true, true, true, true, true, true, true, true, true, true, true, true, false, false, false, false, false, false, false, false, false, false, false, false, false] rfl rfl (any_of HT_.out (by kernel_rfl)) (fun _ _ _ h => h) (Or.inr ⟨by rfl, rfl⟩) ?_ ?_
                            rotate_left
                            · simp only [Act.put, List.setIfInBounds_toArray, List.set_cons_zero, List.set_cons_succ, i64_w, i32_w]
                              rfl
                            refine pure_ (i := 28) (N := some 92) (v := undef) (a' := ?_) #[true, true, true, true, true, true, true, true, true, true, true, true, true, true, true, true, true, true, true, true, true, true, true, true, true, true, true, true, true, false, false, false, false, false, false, false, false, false, false, false, false] rfl rfl (any_of HT_.out (by kernel_rfl)) (fun _ _ _ h => h) (Or.inr ⟨by rfl, rfl⟩) ?_ ?_
                            rotate_left
                            · simp only [Act.put, List.setIfInBounds_toArray, List.set_cons_zero, List.set_cons_succ, i64_w, i32_w]
                              rfl
                            refine pure_ (i := 29) (N := some 93) (v := undef) (a' := ?_) #[true, true, true, true, true, true, true, true, true, true, true, true, true, true, true, true, true, true, true, true, true, true, true, true, true, true, true, true, true, true, false, false, false, false, false, false, false, false, false, false, false] rfl rfl (any_of HT_.out (by kernel_rfl)) (fun _ _ _ h => h) (Or.inr ⟨by rfl, rfl⟩) ?_ ?_
                            rotate_left
                            · simp only [Act.put, List.setIfInBounds_toArray, List.set_cons_zero, List.set_cons_succ, i64_w, i32_w]
                              rfl
                            refine pure_ (i := 30) (N := some 94) (v := ?_) (a' := ?_) #[true, true, true, true, true, true, true, true, true, true, true, true, true, true, true, true, true, true, true, true, true, true, true, true, true, true, true, true, true, true, true, false, false, false, false, false, false, false, false, false, false] rfl rfl (any_of HT_.out (by kernel_rfl)) (fun _ _ _ h => h) (Or.inl ⟨by rfl, ?_⟩) ?_ ?_
                            rotate_left
                            · intro w'
                              go_simp
                              with_reducible rfl
                            rotate_left
                            · simp only [Act.put, List.setIfInBounds_toArray, List.set_cons_zero, List.set_cons_succ, i64_w, i32_w]
                              rfl
                            refine pure_ (i := 31) (N := some 95) (v := ?_) (a' := ?_) #[true, true, true, true, true, true, true, true, true, true, true, true, true, true, true, true, true, true, true, true, true, true, true, true, true, true, true, true, true, true, true, true, false, false, false, false, false, false, false, false, false] rfl rfl (any_of HT_.out (by kernel_rfl)) (fun _ _ _ h => h) (Or.inl ⟨by rfl, ?_⟩) ?_ ?_
                            rotate_left
                            · intro w'
                              go_simp
                              with_reducible rfl
                            rotate_left
                            · simp only [Act.put, List.setIfInBounds_toArray, List.set_cons_zero, List.set_cons_succ, i64_w, i32_w]
                              rfl
                            refine pure_ (i := 32) (N := some 96) (v := ?_) (a' := ?_) #[true, true, true, true, true, true, true, true, true, true, true, true, true, true, true, true, true, true, true, true, true, true, true, true, true, true, true, true, true, true, true, true, true, false, false, false, false, false, false, false, false] rfl rfl (any_of HT_.out (by kernel_rfl)) (fun _ _ _ h => h) (Or.inl ⟨by rfl, ?_⟩) ?_ ?_
                            rotate_left
                            · intro w'
                              go_simp
                              with_reducible rfl
                            rotate_left
                            · simp only [Act.put, List.setIfInBounds_toArray, List.set_cons_zero, List.set_cons_succ, i64_w, i32_w]
                              rfl
                            refine pure_ (i := 33) (N := some 97) (v := ?_) (a' := ?_) #[true, true, true, true, true, true, true, true, true, true, true, true, true, true, true, true, true, true, true, true, true, true, true, true, true, true, true, true, true, true, true, true, true, true, false, false, false, false, false, false, false] rfl rfl (any_of HT_.out (by kernel_rfl)) (fun _ _ _ h => h) (Or.inl ⟨by rfl, ?_⟩) ?_ ?_
                            rotate_left
                            · intro w'
                              go_simp
                              with_reducible rfl
                            rotate_left
                            · simp only [Act.put, List.setIfInBounds_toArray, List.set_cons_zero, List.set_cons_succ, i64_w, i32_w]
                              rfl
                            refine pure_ (i := 34) (N := some 98) (v := ?_) (a' := ?_) #[true, true, true, true, true, true, true, true, true, true, true, true, true, true, true, true, true, true, true, true, true, true, true, true, true, true, true, true, true, true, true, true, true, true, true, false, false, false, false, false, false] rfl rfl (any_of HT_.out (by kernel_rfl)) (fun _ _ _ h => h) (Or.inl ⟨by rfl, ?_⟩) ?_ ?_
                            rotate_left
                            · intro w'
                              go_simp
                              with_reducible rfl
                            rotate_left
                            · simp only [Act.put, List.setIfInBounds_toArray, List.set_cons_zero, List.set_cons_succ, i64_w, i32_w]
                              rfl
                            refine take_ (i := 35) (N := some 99) (v := ?_) (a' := ?_) #[true, true, true, true, true, true, true, true, true, true, true, true, true, true, true, true, true, true, true, true, true, true, true, true, true, true, true, true, true, true, true, true, true, true, true, true, false, false, false, false, false] rfl rfl (take_ofW HT_.out HW_.out (by kernel_rfl)) (fun _ _ _ h => h) (Or.inl ⟨by rfl, ?_⟩) hHeld ?_ ?_
                            rotate_left
                            · rintro w' ⟨s0, s1, s2, s3, s4, s5, s6, s7⟩
                              go_simp
                              with_reducible rfl
                            rotate_left
                            · simp only [Act.put, List.setIfInBounds_toArray, List.set_cons_zero, List.set_cons_succ, i64_w, i32_w]
                              rfl
                            refine pure_ (i := 36) (N := some 100) (v := ?_) (a' := ?_) #[true, true, true, true, true, true, true, true, true, true, true, true, true, true, true, true, true, true, true, true, true, true, true, true, true, true, true, true, true, true, true, true, true, true, true, true, true, false, false, false, false] rfl rfl (any_of HT_.out (by kernel_rfl)) (fun _ _ _ h => h) (Or.inl ⟨by rfl, ?_⟩) ?_ ?_
                            rotate_left
                            · intro w'
                              go_simp
                              with_reducible rfl
                            rotate_left
                            · simp only [Act.put, List.setIfInBounds_toArray, List.set_cons_zero, List.set_cons_succ, i64_w, i32_w]
                              rfl
                            refine pure_ (i := 37) (N := some 101) (v := ?_) (a' := ?_) #[true, true, true, true, true, true, true, true, true, true, true, true, true, true, true, true, true, true, true, true, true, true, true, true, true, true, true, true, true, true, true, true, true, true, true, true, true, true, false, false, false] rfl rfl (any_of HT_.out (by kernel_rfl)) (fun _ _ _ h => h) (Or.inl ⟨by rfl, ?_⟩) ?_ ?_
                            rotate_left
                            · intro w'
                              go_simp
                              with_reducible rfl
                            rotate_left
                            · simp only [Act.put, List.setIfInBounds_toArray, List.set_cons_zero, List.set_cons_succ, i64_w, i32_w]
                              rfl
                            refine pure_ (i := 38) (N := some 102) (v := ?_) (a' := ?_) #[true, true, true, true, true, true, true, true, true, true, true, true, true, true, true, true, true, true, true, true, true, true, true, true, true, true, true, true, true, true, true, true, true, true, true, true, true, true, true, false, false] rfl rfl (any_of HT_.out (by kernel_rfl)) (fun _ _ _ h => h) (Or.inl ⟨by rfl, ?_⟩) ?_ ?_
                            rotate_left
                            · intro w'
                              go_simp
                              with_reducible rfl
                            rotate_left
                            · simp only [Act.put, List.setIfInBounds_toArray, List.set_cons_zero, List.set_cons_succ, i64_w, i32_w]
                              rfl
                            refine pure_ (i := 39) (N := some 103) (v := ?_) (a' := ?_) #[true, true, true, true, true, true, true, true, true, true, true, true, true, true, true, true, true, true, true, true, true, true, true, true, true, true, true, true, true, true, true, true, true, true, true, true, true, true, true, true, false] rfl rfl (any_of HT_.out (by kernel_rfl)) (fun _ _ _ h => h) (Or.inl ⟨by rfl, ?_⟩) ?_ ?_
                            rotate_left
                            · intro w'
                              go_simp
                              with_reducible rfl
                            rotate_left
                            · simp only [Act.put, List.setIfInBounds_toArray, List.set_cons_zero, List.set_cons_succ, i64_w, i32_w]
                              rfl
                            refine pure_ (i := 40) (N := some 4) (v := ?_) (a' := ?_) #[true, true, true, true, true, true, true, true, true, true, true, true, true, true, true, true, true, true, true, true, true, true, true, true, true, true, true, true, true, true, true, true, true, true, true, true, true, true, true, true, true] rfl rfl (any_of HT_.out (by kernel_rfl)) (fun _ _ _ h => h) (Or.inl ⟨by rfl, ?_⟩) ?_ ?_
                            rotate_left
                            · intro w'
                              go_simp
                              with_reducible rfl
                            rotate_left
                            · simp only [Act.put, List.setIfInBounds_toArray, List.set_cons_zero, List.set_cons_succ, i64_w, i32_w]
                              rfl
                            refine done_ (done_of HT_.out (by kernel_rfl)) ?_
                            try go_wp2
                            go_ret
                            exact ⟨by first | rfl | (simp [errW_none, errW_some] <;> rfl) | (simp [*, errW_none, errW_some] <;> rfl), by repeat (first | (with_reducible first | exact HB.out | apply below_alloc | apply pw_below_drewN | apply below_drew1 | refine below_set ?_ GE253.out | refine below_set ?_ GE256.out | refine below_set ?_ GE315.out | refine below_set ?_ GE328.out | refine below_set ?_ GE337.out) | exact HB.out)⟩
                        · replace c255 := Bool.eq_false_iff.mpr c255
                          subst c255
                          rw [if_neg nf] at H
                          cases H; exact absurd HRT.out (by decide)
                      · replace c254 := Bool.eq_false_iff.mpr c254
                        subst c254
                        rw [if_neg nf] at H
                        cases H; exact absurd HRT.out (by decide)
                    · replace c252 := Bool.eq_false_iff.mpr c252
                      subst c252
                      rw [if_neg nf] at H
                      cases H; exact absurd HRT.out (by decide)
                  · replace c250 := Bool.eq_false_iff.mpr c250
                    subst c250
                    rw [if_neg nf] at H
                    cases H; exact absurd HRT.out (by decide)
                · replace c248 := Bool.eq_false_iff.mpr c248
                  subst c248
                  rw [if_neg nf] at H
                  cases H; exact absurd HRT.out (by decide)

end Go.Proofs.Ytneomcnfbnfjbaa.Q
