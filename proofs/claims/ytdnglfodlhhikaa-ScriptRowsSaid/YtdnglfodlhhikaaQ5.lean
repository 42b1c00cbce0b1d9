-- Laid by mix.py, a program of this session, with the kit's print.py; walks by hand come out of wip/over.
import Derived.Test.YtdnglfodlhhikaaQ0
import Derived.Test.YtdnglfodlhhikaaQ4
namespace Go.Proofs.Ytdnglfodlhhikaa.Q
open Go.RowKit Go.Proofs.YtdnglfodlhhikaaW.PrintWords Go.Proofs.YtdnglfodlhhikaaW.PrintLast Go.Proofs.YtdnglfodlhhikaaW.PrintMore
attribute [local go_sem] max2_int min2_int max_two min_two max_three min_three max_four min_four   -- for this text's walks alone
set_option linter.unusedVariables false
set_option linter.unusedSimpArgs false

/-! ### varint_Take: function 35 -/
def varint_Take.l0 : Nat → List Int → Int → List Int → Int → Int → Option (Int × Int × Int)
  | 0, _, _, _, _, _ => none
  | k + 1, x0, x5, x12, x13, x14 => if x14 < x13 then (if 0 ≤ x14 then (if x14 < (x12.length : Int) then ((varint_low_byte.f (rd x12 x14)).bind fun t143 => (if 0 ≤ (wrap64 (7 * x14)) then (if (rd x12 x14) ≥ 128 then (varint_Take.l0 k x0 (Go.bits .or .i64 x5 (shl .i64 (wrap64 (t143)) (wrap64 (7 * x14)))) x12 x13 (wrap64 (x14 + 1))) else (if (rd x12 x14) = 0 then (if x14 > 0 then (some (0, 0, 2)) else (some (Go.bits .or .i64 x5 (shl .i64 (wrap64 (t143)) (wrap64 (7 * x14))), wrap64 (x14 + 1), 0))) else (some (Go.bits .or .i64 x5 (shl .i64 (wrap64 (t143)) (wrap64 (7 * x14))), wrap64 (x14 + 1), 0)))) else (none))) else (none)) else (none)) else (if (x0.length : Int) ≥ 4 then (some (0, 0, 3)) else (some (0, 0, 1)))
def varint_Take.f (k : Nat) (l0 : List Int) : Option (Int × Int × Int) := if 0 ≤ (mn (l0.length : Int) 4) then (if (mn (l0.length : Int) 4) ≤ (l0.length : Int) then (varint_Take.l0 k l0 0 (l0.take ((mn (l0.length : Int) 4) : Int).toNat) ((l0.take ((mn (l0.length : Int) 4) : Int).toNat).length : Int) 0) else (none)) else (none)
theorem varint_Take.mono_l : ∀ k, (∀ y0 y1 y2 y3 y4, LeO (varint_Take.l0 k y0 y1 y2 y3 y4) (varint_Take.l0 (k + 1) y0 y1 y2 y3 y4))
  | 0 => fun _ _ _ _ _ r h => by simp [varint_Take.l0] at h
  | k + 1 => by
    have ih0 := varint_Take.mono_l k
    · intro y0 y1 y2 y3 y4
      unfold varint_Take.l0
      repeat' first
      | (with_reducible exact ih0 _ _ _ _ _)
      | (with_reducible exact LeO.refl _)
      | (with_reducible exact LeO.none _)
      | (with_reducible refine LeO.ite ?_ ?_)
      | (with_reducible refine LeO.bind ?_ (fun _ => ?_))
      | exact ih0 _ _ _ _ _
      | exact LeO.none _
      | refine LeO.ite ?_ ?_
      | refine LeO.bind ?_ (fun _ => ?_)
theorem varint_Take.mono : ∀ a0 k, LeO (varint_Take.f k a0) (varint_Take.f (k + 1) a0) := by
  intro a0 k
  have ih0 := varint_Take.mono_l k
  unfold varint_Take.f
  repeat' first
      | (with_reducible exact ih0 _ _ _ _ _)
      | (with_reducible exact LeO.refl _)
      | (with_reducible exact LeO.none _)
      | (with_reducible refine LeO.ite ?_ ?_)
      | (with_reducible refine LeO.bind ?_ (fun _ => ?_))
      | exact ih0 _ _ _ _ _
      | exact LeO.none _
      | refine LeO.ite ?_ ?_
      | refine LeO.bind ?_ (fun _ => ?_)
theorem varint_Take.step (k1 : Nat) (l0 : List Int) (x : Int) (m i : Nat) (hi : i < m) (hm4 : m ≤ 4) (hml : m ≤ l0.length) :
    varint_Take.l0 (k1 + 1) l0 x (l0.take m) m i =
      if 128 ≤ rdOf 0 (l0.take m) (i : Int) then varint_Take.l0 k1 l0 (bits .or .i64 x (wrap64 (wrap64 (bits .and .u8 (rdOf 0 (l0.take m) (i : Int)) 127) * 2 ^ (7 * i)))) (l0.take m) m ((i + 1 : Nat) : Int)
      else if rdOf 0 (l0.take m) (i : Int) = 0 then
        if (i : Int) > 0 then some (0, 0, 2) else some (bits .or .i64 x (wrap64 (wrap64 (bits .and .u8 (rdOf 0 (l0.take m) (i : Int)) 127) * 2 ^ (7 * i))), ((i + 1 : Nat) : Int), 0)
      else some (bits .or .i64 x (wrap64 (wrap64 (bits .and .u8 (rdOf 0 (l0.take m) (i : Int)) 127) * 2 ^ (7 * i))), ((i + 1 : Nat) : Int), 0) := by
  have e1 : wrap64 (7 * (i : Int)) = 7 * i := by unfold wrap64; omega
  have e2 : ∀ t : Int, shl .i64 t (7 * (i : Int)) = wrap64 (t * 2 ^ (7 * i)) := by
    intro t
    unfold shl
    rw [i64_w, show (7 * (i : Int)).toNat = 7 * i from by omega, show IntKind.i64.bits = 64 from rfl, Nat.min_eq_left (by omega)]
  have e3 : wrap64 ((i : Int) + 1) = ((i + 1 : Nat) : Int) := by unfold wrap64; omega
  have hlt : (i : Int) < ((l0.take m).length : Int) := by rw [List.length_take]; omega
  rw [varint_Take.l0, show varint_low_byte.f (rd (l0.take m) (i : Int)) = some (bits .and .u8 (rd (l0.take m) (i : Int)) 127) from rfl, Option.bind_some]
  rw [if_pos (by omega), if_pos (by omega), if_pos hlt, e1, if_pos (by omega), e2, e3, show rd (l0.take m) (i : Int) = rdOf 0 (l0.take m) i from rfl]
theorem varint_Take.calls (k : Nat) (A0 : Option Addr) (c0 : Nat) (l0 : List Int) (r1 : Int) (r2 : Int) (r3 : Int) (w : World) (hr0 : Kd.C (Kd.int .u8) w A0 l0.length l0) (hc0 : l0.length ≤ c0) (h : varint_Take.f k l0 = some (r1, r2, r3)) :
    Calls Try.prog 35 #[.slice A0 l0.length c0] w fun e w' => e = .returned (.tuple #[.int .i64 r1, .int .i64 r2, .int .i64 r3]) ∧ Below w.heap.size w w' := by
  obtain ⟨m, hm, hml, hm4⟩ : ∃ m : Nat, mn (l0.length : Int) 4 = (m : Int) ∧ m ≤ l0.length ∧ m ≤ 4 := ⟨min l0.length 4, by unfold mn; split <;> omega, by omega, by omega⟩
  have hmin : (if 4 < (l0.length : Int) then 4 else (l0.length : Int)) = (m : Int) := hm
  have hl : (l0.take m).length = m := by rw [List.length_take]; omega
  have H0 : varint_Take.l0 k l0 0 (l0.take m) m 0 = some (r1, r2, r3) := by
    unfold varint_Take.f at h
    rw [hm, if_pos (by omega), if_pos (by omega), Int.toNat_natCast, hl] at h
    exact h
  obtain ⟨i05, hi05, _, hsz5, _⟩ := info_parts info5
  obtain ⟨hcut, hA, _⟩ := print_take_of (P := Try.prog) (Value.int .u8) 0 22 5 .i64 Try.underlying22 hi05 hsz5 A0 c0 l0 (m : Int) (by omega) (by omega) hc0
  rw [Int.toNat_natCast, hl] at hcut hA
  have HR := Aside0.mk (hA w (Kd.reads_of_C hr0))
  have HB := Aside0.mk (Below.refl w.heap.size w)
  have H0 := Aside0.mk H0
  clear hm hA h hr0 hi05 hsz5 hl
  go_enter Try.func35, Try.ntmps35
  go_wp2
  go_loopg [5, 14] k (fun kq v5 v14 w' => ∃ (x : Int) (i : Nat), v5 = .int .i64 x ∧ v14 = .int .i64 i ∧ Aside0 (i ≤ m) ∧ Aside0 (varint_Take.l0 kq l0 x (l0.take m) m i = some (r1, r2, r3)) ∧ Aside0 (Below w.heap.size w w'))
  case atStart => exact ⟨0, 0, rfl, rfl, ⟨Nat.zero_le _⟩, H0, HB⟩
  case round =>
    clear H0 HB
    obtain ⟨x, i, rfl, rfl, HI, HA, HB⟩ := hrel
    have hi := HI.out
    cases gk with
    | zero => exact absurd HA.out (by simp [varint_Take.l0])
    | succ k1 =>
      by_cases c6 : i < m
      · have H : varint_Take.l0 (k1 + 1) l0 x (l0.take m) m i = some (r1, r2, r3) := HA.out
        obtain ⟨ad, rfl, hx⟩ := HR.out.at_ i (by omega) (by omega)
        rw [Int.toNat_natCast] at hx
        replace hx := (HB.out.cell (World.block_lt_of_cell? w _ hx)).trans hx
        rw [varint_Take.step k1 l0 x m i c6 hm4 hml] at H
        have H' := Aside0.mk H
        clear H HA
        have hI := Aside0.mk c6
        go_wp2
        · have H := H'.out
          rw [if_pos (by assumption)] at H
          go_roundg k1
          case measure => exact Nat.lt_succ_self _
          case rel => exact ⟨_, i + 1, rfl, by go_num, ⟨by have := hI.out; omega⟩, ⟨H⟩, HB⟩
        · have H := H'.out
          have a1 : rdOf 0 (List.take m l0) ↑i = 0 := by assumption
          have a2 : 0 < i := by assumption
          rw [if_neg (Int.not_le.mpr (by assumption)), if_pos a1, if_pos (by omega)] at H
          simp only [Option.some.injEq, Prod.mk.injEq] at H
          obtain ⟨rfl, rfl, rfl⟩ := H
          go_ret3
          exact ⟨rfl, HB.out⟩
        · have H := H'.out
          have a1 : rdOf 0 (List.take m l0) ↑i = 0 := by assumption
          have a2 : ¬ 0 < i := by assumption
          rw [if_neg (Int.not_le.mpr (by assumption)), if_pos a1, if_neg (by omega), a1] at H
          simp only [Option.some.injEq, Prod.mk.injEq] at H
          obtain ⟨rfl, rfl, rfl⟩ := H
          go_ret3
          exact ⟨rfl, HB.out⟩
        · have H := H'.out
          rw [if_neg (Int.not_le.mpr (by assumption)), if_neg (by assumption)] at H
          simp only [Option.some.injEq, Prod.mk.injEq] at H
          obtain ⟨rfl, rfl, rfl⟩ := H
          go_ret3
          exact ⟨rfl, HB.out⟩
      · have H : varint_Take.l0 (k1 + 1) l0 x (l0.take m) m i = some (r1, r2, r3) := HA.out
        simp only [varint_Take.l0] at H
        rw [if_neg (by omega)] at H
        have H' := Aside0.mk H
        clear H HA
        by_cases c4 : 4 ≤ l0.length
        · have H := H'.out
          rw [if_pos (by omega)] at H
          simp only [Option.some.injEq, Prod.mk.injEq] at H
          obtain ⟨rfl, rfl, rfl⟩ := H
          clear H'
          go_wp2
          go_ret3
          exact ⟨rfl, HB.out⟩
        · have H := H'.out
          rw [if_neg (by omega)] at H
          simp only [Option.some.injEq, Prod.mk.injEq] at H
          obtain ⟨rfl, rfl, rfl⟩ := H
          clear H'
          go_wp2
          go_ret3
          exact ⟨rfl, HB.out⟩

end Go.Proofs.Ytdnglfodlhhikaa.Q
