/- Plain laws of varint's printed functions: what Put, Size and Take come to, as functions of numbers and lists. -/
import Derived.Test.YtdnglfodlhhikaaQ5
import Derived.Test.YtdnglfodlhhikaaQ3
import Derived.Laws.Strings
namespace Go.Proofs.Ytdnglfodlhhikaa.Pure
open Go.RowKit Go.Proofs.Ytdnglfodlhhikaa.Q Go.Proofs.YtdnglfodlhhikaaW.PrintWords Go.Proofs.YtdnglfodlhhikaaW.PrintLast Go.Proofs.YtdnglfodlhhikaaW.PrintMore
set_option linter.unusedVariables false
set_option linter.unusedSimpArgs false

theorem wraps_i64 (n : Int) (h0 : 0 ≤ n) (h1 : n < 2 ^ 28) : IntKind.i64.wrap n = n := by
  rw [IntKind.wrap_i64]; omega
theorem or_comm' (k : IntKind) (x y : Int) : bits .or k x y = bits .or k y x := by
  simp only [bits, BitVec.or_comm]
theorem and127_u8 (x : Int) (h0 : 0 ≤ x) (h1 : x < 256) : bits .and .u8 x 127 = x % 128 := bits_mask .u8 8 (by decide) wraps_u8 7 (by decide) x h0 h1
theorem and127_i64 (x : Int) (h0 : 0 ≤ x) (h1 : x < 268435456) : bits .and .i64 x 127 = x % 128 := bits_mask .i64 28 (by decide) wraps_i64 7 (by decide) x h0 h1
theorem or128_u8 (x : Int) (h0 : 0 ≤ x) (h1 : x < 128) : bits .or .u8 x 128 = x + 128 := by
  rw [or_comm', bits_join .u8 8 (by decide) wraps_u8 7 128 x (by decide) (by decide) (by decide) h0 (by omega) (by omega)]; omega
theorem or_at (i : Nat) (hi : i < 28) (acc y : Int) (ha0 : 0 ≤ acc) (ha : acc < 2 ^ i) (ha' : acc < 2 ^ 28) (hy0 : 0 ≤ y) (hy : y * 2 ^ i < 2 ^ 28) : bits .or .i64 acc (y * 2 ^ i) = acc + y * 2 ^ i := by
  rw [or_comm', bits_join .i64 28 (by decide) wraps_i64 i (y * 2 ^ i) acc (Int.mul_nonneg hy0 (Int.pow_nonneg (by decide))) (Int.mul_emod_left _ _) hy ha0 ha ha']; omega

/-- The number that bytes begin with: n rounds to go, at place i, acc so far, b a digit's worth. -/
def tk : Nat → Nat → Int → Int → List Int → Int × Int × Int
  | 0, _, _, _, _ => (0, 0, 3)
  | _ + 1, _, _, _, [] => (0, 0, 1)
  | n + 1, i, acc, b, c :: t => if 128 ≤ c then tk n (i + 1) (acc + (c - 128) * b) (b * 128) t else if c = 0 then (if 0 < i then (0, 0, 2) else (acc + c * b, ((i + 1 : Nat) : Int), 0)) else (acc + c * b, ((i + 1 : Nat) : Int), 0)
def tkS (l : List Int) : Int × Int × Int := tk 4 0 0 1 l
/-- Bytes. -/
def Byt (l : List Int) : Prop := ∀ x ∈ l, 0 ≤ x ∧ x < 256

theorem rd_drop (l : List Int) (m i : Nat) (hi : i < m) (hl : i < l.length) : rdOf 0 (l.take m) (i : Int) = l[i] := by
  unfold rdOf
  rw [Int.toNat_natCast, List.getD_eq_getElem?_getD, List.getElem?_take_of_lt hi, List.getElem?_eq_getElem hl]; rfl
theorem next_val (i : Nat) (hi : i < 4) (acc c : Int) (h0 : 0 ≤ c) (h1 : c < 256) (a0 : 0 ≤ acc) (a1 : acc < 2 ^ (7 * i)) :
    bits .or .i64 acc (wrap64 (wrap64 (bits .and .u8 c 127) * 2 ^ (7 * i))) = acc + c % 128 * 2 ^ (7 * i) ∧ acc + c % 128 * 2 ^ (7 * i) < 2 ^ (7 * (i + 1)) := by
  rw [and127_u8 c h0 h1]
  have hw : wrap64 (c % 128) = c % 128 := by unfold wrap64; omega
  rw [hw]
  have hi' : i = 0 ∨ i = 1 ∨ i = 2 ∨ i = 3 := by omega
  have hw2 : wrap64 (c % 128 * 2 ^ (7 * i)) = c % 128 * 2 ^ (7 * i) := by
    rcases hi' with rfl | rfl | rfl | rfl <;> simp only [Nat.mul_zero, Nat.mul_one, Nat.reduceMul, Int.reducePow] <;> unfold wrap64 <;> omega
  have hb : c % 128 * 2 ^ (7 * i) < 2 ^ 28 ∧ acc < 2 ^ 28 ∧ acc + c % 128 * 2 ^ (7 * i) < 2 ^ (7 * (i + 1)) := by
    rcases hi' with rfl | rfl | rfl | rfl <;> simp only [Nat.mul_zero, Nat.mul_one, Nat.reduceMul, Nat.reduceAdd, Int.reducePow] at a1 ⊢ <;> omega
  rw [hw2, or_at (7 * i) (by omega) acc (c % 128) a0 a1 hb.2.1 (by omega) hb.1]
  exact ⟨rfl, hb.2.2⟩
theorem take_loop (l : List Int) (hl : Byt l) (m : Nat) (hm : m = min l.length 4) : ∀ (n i : Nat) (acc : Int) (k : Nat), i + n = 4 → n < k → 0 ≤ acc → acc < 2 ^ (7 * i) → i ≤ l.length →
    varint_Take.l0 k l acc (l.take m) m i = some (tk n i acc (2 ^ (7 * i)) (l.drop i)) := by
  intro n
  induction n with
  | zero =>
    intro i acc k hi hk a0 a1 hil
    obtain ⟨k, rfl⟩ : ∃ j, k = j + 1 := ⟨k - 1, by omega⟩
    rw [varint_Take.l0, if_neg (by omega), if_pos (by omega)]
    simp only [tk]
  | succ n ih =>
    intro i acc k hi hk a0 a1 hil
    obtain ⟨k, rfl⟩ : ∃ j, k = j + 1 := ⟨k - 1, by omega⟩
    by_cases h : i < l.length
    · have him : i < m := by omega
      rw [varint_Take.step k l acc m i him (by omega) (by omega), rd_drop l m i him h]
      have hb := hl l[i] (List.getElem_mem h)
      obtain ⟨e, hlt⟩ := next_val i (by omega) acc l[i] hb.1 hb.2 a0 a1
      rw [e, List.drop_eq_getElem_cons h]
      simp only [tk]
      have hpos : (0 : Int) ≤ 2 ^ (7 * i) := Int.pow_nonneg (by decide)
      by_cases c : 128 ≤ l[i]
      · rw [if_pos c, if_pos c]
        have e1 : l[i] % 128 = l[i] - 128 := by omega
        rw [e1] at hlt ⊢
        have hp : (2 : Int) ^ (7 * i) * 128 = 2 ^ (7 * (i + 1)) := by rw [Nat.mul_succ, Int.pow_add]; rfl
        rw [hp]
        exact ih (i + 1) _ k (by omega) (by omega) (Int.add_nonneg a0 (Int.mul_nonneg (by omega) hpos)) hlt (by omega)
      · rw [if_neg c, if_neg c]
        have e1 : l[i] % 128 = l[i] := by omega
        rw [e1]
        by_cases z : l[i] = 0
        · rw [if_pos z, if_pos z]
          by_cases zi : 0 < i
          · rw [if_pos (by omega), if_pos zi]
          · rw [if_neg (by omega), if_neg zi]
        · rw [if_neg z, if_neg z]
    · have him : i = m := by omega
      rw [varint_Take.l0, if_neg (by omega), if_neg (by omega), List.drop_eq_nil_of_le (by omega)]
      simp only [tk]
theorem take_val (l : List Int) (hl : Byt l) (k : Nat) (hk : 4 < k) : varint_Take.f k l = some (tkS l) := by
  unfold varint_Take.f
  have hm : mn (l.length : Int) 4 = ((min l.length 4 : Nat) : Int) := by unfold mn; split <;> omega
  have hlen : (l.take (min l.length 4)).length = min l.length 4 := by rw [List.length_take]; omega
  rw [hm, if_pos (by omega), if_pos (by omega), Int.toNat_natCast, hlen]
  exact take_loop l hl _ rfl 4 0 0 k rfl hk (by decide) (by decide) (Nat.zero_le _)

/-- A number's bytes, f digits more at most. -/
def pt : Nat → Int → List Int
  | 0, n => [n]
  | f + 1, n => if n ≥ 128 then (n % 128 + 128) :: pt f (n / 128) else [n]
def putS (n : Int) : List Int := if 0 ≤ n ∧ n ≤ 268435455 then pt 3 n else []
theorem put_loop : ∀ (f : Nat) (x : Int) (acc : List Int) (k : Nat), f ≤ 3 → f < k → 0 ≤ x → x < 2 ^ (7 * (f + 1)) → acc.length + f ≤ 3 → varint_Put.l0 k x acc = some (acc ++ pt f x) := by
  intro f
  induction f with
  | zero =>
    intro x acc k hf hk h0 h1 ha
    obtain ⟨k, rfl⟩ : ∃ j, k = j + 1 := ⟨k - 1, by omega⟩
    simp only [Nat.zero_add, Nat.mul_one, Int.reducePow] at h1
    rw [varint_Put.l0, if_neg (by omega), if_pos (by omega), Int.emod_eq_of_lt h0 (by omega)]
    rfl
  | succ f ih =>
    intro x acc k hf hk h0 h1 ha
    obtain ⟨k, rfl⟩ : ∃ j, k = j + 1 := ⟨k - 1, by omega⟩
    have hx : x < 268435456 := by
      have : f = 0 ∨ f = 1 ∨ f = 2 := by omega
      rcases this with rfl | rfl | rfl <;> simp only [Nat.reduceAdd, Nat.reduceMul, Int.reducePow] at h1 <;> omega
    rw [varint_Put.l0]
    simp only [pt]
    by_cases c : x ≥ 128
    · rw [if_pos c, if_pos c, show varint_low_int.f x = some (bits .and .i64 x 127) from rfl, Option.bind_some, if_pos (by omega), and127_i64 x h0 hx, Int.emod_eq_of_lt (b := 256) (by omega) (by omega), or128_u8 _ (by omega) (by omega)]
      have hq : x / 128 < 2 ^ (7 * (f + 1)) := by
        have : f = 0 ∨ f = 1 ∨ f = 2 := by omega
        rcases this with rfl | rfl | rfl <;> simp only [Nat.reduceAdd, Nat.reduceMul, Int.reducePow] at h1 ⊢ <;> omega
      rw [ih (x / 128) _ k (by omega) (by omega) (by omega) hq (by rw [List.length_append]; simp only [List.length_singleton]; omega), List.append_assoc]
      rfl
    · rw [if_neg c, if_neg c, if_pos (by omega), Int.emod_eq_of_lt h0 (by omega)]
theorem put_val (n : Int) (k : Nat) (hk : 4 < k) : varint_Put.f k n = some (putS n) := by
  obtain ⟨k, rfl⟩ : ∃ j, k = j + 1 := ⟨k - 1, by omega⟩
  unfold varint_Put.f putS
  by_cases h : n < 0
  · rw [if_pos h, if_neg (by omega), varint_Put.j0, if_pos rfl]
  · rw [if_neg h, varint_Put.j0]
    by_cases h2 : n > 268435455
    · rw [if_pos (decide_eq_true h2), if_neg (by omega)]
    · rw [if_neg (by simpa using h2), if_pos (by omega), put_loop 3 n [] k (by omega) (by omega) (by omega) (by simp only [Nat.reduceAdd, Nat.reduceMul, Int.reducePow]; omega) (by simp)]
      rfl
theorem str_list (l : List Int) : (strOfNums l).toList = l.map fun n => UInt8.ofNat n.toNat := by
  rw [ByteArray.toList_eq]; simp [strOfNums]
/-- A number's bytes, written out. -/
theorem put_cases (n : Int) (h0 : 0 ≤ n) (h1 : n ≤ 268435455) :
    (n < 128 ∧ putS n = [n]) ∨ (128 ≤ n ∧ n < 16384 ∧ putS n = [n % 128 + 128, n / 128]) ∨ (16384 ≤ n ∧ n < 2097152 ∧ putS n = [n % 128 + 128, n / 128 % 128 + 128, n / 16384]) ∨ (2097152 ≤ n ∧ putS n = [n % 128 + 128, n / 128 % 128 + 128, n / 16384 % 128 + 128, n / 2097152]) := by
  have e1 : n / 128 / 128 = n / 16384 := by omega
  have e2 : n / 16384 / 128 = n / 2097152 := by omega
  unfold putS
  rw [if_pos ⟨h0, h1⟩]
  simp only [pt]
  by_cases c1 : n < 128
  · left; exact ⟨c1, by rw [if_neg (by omega)]⟩
  · right
    rw [if_pos (by omega)]
    by_cases c2 : n < 16384
    · left; exact ⟨by omega, c2, by rw [if_neg (by omega)]⟩
    · right
      rw [if_pos (by omega), e1]
      by_cases c3 : n < 2097152
      · left; exact ⟨by omega, c3, by rw [if_neg (by omega)]⟩
      · right; exact ⟨by omega, by rw [if_pos (by omega), e2]⟩
/-- What is taken, written out. -/
theorem take_cases (l : List Int) (hl : Byt l) (n k : Int) (h : tkS l = (n, k, 0)) :
    (∃ a t, l = a :: t ∧ 0 ≤ a ∧ a < 128 ∧ n = a ∧ k = 1) ∨
    (∃ a b t, l = a :: b :: t ∧ 128 ≤ a ∧ a < 256 ∧ 0 < b ∧ b < 128 ∧ n = a - 128 + b * 128 ∧ k = 2) ∨
    (∃ a b c t, l = a :: b :: c :: t ∧ 128 ≤ a ∧ a < 256 ∧ 128 ≤ b ∧ b < 256 ∧ 0 < c ∧ c < 128 ∧ n = a - 128 + (b - 128) * 128 + c * 16384 ∧ k = 3) ∨
    (∃ a b c d t, l = a :: b :: c :: d :: t ∧ 128 ≤ a ∧ a < 256 ∧ 128 ≤ b ∧ b < 256 ∧ 128 ≤ c ∧ c < 256 ∧ 0 < d ∧ d < 128 ∧ n = a - 128 + (b - 128) * 128 + (c - 128) * 16384 + d * 2097152 ∧ k = 4) := by
  unfold tkS at h
  match l, hl, h with
  | [], _, h => simp [tk] at h
  | a :: t, hl, h =>
    have ha := hl a (by simp)
    simp only [tk] at h
    by_cases ca : 128 ≤ a
    · rw [if_pos ca] at h
      right
      match t, hl, h with
      | [], _, h => simp [tk] at h
      | b :: t, hl, h =>
        have hb := hl b (by simp)
        simp only [tk] at h
        by_cases cb : 128 ≤ b
        · rw [if_pos cb] at h
          right
          match t, hl, h with
          | [], _, h => simp [tk] at h
          | c :: t, hl, h =>
            have hc := hl c (by simp)
            simp only [tk] at h
            by_cases cc : 128 ≤ c
            · rw [if_pos cc] at h
              right
              match t, hl, h with
              | [], _, h => simp [tk] at h
              | d :: t, hl, h =>
                have hd := hl d (by simp)
                simp only [tk] at h
                by_cases cd : 128 ≤ d
                · rw [if_pos cd] at h
                  simp [tk] at h
                · rw [if_neg cd] at h
                  by_cases zd : d = 0
                  · rw [if_pos zd] at h; simp at h
                  · rw [if_neg zd] at h
                    simp only [Prod.mk.injEq] at h
                    exact ⟨a, b, c, d, t, rfl, ca, ha.2, cb, hb.2, cc, hc.2, by omega, by omega, by omega, by omega⟩
            · rw [if_neg cc] at h
              left
              by_cases zc : c = 0
              · rw [if_pos zc] at h; simp at h
              · rw [if_neg zc] at h
                simp only [Prod.mk.injEq] at h
                exact ⟨a, b, c, t, rfl, ca, ha.2, cb, hb.2, by omega, by omega, by omega, by omega⟩
        · rw [if_neg cb] at h
          left
          by_cases zb : b = 0
          · rw [if_pos zb] at h; simp at h
          · rw [if_neg zb] at h
            simp only [Prod.mk.injEq] at h
            exact ⟨a, b, t, rfl, ca, ha.2, by omega, by omega, by omega, by omega⟩
    · rw [if_neg ca] at h
      left
      by_cases za : a = 0
      · rw [if_pos za] at h
        simp only [Nat.lt_irrefl, if_false, Prod.mk.injEq] at h
        exact ⟨a, t, rfl, ha.1, by omega, by omega, by omega⟩
      · rw [if_neg za] at h
        simp only [Prod.mk.injEq] at h
        exact ⟨a, t, rfl, ha.1, by omega, by omega, by omega⟩
/-- With an error nothing is told. -/
theorem tk_err : ∀ (n i : Nat) (acc b : Int) (l : List Int), (tk n i acc b l).2.2 ≠ 0 → (tk n i acc b l).1 = 0 ∧ (tk n i acc b l).2.1 = 0 := by
  intro n
  induction n with
  | zero => intro i acc b l _; exact ⟨rfl, rfl⟩
  | succ n ih =>
    intro i acc b l h
    match l, h with
    | [], _ => exact ⟨rfl, rfl⟩
    | c :: t, h =>
      simp only [tk] at h ⊢
      by_cases c1 : 128 ≤ c
      · rw [if_pos c1] at h ⊢; exact ih _ _ _ _ h
      · rw [if_neg c1] at h ⊢
        by_cases c2 : c = 0
        · rw [if_pos c2] at h ⊢
          by_cases c3 : 0 < i
          · rw [if_pos c3]; exact ⟨rfl, rfl⟩
          · rw [if_neg c3] at h; exact absurd rfl h
        · rw [if_neg c2] at h; exact absurd rfl h
theorem byt_of_wf {l : List Int} (h : ∀ x ∈ l, (Lit.int .u8 x).wf = true) : Byt l := fun x hx => by
  have := h x hx
  simp [Lit.wf, IntKind.min, IntKind.max, IntKind.bits, IntKind.signed] at this
  omega
theorem put_byt (n : Int) : Byt (putS n) := by
  unfold putS
  split
  · rename_i h
    rcases put_cases n h.1 h.2 with ⟨_, e⟩ | ⟨_, _, e⟩ | ⟨_, _, e⟩ | ⟨_, e⟩ <;> (unfold putS at e; rw [if_pos h] at e; rw [e]; intro x hx; simp only [List.mem_cons, List.not_mem_nil, or_false] at hx; omega)
  · intro x hx; simp at hx
/-- How many bytes a number has. -/
def sz (n : Int) : Int := ((putS n).length : Int)
theorem sz_is (n : Int) (h0 : 0 ≤ n) (h1 : n ≤ 268435455) : sz n = if n < 128 then 1 else if n < 16384 then 2 else if n < 2097152 then 3 else 4 := by
  unfold sz
  rcases put_cases n h0 h1 with ⟨a, e⟩ | ⟨a, b, e⟩ | ⟨a, b, e⟩ | ⟨a, e⟩ <;> rw [e]
  · rw [if_pos a]; rfl
  · rw [if_neg (by omega), if_pos b]; rfl
  · rw [if_neg (by omega), if_neg (by omega), if_pos b]; rfl
  · rw [if_neg (by omega), if_neg (by omega), if_neg (by omega)]; rfl
theorem sz_facts (x : Int) (h0 : 0 ≤ x) (h1 : x ≤ 268435455) : 1 ≤ sz x ∧ sz x ≤ 4 ∧ (x / 128 = 0 → sz x = 1) ∧ (0 < x / 128 → sz x = sz (x / 128) + 1) := by
  have a := sz_is x h0 h1
  have b := sz_is (x / 128) (by omega) (by omega)
  repeat' split at a
  all_goals refine ⟨by omega, by omega, fun _ => by omega, fun _ => ?_⟩
  all_goals (repeat' split at b) <;> omega
theorem sz_mono (x y : Int) (h0 : 0 ≤ x) (h : x ≤ y) (h1 : y ≤ 268435455) : sz x ≤ sz y := by
  rw [sz_is x h0 (by omega), sz_is y (by omega) h1]
  repeat' split
  all_goals omega
theorem and_mask (a : Int) : 0 ≤ bits .and .i64 a 268435455 ∧ bits .and .i64 a 268435455 ≤ 268435455 := by
  have h : (BitVec.ofInt 64 a &&& BitVec.ofInt 64 268435455).toNat ≤ 268435455 := by
    rw [BitVec.toNat_and]
    exact Nat.le_trans Nat.and_le_right (by decide)
  have e : bits .and .i64 a 268435455 = IntKind.i64.wrap ((BitVec.ofInt 64 a &&& BitVec.ofInt 64 268435455).toNat : Int) := rfl
  rw [e, wraps_i64 _ (by omega) (by omega)]
  omega
theorem put_taken (n : Int) (h0 : 0 ≤ n) (h1 : n ≤ 268435455) (more : List Int) : tkS (putS n ++ more) = (n, ((putS n).length : Int), 0) ∧ tkS ((putS n).take ((putS n).length - 1)) = (0, 0, 1) ∧ 1 ≤ (putS n).length ∧ (putS n).length ≤ 4 := by
  unfold tkS
  rcases put_cases n h0 h1 with ⟨a, e⟩ | ⟨a, b, e⟩ | ⟨a, b, e⟩ | ⟨a, e⟩
  · rw [e]
    refine ⟨?_, by simp [tk], by simp, by simp⟩
    simp only [List.cons_append, List.nil_append, tk, List.length_cons, List.length_nil]
    rw [if_neg (by omega)]
    by_cases z : n = 0
    · rw [if_pos z, if_neg (by omega), z]; try rfl
    · rw [if_neg z, show 0 + n * 1 = n from by omega]; try rfl
  · rw [e]
    refine ⟨?_, ?_, by simp, by simp⟩
    · simp only [List.cons_append, List.nil_append, tk, List.length_cons, List.length_nil]
      rw [if_pos (by omega), if_neg (by omega), if_neg (by omega), show 0 + (n % 128 + 128 - 128) * 1 + n / 128 * (1 * 128) = n from by omega]; try rfl
    · simp only [List.length_cons, List.length_nil, Nat.reduceAdd, Nat.reduceSub, List.take_succ_cons, List.take_zero, tk]
      rw [if_pos (by omega)]
  · rw [e]
    refine ⟨?_, ?_, by simp, by simp⟩
    · simp only [List.cons_append, List.nil_append, tk, List.length_cons, List.length_nil]
      rw [if_pos (by omega), if_pos (by omega), if_neg (by omega), if_neg (by omega), show 0 + (n % 128 + 128 - 128) * 1 + (n / 128 % 128 + 128 - 128) * (1 * 128) + n / 16384 * (1 * 128 * 128) = n from by omega]; try rfl
    · simp only [List.length_cons, List.length_nil, Nat.reduceAdd, Nat.reduceSub, List.take_succ_cons, List.take_zero, tk]
      rw [if_pos (by omega), if_pos (by omega)]
  · rw [e]
    refine ⟨?_, ?_, by simp, by simp⟩
    · simp only [List.cons_append, List.nil_append, tk, List.length_cons, List.length_nil]
      rw [if_pos (by omega), if_pos (by omega), if_pos (by omega), if_neg (by omega), if_neg (by omega), show 0 + (n % 128 + 128 - 128) * 1 + (n / 128 % 128 + 128 - 128) * (1 * 128) + (n / 16384 % 128 + 128 - 128) * (1 * 128 * 128) + n / 2097152 * (1 * 128 * 128 * 128) = n from by omega]; try rfl
    · simp only [List.length_cons, List.length_nil, Nat.reduceAdd, Nat.reduceSub, List.take_succ_cons, List.take_zero, tk]
      rw [if_pos (by omega), if_pos (by omega), if_pos (by omega)]
theorem taken_put (l : List Int) (hl : Byt l) (n k : Int) (h : tkS l = (n, k, 0)) : 1 ≤ k ∧ k ≤ 4 ∧ k ≤ l.length ∧ 0 ≤ n ∧ n ≤ 268435455 ∧ putS n = l.take k.toNat ∧ ((putS n).length : Int) = k := by
  rcases take_cases l hl n k h with ⟨a, t, rfl, a0, a1, rfl, rfl⟩ | ⟨a, b, t, rfl, a0, a1, b0, b1, rfl, rfl⟩ | ⟨a, b, c, t, rfl, a0, a1, b0, b1, c0, c1, rfl, rfl⟩ | ⟨a, b, c, d, t, rfl, a0, a1, b0, b1, c0, c1, d0, d1, rfl, rfl⟩
  · rcases put_cases n a0 (by omega) with ⟨_, e⟩ | ⟨_, _, e⟩ | ⟨_, _, e⟩ | ⟨_, e⟩ <;> first | omega | skip
    exact ⟨by decide, by decide, by simp only [List.length_cons]; omega, by omega, by omega, by rw [e]; rfl, by rw [e]; rfl⟩
  · rcases put_cases (a - 128 + b * 128) (by omega) (by omega) with ⟨_, e⟩ | ⟨_, _, e⟩ | ⟨_, _, e⟩ | ⟨_, e⟩ <;> first | omega | skip
    rw [show (a - 128 + b * 128) % 128 + 128 = a from by omega, show (a - 128 + b * 128) / 128 = b from by omega] at e
    exact ⟨by decide, by decide, by simp only [List.length_cons]; omega, by omega, by omega, by rw [e]; rfl, by rw [e]; rfl⟩
  · rcases put_cases (a - 128 + (b - 128) * 128 + c * 16384) (by omega) (by omega) with ⟨_, e⟩ | ⟨_, _, e⟩ | ⟨_, _, e⟩ | ⟨_, e⟩ <;> first | omega | skip
    rw [show (a - 128 + (b - 128) * 128 + c * 16384) % 128 + 128 = a from by omega, show (a - 128 + (b - 128) * 128 + c * 16384) / 128 % 128 + 128 = b from by omega, show (a - 128 + (b - 128) * 128 + c * 16384) / 16384 = c from by omega] at e
    exact ⟨by decide, by decide, by simp only [List.length_cons]; omega, by omega, by omega, by rw [e]; rfl, by rw [e]; rfl⟩
  · rcases put_cases (a - 128 + (b - 128) * 128 + (c - 128) * 16384 + d * 2097152) (by omega) (by omega) with ⟨_, e⟩ | ⟨_, _, e⟩ | ⟨_, _, e⟩ | ⟨_, e⟩ <;> first | omega | skip
    rw [show (a - 128 + (b - 128) * 128 + (c - 128) * 16384 + d * 2097152) % 128 + 128 = a from by omega, show (a - 128 + (b - 128) * 128 + (c - 128) * 16384 + d * 2097152) / 128 % 128 + 128 = b from by omega, show (a - 128 + (b - 128) * 128 + (c - 128) * 16384 + d * 2097152) / 16384 % 128 + 128 = c from by omega, show (a - 128 + (b - 128) * 128 + (c - 128) * 16384 + d * 2097152) / 2097152 = d from by omega] at e
    exact ⟨by decide, by decide, by simp only [List.length_cons]; omega, by omega, by omega, by rw [e]; rfl, by rw [e]; rfl⟩
end Go.Proofs.Ytdnglfodlhhikaa.Pure
