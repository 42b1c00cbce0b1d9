/- What is put comes out in its order: the plain part. -/
import Derived.Test.YtneomcnfbnfjbaaQ7
import Derived.Test.YtneomcnfbnfjbaaQ6
import Derived.Test.YtneomcnfbnfjbaaPureLib
namespace Go.Proofs.Ytneomcnfbnfjbaa.Pure
open Go.RowKit Go.Proofs.Ytneomcnfbnfjbaa.Q Go.Proofs.YtneomcnfbnfjbaaW.PrintWords Go.Proofs.YtneomcnfbnfjbaaW.PrintLast Go.Proofs.YtneomcnfbnfjbaaW.PrintMore
set_option linter.unusedVariables false

def fewOps (l : List S39) : Bool := decide (l.length ≤ 80) && l.all fun x => decide (x.f1.length ≤ 20)
theorem rd_op (l : List S39) (i : Nat) (h : i < l.length) : rd_T39 l (i : Int) = l[i] := by
  unfold rd_T39
  rw [Int.toNat_natCast, List.getD_eq_getElem?_getD, List.getElem?_eq_getElem h, Option.getD_some]
theorem fewOps_loop (l : List S39) (hl : l.length ≤ 9223372036854775807) : ∀ (d i k : Nat), i + d = l.length → d < k → pentroughlaw16_few.l0 k l i = some (decide (l.length ≤ 80) && (l.drop i).all fun x => decide (x.f1.length ≤ 20)) := by
  intro d
  induction d with
  | zero =>
    intro i k hi hk
    obtain ⟨k, rfl⟩ : ∃ j, k = j + 1 := ⟨k - 1, by omega⟩
    rw [pentroughlaw16_few.l0, if_neg (by omega), List.drop_eq_nil_of_le (by omega)]
    simp
    omega
  | succ d ih =>
    intro i k hi hk
    obtain ⟨k, rfl⟩ : ∃ j, k = j + 1 := ⟨k - 1, by omega⟩
    have h : i < l.length := by omega
    have e3 : wrap64 ((i : Int) + 1) = ((i + 1 : Nat) : Int) := by unfold wrap64; omega
    rw [pentroughlaw16_few.l0, if_pos (by omega), if_pos (by omega), rd_op l i h, e3, List.drop_eq_getElem_cons h, List.all_cons, ih (i + 1) k (by omega) (by omega)]
    by_cases q : (l[i].f1.length : Int) > 20
    · rw [if_pos q, show decide (l[i].f1.length ≤ 20) = false from decide_eq_false (by omega)]; simp
    · rw [if_neg q, show decide (l[i].f1.length ≤ 20) = true from decide_eq_true (by omega)]; simp
theorem cnt_flat : ∀ L : List (List Int), cnt L = (L.flatten.length : Int)
  | [] => rfl
  | x :: t => by
    have := cnt_flat t
    have e : cnt (x :: t) = x.length + cnt t := by simp [cnt]
    rw [e, this, List.flatten_cons, List.length_append]
    omega
theorem order_end : ∀ (d j k : Nat) (L : List (List Int)) (b : Bool) (inn out : List Int), j + d = 2 → L.length ≤ d → saneB L = true → inn = out ++ L.flatten → inn.length ≤ 700 → 720 + d < k → pentroughlaw16_ChansOrder.l1 k true inn out j L b = some true := by
  intro d
  induction d with
  | zero =>
    intro j k L b inn out hj hL hs he hn hk
    obtain ⟨k, rfl⟩ : ∃ j, k = j + 1 := ⟨k - 1, by omega⟩
    obtain rfl : L = [] := List.length_eq_zero_iff.1 (by omega)
    have he' : inn = out := by simpa using he
    rw [pentroughlaw16_ChansOrder.l1, if_neg (by omega), if_pos rfl, same_val inn out (by omega) k (by omega), Option.bind_some, if_pos (by simpa using he'), Count_val [] b (by simp) k (by show 0 + 2 < k; omega), Option.bind_some]
    rfl
  | succ d ih =>
    intro j k L b inn out hj hL hs he hn hk
    obtain ⟨k, rfl⟩ : ∃ j, k = j + 1 := ⟨k - 1, by omega⟩
    have e3 : wrap64 ((j : Int) + 1) = ((j + 1 : Nat) : Int) := by unfold wrap64; omega
    have h2 := (sane_is hs).1
    rw [pentroughlaw16_ChansOrder.l1, if_pos (by omega), Take_val L b (by omega) k (by omega), Option.bind_some, e3]
    match L, hL, hs, he with
    | [], hL, hs, he =>
      rw [take_nil]
      simp only [List.append_nil, List.length_nil, Nat.add_zero]
      have hol : out.length ≤ 700 := by rw [he] at hn; simpa using hn
      rw [if_pos (by omega)]
      exact ih (j + 1) k [] b inn out (by omega) (by simp) rfl he hn (by omega)
    | x :: t, hL, hs, he =>
      rw [take_cons hs]
      simp only
      have he' : inn = (out ++ x) ++ t.flatten := by rw [he, List.flatten_cons, List.append_assoc]
      have hol : out.length + x.length ≤ 700 := by
        rw [he'] at hn
        simp only [List.length_append] at hn
        omega
      rw [if_pos (by omega)]
      exact ih (j + 1) k t b inn (out ++ x) (by omega) (by simp at hL; omega) (sane_tail hs) he' hn (by omega)
theorem order_loop (l : List S39) (hl : l.length ≤ 80) : ∀ (d i k : Nat) (L : List (List Int)) (b : Bool) (inn out : List Int), i + d = l.length → saneB L = true → inn = out ++ L.flatten → inn.length ≤ 8 * i → 800 + 4 * d < k → pentroughlaw16_ChansOrder.l0 k l true inn out i L b = some true := by
  intro d
  induction d with
  | zero =>
    intro i k L b inn out hi hs he hn hk
    obtain ⟨k, rfl⟩ : ∃ j, k = j + 1 := ⟨k - 1, by omega⟩
    rw [pentroughlaw16_ChansOrder.l0, if_neg (by omega)]
    exact order_end 2 0 k L b inn out rfl (sane_is hs).1 hs he (by omega) (by omega)
  | succ d ih =>
    intro i k L b inn out hi hs he hn hk
    obtain ⟨k, rfl⟩ : ∃ j, k = j + 4 := ⟨k - 4, by omega⟩
    have hil : i < l.length := by omega
    have e3 : wrap64 ((i : Int) + 1) = ((i + 1 : Nat) : Int) := by unfold wrap64; omega
    have H3 : ∀ (L : List (List Int)) (b : Bool) (inn out : List Int), saneB L = true → inn = out ++ L.flatten → inn.length ≤ 8 * (i + 1) → pentroughlaw16_ChansOrder.j3 (k + 1) l true inn out i L b = some true := by
      intro L b inn out hs he hn
      have h2 := (sane_is hs).1
      have hw : cnt L = wrap64 ((inn.length : Int) - (out.length : Int)) := by
        have hlen : inn.length = out.length + L.flatten.length := by rw [he, List.length_append]
        rw [cnt_flat]
        unfold wrap64
        omega
      have h16 := cnt_le L hs
      rw [pentroughlaw16_ChansOrder.j3, Count_val L b (by omega) k (by omega), Option.bind_some, (asL_of hs b).1, if_pos hw, Option.bind_some, if_neg (by omega), chans_Sane.is L b (by omega) k (by omega), Option.bind_some, if_pos hs, e3]
      exact ih (i + 1) k L b inn out (by omega) hs he hn (by omega)
    have H2 : ∀ (L : List (List Int)) (b : Bool) (inn out : List Int), saneB L = true → inn = out ++ L.flatten → inn.length ≤ 8 * (i + 1) → pentroughlaw16_ChansOrder.j2 (k + 2) l true inn out i L b = some true := by
      intro L b inn out hs he hn
      have h2 := (sane_is hs).1
      rw [pentroughlaw16_ChansOrder.j2, if_pos (by omega), if_pos (by omega)]
      split
      · rw [Close_val L b (by omega) _ (by omega), Option.bind_some, (asL_of hs b).1]
        exact H3 L true inn out hs he hn
      · exact H3 L b inn out hs he hn
    have H1 : ∀ (L : List (List Int)) (b : Bool) (inn out : List Int), saneB L = true → inn = out ++ L.flatten → inn.length ≤ 8 * (i + 1) → pentroughlaw16_ChansOrder.j1 (k + 3) l true inn out i L b = some true := by
      intro L b inn out hs he hn
      have h2 := (sane_is hs).1
      rw [pentroughlaw16_ChansOrder.j1, if_pos (by omega), if_pos (by omega)]
      split
      · rw [Take_val L b (by omega) _ (by omega), Option.bind_some]
        match L, hs, he with
        | [], hs, he =>
          rw [take_nil]
          simp only [List.append_nil, List.length_nil, Nat.add_zero]
          have hol : out.length ≤ 700 := by rw [he] at hn; simp at hn; omega
          rw [if_pos (by omega)]
          exact H2 [] b inn out rfl he hn
        | x :: t, hs, he =>
          rw [take_cons hs]
          simp only
          have he' : inn = (out ++ x) ++ t.flatten := by rw [he, List.flatten_cons, List.append_assoc]
          have hol : out.length + x.length ≤ 700 := by
            rw [he'] at hn
            simp only [List.length_append] at hn
            omega
          rw [if_pos (by omega)]
          exact H2 t b inn (out ++ x) (sane_tail hs) he' hn
      · exact H2 L b inn out hs he hn
    have h2 := (sane_is hs).1
    rw [pentroughlaw16_ChansOrder.l0, if_pos (by omega), if_pos (by omega), rd_op l i hil]
    split
    · rw [Put_val L b l[i].f1 (by omega) _ (by omega), Option.bind_some]
      by_cases hp : b = false ∧ L.length < 2 ∧ fitsB l[i].f1 = true
      · obtain ⟨rfl, hp2, hp3⟩ := hp
        have h8 := (fitsB_iff _).1 hp3
        rw [put_room hs hp2 hp3]
        simp only
        rw [if_pos (by trivial), if_pos (by omega)]
        exact H1 (L ++ [l[i].f1]) false (inn ++ l[i].f1) out (sane_app hs hp2 hp3) (by rw [he]; simp) (by rw [List.length_append]; omega)
      · have hput : putS L b l[i].f1 = (L, b, false) := by
          cases b with
          | true => exact put_shut hs _
          | false =>
            rcases Nat.lt_or_ge L.length 2 with q | q
            · exact put_bad hs false (by cases e : fitsB l[i].f1 <;> simp_all)
            · exact put_full hs (by omega) _
        rw [hput]
        simp only
        rw [if_neg (by decide)]
        exact H1 L b inn out hs he (by omega)
    · exact H1 L b inn out hs he (by omega)
theorem ChansOrder (l : List S39) (hl : l.length ≤ 9223372036854775807) (_ : ∀ x ∈ l, (Lit.int .i64 x.f0).wf = true ∧ x.f1.length ≤ maxLen ∧ ∀ n ∈ x.f1, (Lit.int .i64 n).wf = true) : ∃ k, pentroughlaw16_ChansOrder.f k l = some true := by
  refine ⟨4 * l.length + 900, ?_⟩
  unfold pentroughlaw16_ChansOrder.f pentroughlaw16_few.f
  rw [awake_val, Option.bind_some, show (0 : Int) = ((0 : Nat) : Int) from rfl, fewOps_loop l hl l.length 0 _ (by omega) (by omega), Option.bind_some]
  split
  · rename_i h
    simp only [Bool.and_eq_true, decide_eq_true_eq] at h
    exact order_loop l h.1 l.length 0 _ [] false [] [] (by omega) rfl rfl (by simp) (by omega)
  · rfl
end Go.Proofs.Ytneomcnfbnfjbaa.Pure
