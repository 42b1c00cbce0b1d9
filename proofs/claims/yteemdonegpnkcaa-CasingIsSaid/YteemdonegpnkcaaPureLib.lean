/- Plain laws of casing's printed functions. -/
import Derived.Test.YteemdonegpnkcaaQ1
import Derived.Test.YteemdonegpnkcaaQ2
import Derived.Test.YteemdonegpnkcaaQ3
namespace Go.Proofs.Yteemdonegpnkcaa.Pure
open Go.RowKit Go.Proofs.Yteemdonegpnkcaa.Q Go.Proofs.YteemdonegpnkcaaW.PrintWords Go.Proofs.YteemdonegpnkcaaW.PrintLast Go.Proofs.YteemdonegpnkcaaW.PrintMore
set_option linter.unusedVariables false

def rulesL : List S35 := [⟨65, 90, 1, 32⟩, ⟨192, 214, 1, 32⟩, ⟨216, 222, 1, 32⟩, ⟨256, 302, 2, 1⟩, ⟨306, 310, 2, 1⟩, ⟨313, 327, 2, 1⟩, ⟨330, 374, 2, 1⟩, ⟨377, 381, 2, 1⟩, ⟨416, 420, 2, 1⟩, ⟨904, 906, 1, 37⟩, ⟨913, 929, 1, 32⟩, ⟨931, 939, 1, 32⟩, ⟨7840, 7928, 2, 1⟩]
theorem rules_val : casing_rules.f = some rulesL := rfl
def ruleV (a : Int) : List S35 → List Int
  | [] => [a]
  | s :: t => if a ≥ s.f0 ∧ a ≤ s.f1 ∧ Int.tmod (a - s.f0) s.f2 = 0 then [a + s.f3] else ruleV a t
def foldV (a : Int) : List Int := match Sp.sp.lookup a with | some xs => xs | none => ruleV a rulesL
def Wf (a : Int) : Prop := -9223372036854775808 ≤ a ∧ a ≤ 9223372036854775807
theorem wf_of {a : Int} (h : (Lit.int .i64 a).wf = true) : Wf a := by
  have m1 : IntKind.min .i64 = -9223372036854775808 := by decide
  have m2 : IntKind.max .i64 = 9223372036854775807 := by decide
  simp only [Lit.wf, Bool.and_eq_true, decide_eq_true_eq] at h
  rw [m1, m2] at h
  exact h
theorem rule_loop (a : Int) (ha : Wf a) (L : List S35) (hL : L.length ≤ 100) (hs : ∀ s ∈ L, 0 ≤ s.f0 ∧ s.f1 ≤ 100000 ∧ s.f2 ≠ 0 ∧ 0 ≤ s.f3 ∧ s.f3 ≤ 1000) : ∀ (d i k : Nat), i + d = L.length → d < k → casing_Fold.l0 k a L (L.length : Int) i = some (ruleV a (L.drop i)) := by
  intro d
  induction d with
  | zero =>
    intro i k hi hk
    obtain ⟨k, rfl⟩ : ∃ j, k = j + 1 := ⟨k - 1, by omega⟩
    rw [casing_Fold.l0, if_neg (by omega), List.drop_eq_nil_of_le (by omega)]
    rfl
  | succ d ih =>
    intro i k hi hk
    obtain ⟨k, rfl⟩ : ∃ j, k = j + 1 := ⟨k - 1, by omega⟩
    have h : i < L.length := by omega
    have e3 : wrap64 ((i : Int) + 1) = ((i + 1 : Nat) : Int) := by unfold wrap64; omega
    have er : rd_T35 L (i : Int) = L[i] := by
      unfold rd_T35
      rw [Int.toNat_natCast, List.getD_eq_getElem?_getD, List.getElem?_eq_getElem h, Option.getD_some]
    obtain ⟨s0, s1, s2, s3, s4⟩ := hs L[i] (List.getElem_mem h)
    rw [casing_Fold.l0, if_pos (by omega), if_pos (by omega), if_pos (by omega), er, e3, List.drop_eq_getElem_cons h, ruleV, ih (i + 1) k (by omega) (by omega)]
    generalize L[i] = s at *
    by_cases h1 : a ≥ s.f0
    · rw [if_pos h1]
      by_cases h2 : a ≤ s.f1
      · have w1 : wrap64 (a - s.f0) = a - s.f0 := by unfold wrap64; omega
        have w2 : wrap64 (a + s.f3) = a + s.f3 := by unfold wrap64; omega
        rw [if_pos h2, if_neg s2, w1, w2]
        by_cases h3 : Int.tmod (a - s.f0) s.f2 = 0
        · rw [if_pos h3, if_pos ⟨h1, h2, h3⟩]
        · rw [if_neg h3, if_neg (fun c => h3 c.2.2)]
      · rw [if_neg h2, if_neg (fun c => h2 c.2.1)]
    · rw [if_neg h1, if_neg (fun c => h1 c.1)]
theorem Fold_val (a : Int) (ha : Wf a) (k : Nat) (hk : 20 < k) : casing_Fold.f k a = some (foldV a) := by
  have hw : wrap64 (a + 0) = a := by unfold Wf at ha; unfold wrap64; omega
  rw [fold_eq k a hw]
  unfold foldV
  cases Sp.sp.lookup a with
  | some xs => rfl
  | none =>
    show (casing_rules.f).bind _ = _
    rw [rules_val, Option.bind_some]
    exact rule_loop a ha rulesL (by decide) (by decide) 13 0 k rfl (by omega)
theorem ruleV_len (a : Int) : ∀ L, (ruleV a L).length = 1
  | [] => rfl
  | s :: t => by
    rw [ruleV]
    split
    · rfl
    · exact ruleV_len a t
theorem lookup_mem {a : Int} {xs : List Int} : ∀ {L : List (Int × List Int)}, L.lookup a = some xs → (a, xs) ∈ L
  | (k, ys) :: t, h => by
    simp only [List.lookup] at h
    split at h
    · rename_i e
      have := beq_iff_eq.1 e
      cases h
      subst this
      exact List.mem_cons_self
    · exact List.mem_cons_of_mem _ (lookup_mem h)
theorem foldV_len (a : Int) : 1 ≤ (foldV a).length ∧ (foldV a).length ≤ 3 := by
  unfold foldV
  cases h : Sp.sp.lookup a with
  | some xs =>
    have hp : ∀ q ∈ Sp.sp, 1 ≤ q.2.length ∧ q.2.length ≤ 3 := by decide
    exact hp _ (lookup_mem h)
  | none =>
    have := ruleV_len a rulesL
    show 1 ≤ (ruleV a rulesL).length ∧ (ruleV a rulesL).length ≤ 3
    omega
theorem flat_len (l : List Int) : l.length ≤ (l.flatMap foldV).length ∧ (l.flatMap foldV).length ≤ 3 * l.length := by
  induction l with
  | nil => simp
  | cons a t ih =>
    have := foldV_len a
    rw [List.flatMap_cons, List.length_append, List.length_cons]
    omega
theorem all_loop (l : List Int) (hl : l.length ≤ 100000) (hw : ∀ x ∈ l, Wf x) : ∀ (d i k : Nat) (acc : List Int), i + d = l.length → acc.length ≤ 3 * i → d + 21 < k → casing_All.l0 k acc l (l.length : Int) i = some (acc ++ (l.drop i).flatMap foldV) := by
  intro d
  induction d with
  | zero =>
    intro i k acc hi ha hk
    obtain ⟨k, rfl⟩ : ∃ j, k = j + 1 := ⟨k - 1, by omega⟩
    rw [casing_All.l0, if_neg (by omega), List.drop_eq_nil_of_le (by omega)]
    simp
  | succ d ih =>
    intro i k acc hi ha hk
    obtain ⟨k, rfl⟩ : ∃ j, k = j + 1 := ⟨k - 1, by omega⟩
    have h : i < l.length := by omega
    have e3 : wrap64 ((i : Int) + 1) = ((i + 1 : Nat) : Int) := by unfold wrap64; omega
    have er : rd l (i : Int) = l[i] := by unfold rd; rw [Int.toNat_natCast, List.getD_eq_getElem?_getD, List.getElem?_eq_getElem h]; rfl
    have hf := foldV_len l[i]
    rw [casing_All.l0, if_pos (by omega), if_pos (by omega), if_pos (by omega), er, Fold_val l[i] (hw _ (List.getElem_mem h)) k (by omega), Option.bind_some, if_pos (by omega), e3, ih (i + 1) k _ (by omega) (by rw [List.length_append]; omega) (by omega), List.drop_eq_getElem_cons h, List.flatMap_cons, List.append_assoc]
theorem All_val (l : List Int) (hl : l.length ≤ 100000) (hw : ∀ x ∈ l, Wf x) (k : Nat) (hk : l.length + 21 < k) : casing_All.f k l = some (l.flatMap foldV) := by
  unfold casing_All.f
  have := all_loop l hl hw l.length 0 k [] (by omega) (by simp) hk
  simpa using this
theorem awake_val (k : Nat) (hk : 30 < k) : pentroughlaw06_awake.f k = some true := by
  unfold pentroughlaw06_awake.f
  rw [Fold_val 65 (by unfold Wf; omega) k (by omega), Option.bind_some, All_val [223, 66] (by decide) (by unfold Wf; decide) k (by simp; omega), Option.bind_some]
  decide +kernel
theorem same_loop (a b : List Int) (hl : a.length = b.length) (hm : a.length ≤ 9223372036854775807) : ∀ (d i k : Nat), i + d = a.length → d < k → a.take i = b.take i → pentroughref01_Same.l0 k a b i = some (decide (a = b)) := by
  intro d
  induction d with
  | zero =>
    intro i k hi hk ht
    obtain ⟨k, rfl⟩ : ∃ j, k = j + 1 := ⟨k - 1, by omega⟩
    rw [pentroughref01_Same.l0, if_neg (by omega)]
    rw [List.take_of_length_le (by omega), List.take_of_length_le (by omega)] at ht
    rw [decide_eq_true ht]
  | succ d ih =>
    intro i k hi hk ht
    obtain ⟨k, rfl⟩ : ∃ j, k = j + 1 := ⟨k - 1, by omega⟩
    have ha : i < a.length := by omega
    have hb : i < b.length := by omega
    have e3 : wrap64 ((i : Int) + 1) = ((i + 1 : Nat) : Int) := by unfold wrap64; omega
    have ra : rd a (i : Int) = a[i] := by unfold rd; rw [Int.toNat_natCast, List.getD_eq_getElem?_getD, List.getElem?_eq_getElem ha]; rfl
    have rb : rd b (i : Int) = b[i] := by unfold rd; rw [Int.toNat_natCast, List.getD_eq_getElem?_getD, List.getElem?_eq_getElem hb]; rfl
    rw [pentroughref01_Same.l0, if_pos (by omega), if_pos (by omega), if_pos (by omega), ra, rb, e3]
    by_cases q : a[i] = b[i]
    · rw [if_pos q]
      exact ih (i + 1) k (by omega) (by omega) (by rw [List.take_succ_eq_append_getElem ha, List.take_succ_eq_append_getElem hb, ht, q])
    · rw [if_neg q, decide_eq_false (fun h => q (by subst h; rfl))]
theorem same_val (a b : List Int) (hm : a.length ≤ 9223372036854775807) (k : Nat) (hk : a.length < k) : pentroughref01_Same.f k a b = some (decide (a = b)) := by
  unfold pentroughref01_Same.f
  by_cases h : a.length = b.length
  · rw [if_pos (by omega)]
    exact same_loop a b h hm a.length 0 k (by omega) hk (by simp)
  · rw [if_neg (by omega), decide_eq_false (fun e => h (by rw [e]))]
theorem same_self (a : List Int) (hm : a.length ≤ 9223372036854775807) (k : Nat) (hk : a.length < k) : pentroughref01_Same.f k a a = some true := by
  rw [same_val a a hm k hk, decide_eq_true rfl]
end Go.Proofs.Yteemdonegpnkcaa.Pure
