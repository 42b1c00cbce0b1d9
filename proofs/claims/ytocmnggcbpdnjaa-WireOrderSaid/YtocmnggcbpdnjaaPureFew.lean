/- Few small ones; strings of bytes. -/
import Derived.Test.YtocmnggcbpdnjaaPureLib
import Derived.Laws.Strings
import Derived.Test.YtocmnggcbpdnjaaQ4
namespace Go.Proofs.Ytocmnggcbpdnjaa.Q
open Go.RowKit Go.Proofs.YtocmnggcbpdnjaaW.PrintWords Go.Proofs.YtocmnggcbpdnjaaW.PrintMore
set_option linter.unusedVariables false
set_option linter.unusedSimpArgs false
theorem rd29 (l : List S29) (i : Nat) (h : i < l.length) : rd_T29 l (i : Int) = l[i] := by
  unfold rd_T29
  rw [Int.toNat_natCast, List.getD_eq_getElem?_getD, List.getElem?_eq_getElem h, Option.getD_some]
theorem str_list (l : List Int) : (strOfNums l).toList = l.map fun n => UInt8.ofNat n.toNat := by
  rw [ByteArray.toList_eq]; simp [strOfNums]
theorem str_add (s t : ByteArray) : (s ++ t).toList = s.toList ++ t.toList := by
  rw [ByteArray.toList_eq, ByteArray.toList_eq, ByteArray.toList_eq, ByteArray.data_append, Array.toList_append]
theorem str_size (s : ByteArray) : s.size = s.toList.length := by
  rw [ByteArray.toList_eq]; rfl
theorem few_loop (l : List S29) (hl : l.length ≤ 9223372036854775807) : ∀ (d i k : Nat), i + d = l.length → d < k → (∀ j (h : j < l.length), j < i → l[j].f2.length ≤ 200) →
    ∃ r, pentroughlaw19_few.l0 k l i = some r ∧ (r = true → (∀ a ∈ l, a.f2.length ≤ 200) ∧ l.length ≤ 60) := by
  intro d
  induction d with
  | zero =>
    intro i k hi hk hj
    obtain ⟨k, rfl⟩ : ∃ j, k = j + 1 := ⟨k - 1, by omega⟩
    rw [pentroughlaw19_few.l0, if_neg (by omega)]
    refine ⟨_, rfl, fun h => ⟨fun a ha => ?_, by have := of_decide_eq_true h; omega⟩⟩
    obtain ⟨j, hj1, rfl⟩ := List.mem_iff_getElem.mp ha
    exact hj j hj1 (by omega)
  | succ d ih =>
    intro i k hi hk hj
    obtain ⟨k, rfl⟩ : ∃ j, k = j + 1 := ⟨k - 1, by omega⟩
    have ha : i < l.length := by omega
    have e3 : wrap64 ((i : Int) + 1) = ((i + 1 : Nat) : Int) := by unfold wrap64; omega
    rw [pentroughlaw19_few.l0, if_pos (by omega), if_pos (by omega), rd29 l i ha, e3]
    by_cases h2 : (l[i].f2.length : Int) > 200
    · rw [if_pos h2]
      exact ⟨false, rfl, fun h => by simp at h⟩
    · rw [if_neg h2]
      refine ih (i + 1) k (by omega) (by omega) fun j h1 h3 => ?_
      by_cases e : j = i
      · subst e; omega
      · exact hj j h1 (by omega)
theorem wrap_small (x : Int) (h : -1000000 ≤ x) (h2 : x ≤ 1000000) : wrap64 x = x := by unfold wrap64; omega
theorem str_sz (l : List Int) : (strOfNums l).size = l.length := by rw [str_size, str_list, List.length_map]
theorem str_app (l m : List Int) : ((strOfNums l) ++ (strOfNums m)).toList = (strOfNums (l ++ m)).toList := by rw [str_add, str_list, str_list, str_list, List.map_append]
end Go.Proofs.Ytocmnggcbpdnjaa.Q
