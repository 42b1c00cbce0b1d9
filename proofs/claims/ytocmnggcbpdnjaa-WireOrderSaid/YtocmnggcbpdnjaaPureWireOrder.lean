/- What arrives is read in its order: the plain law. -/
import Derived.Test.YtocmnggcbpdnjaaPureFew
import Derived.Test.YtocmnggcbpdnjaaQ9
import Derived.Test.YtocmnggcbpdnjaaQ10
namespace Go.Proofs.Ytocmnggcbpdnjaa.Q
open Go.RowKit Go.Proofs.YtocmnggcbpdnjaaW.PrintWords Go.Proofs.YtocmnggcbpdnjaaW.PrintMore
set_option linter.unusedVariables false
set_option linter.unusedSimpArgs false
theorem finish_okO {l : List Int} {b : Bool} {a : Int} {o : List Int} (h : okW l a = true) : wire_Finish.f l b a o = some (l, true, a, o) := by
  unfold wire_Finish.f
  rw [sane_ok h, Option.bind_some]
/-- Behind what was done: what was read, and what is there to be read, is what arrived; the wire may be. -/
theorem order_tail {x5 x6 : ByteArray} {li : List Int} {b : Bool} {a : Int} {o : List Int} {K : Option Bool} (hK : K = some true) (h1 : x6.size + (strOfNums li).size ≤ 9223372036854775807) (h2 : (x6 ++ (strOfNums li)).toList = x5.toList) (h3 : okW li a = true) :
    (if x6.size + (strOfNums li).size ≤ 9223372036854775807 then (if (x6 ++ (strOfNums li)).toList = x5.toList then ((wire_Sane.f li b a o).bind fun t => (if t = true then K else (some false))) else (some false)) else (none)) = some true := by
  rw [if_pos h1, if_pos h2, Sane_val, h3, Option.bind_some, if_pos rfl, hK]
section
variable (ops : List S29) (hops : ∀ a ∈ ops, a.f2.length ≤ 200) (h60 : ops.length ≤ 60) (hw : ∀ a ∈ ops, (Lit.int .i64 a.f1).wf = true)
include hops h60 hw
theorem order_loop : ∀ (n i k : Nat) (x5 x6 : ByteArray) (li : List Int) (b : Bool) (a : Int) (o : List Int), i + n = ops.length → n < k → okW li a = true → x6.toList ++ (strOfNums li).toList = x5.toList → x5.size ≤ 200 * i → o.length ≤ 200 * i →
    pentroughlaw19_WireOrder.l0 k ops true x5 x6 i li b a o = some true := by
  intro n
  induction n with
  | zero =>
    intro i k x5 x6 li b a o hi hk hok hs h5 ho
    obtain ⟨k, rfl⟩ : ∃ j, k = j + 1 := ⟨k - 1, by omega⟩
    rw [pentroughlaw19_WireOrder.l0, if_neg (by omega)]
  | succ n ih =>
    intro i k x5 x6 li b a o hi hk hok hs h5 ho
    obtain ⟨k, rfl⟩ : ∃ j, k = j + 1 := ⟨k - 1, by omega⟩
    have hin : i < ops.length := by omega
    have hx := hops _ (List.getElem_mem hin)
    have hwf := wf_i64 (hw _ (List.getElem_mem hin))
    have e3 : wrap64 ((i : Int) + 1) = ((i + 1 : Nat) : Int) := by unfold wrap64; omega
    have hl := (okW_iff li a).1 hok
    have h6 : x6.size + li.length = x5.size := by
      have h := congrArg List.length hs
      rw [List.length_append, ← str_size, ← str_size, ← str_size, str_sz] at h
      exact h
    have hs1 : (x6 ++ strOfNums li).toList = x5.toList := by rw [str_add]; exact hs
    have hsz1 : x6.size + (strOfNums li).size ≤ 9223372036854775807 := by rw [str_sz]; omega
    have next : ∀ (b' : Bool) (a' : Int) (o' : List Int), okW li a' = true → o'.length ≤ 200 * (i + 1) → pentroughlaw19_WireOrder.l0 k ops true x5 x6 (wrap64 ((i : Int) + 1)) li b' a' o' = some true := by
      intro b' a' o' h1 h2
      rw [e3]
      exact ih (i + 1) k x5 x6 li b' a' o' (by omega) (by omega) h1 hs (by omega) h2
    rw [pentroughlaw19_WireOrder.l0, if_pos (by omega), if_pos (by omega), rd29 ops i hin]
    by_cases c0 : ops[i].f0 = 0
    · rw [if_pos c0]
      rcases arrive_ok (b := b) (o := o) hok ops[i].f2 (by omega) with ⟨_, e⟩ | ⟨_, _, e⟩ | ⟨_, hle, e⟩
      · rw [e, Option.bind_some]
        dsimp only
        rw [if_neg (by decide)]
        exact order_tail (next _ _ _ hok (by omega)) hsz1 hs1 hok
      · rw [e, Option.bind_some]
        dsimp only
        rw [if_neg (by decide)]
        exact order_tail (next _ _ _ hok (by omega)) hsz1 hs1 hok
      · rw [e, Option.bind_some]
        dsimp only
        have hk2 : okW (li ++ ops[i].f2) a = true := (okW_iff _ _).2 ⟨by rw [List.length_append]; omega, hl.2⟩
        have hs2 : x6.toList ++ (strOfNums (li ++ ops[i].f2)).toList = (x5 ++ strOfNums ops[i].f2).toList := by
          rw [← str_app, str_add, str_add, ← List.append_assoc, hs]
        have hz2 : (x5 ++ strOfNums ops[i].f2).size = x5.size + ops[i].f2.length := by
          rw [str_size, str_add, List.length_append, ← str_size, ← str_size, str_sz]
        rw [if_pos rfl, if_pos (by rw [str_sz]; omega)]
        refine order_tail ?_ (by rw [str_sz, List.length_append]; omega) (by rw [str_add]; exact hs2) hk2
        rw [e3]
        exact ih (i + 1) k _ x6 _ b a o (by omega) (by omega) hk2 hs2 (by omega) (by omega)
    · rw [if_neg c0]
      by_cases c1 : ops[i].f0 = 1
      · rw [if_pos c1, read_ok hok, Option.bind_some]
        dsimp only
        have hr : rdN li ops[i].f1 ≤ li.length := by unfold rdN; omega
        have hlt : (li.take (rdN li ops[i].f1)).length = rdN li ops[i].f1 := by rw [List.length_take]; omega
        have hld : (li.drop (rdN li ops[i].f1)).length = li.length - rdN li ops[i].f1 := List.length_drop
        have hz2 : (x6 ++ strOfNums (li.take (rdN li ops[i].f1))).size = x6.size + rdN li ops[i].f1 := by
          rw [str_size, str_add, List.length_append, ← str_size, ← str_size, str_sz, hlt]
        have hs2 : (x6 ++ strOfNums (li.take (rdN li ops[i].f1))).toList ++ (strOfNums (li.drop (rdN li ops[i].f1))).toList = x5.toList := by
          rw [str_add, List.append_assoc, ← str_add, str_app, List.take_append_drop, hs]
        have hk2 := ok_drop hok (rdN li ops[i].f1)
        rw [if_pos (by rw [str_sz, hlt]; omega)]
        refine order_tail ?_ (by rw [hz2, str_sz, hld]; omega) (by rw [str_add]; exact hs2) hk2
        rw [e3]
        exact ih (i + 1) k x5 _ _ b a o (by omega) (by omega) hk2 hs2 (by omega) (by omega)
      · rw [if_neg c1]
        by_cases c2 : ops[i].f0 = 2
        · rw [if_pos c2]
          rcases grant_ok (b := b) (o := o) hok ops[i].f1 hwf.1 hwf.2 with ⟨_, e⟩ | ⟨_, _, e⟩ | ⟨h0, hle, e⟩
          · rw [e, Option.bind_some]
            dsimp only
            exact order_tail (next _ _ _ hok (by omega)) hsz1 hs1 hok
          · rw [e, Option.bind_some]
            dsimp only
            exact order_tail (next _ _ _ hok (by omega)) hsz1 hs1 hok
          · rw [e, Option.bind_some]
            dsimp only
            have hk2 : okW li (a + ops[i].f1) = true := (okW_iff _ _).2 ⟨hl.1, by omega, by omega⟩
            exact order_tail (next _ _ _ hk2 (by omega)) hsz1 hs1 hk2
        · rw [if_neg c2]
          by_cases c3 : ops[i].f0 = 3
          · rw [if_pos c3, write_ok hok ops[i].f2 (by omega) (by omega), Option.bind_some]
            dsimp only
            have hn : wrN a ops[i].f2 ≤ ops[i].f2.length := by unfold wrN; omega
            have hna : (wrN a ops[i].f2 : Int) ≤ a := by unfold wrN; omega
            have hk2 : okW li (a - wrN a ops[i].f2) = true := (okW_iff _ _).2 ⟨hl.1, by omega, by omega⟩
            exact order_tail (next _ _ _ hk2 (by rw [List.length_append, List.length_take]; omega)) hsz1 hs1 hk2
          · rw [if_neg c3]
            by_cases c4 : ops[i].f0 = 4
            · rw [if_pos c4, finish_okO hok, Option.bind_some]
              dsimp only
              exact order_tail (next _ _ _ hok (by omega)) hsz1 hs1 hok
            · rw [if_neg c4]
              exact order_tail (next _ _ _ hok (by omega)) hsz1 hs1 hok
end
theorem Pure.WireOrder (l : List S29) (hl : l.length ≤ maxLen) (hw : ∀ a ∈ l, (Lit.int .i64 a.f0).wf = true ∧ (Lit.int .i64 a.f1).wf = true ∧ a.f2.length ≤ maxLen ∧ ∀ n ∈ a.f2, (Lit.int .u8 n).wf = true) : ∃ k, pentroughlaw19_WireOrder.f k l = some true := by
  have hl9 : l.length ≤ 9223372036854775807 := Nat.le_trans hl (by decide)
  obtain ⟨r, hr, h⟩ := few_loop l hl9 l.length 0 (l.length + 6) (by omega) (by omega) (fun j _ h => by omega)
  refine ⟨l.length + 6, ?_⟩
  unfold pentroughlaw19_WireOrder.f pentroughlaw19_awake.f pentroughlaw19_few.f
  rw [Option.bind_some, show (0 : Int) = ((0 : Nat) : Int) from rfl, hr, Option.bind_some]
  cases r with
  | false => rw [if_neg (by decide)]
  | true =>
    rw [if_pos rfl]
    obtain ⟨h1, h2⟩ := h rfl
    exact order_loop l h1 h2 (fun a ha => (hw a ha).2.1) l.length 0 (l.length + 6) ⟨#[]⟩ ⟨#[]⟩ [] false 0 [] (by omega) (by omega) (by decide) (by rw [str_list, ByteArray.toList_eq]; rfl) (by simp [ByteArray.size]) (by simp)
end Go.Proofs.Ytocmnggcbpdnjaa.Q
