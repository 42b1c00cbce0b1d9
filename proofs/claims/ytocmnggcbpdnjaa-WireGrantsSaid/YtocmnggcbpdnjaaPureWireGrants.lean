/- No more is written than was granted: the plain law. -/
import Derived.Test.YtocmnggcbpdnjaaPureFew
import Derived.Test.YtocmnggcbpdnjaaQ5
namespace Go.Proofs.Ytocmnggcbpdnjaa.Q
open Go.RowKit Go.Proofs.YtocmnggcbpdnjaaW.PrintWords Go.Proofs.YtocmnggcbpdnjaaW.PrintMore
set_option linter.unusedVariables false
set_option linter.unusedSimpArgs false
section
variable (ops : List S29) (hops : ∀ a ∈ ops, a.f2.length ≤ 200) (h60 : ops.length ≤ 60) (hw : ∀ a ∈ ops, (Lit.int .i64 a.f1).wf = true)
include hops h60 hw
theorem grants_loop : ∀ (n i k : Nat) (li : List Int) (b : Bool) (a : Int) (o : List Int) (s : ByteArray), i + n = ops.length → 3 * n + 3 ≤ k → okW li a = true → s.toList = (strOfNums o).toList → o.length ≤ 200 * i →
    pentroughlaw19_WireGrants.l0 k ops true ((o.length : Int) + a) s i li b a o = some true := by
  intro n
  induction n with
  | zero =>
    intro i k li b a o s hi hk hok hs ho
    obtain ⟨k, rfl⟩ : ∃ j, k = j + 1 := ⟨k - 1, by omega⟩
    rw [pentroughlaw19_WireGrants.l0, if_neg (by omega)]
  | succ n ih =>
    intro i k li b a o s hi hk hok hs ho
    obtain ⟨k, rfl⟩ : ∃ j, k = j + 3 := ⟨k - 3, by omega⟩
    have hin : i < ops.length := by omega
    have hx := hops _ (List.getElem_mem hin)
    have hwf := wf_i64 (hw _ (List.getElem_mem hin))
    have e3 : wrap64 ((i : Int) + 1) = ((i + 1 : Nat) : Int) := by unfold wrap64; omega
    have hsz : ∀ (o' : List Int) (s' : ByteArray), s'.toList = (strOfNums o').toList → s'.size = o'.length := by
      intro o' s' h
      rw [str_size, h, str_list, List.length_map]
    have hj2 : ∀ (li' : List Int) (b' : Bool) (a' : Int) (o' : List Int) (s' : ByteArray), okW li' a' = true → s'.toList = (strOfNums o').toList → o'.length ≤ 200 * (i + 1) →
        pentroughlaw19_WireGrants.j2 (k + 1) ops true ((o'.length : Int) + a') s' i li' b' a' o' = some true := by
      intro li' b' a' o' s' hok' hs' ho'
      have hl' := (okW_iff li' a').1 hok'
      have hz := hsz o' s' hs'
      rw [pentroughlaw19_WireGrants.j2, if_pos (by omega), if_pos (by omega), rd29 ops i hin]
      by_cases c0 : ops[i].f0 = 0
      · rw [if_pos c0]
        have hnext : ∀ li2 : List Int, okW li2 a' = true → pentroughlaw19_WireGrants.l0 k ops true ((o'.length : Int) + a') s' ((i + 1 : Nat) : Int) li2 b' a' o' = some true :=
          fun li2 h2 => ih (i + 1) k li2 b' a' o' s' (by omega) (by omega) h2 hs' ho'
        rcases arrive_ok (b := b') (o := o') hok' ops[i].f2 (by omega) with ⟨_, e⟩ | ⟨_, _, e⟩ | ⟨_, hle, e⟩
        · rw [e, Option.bind_some]
          dsimp only
          rw [if_pos hs'.symm, hz, wrap_small _ (by omega) (by omega), if_pos rfl, if_neg (by omega), if_neg (by omega), e3]
          exact hnext _ hok'
        · rw [e, Option.bind_some]
          dsimp only
          rw [if_pos hs'.symm, hz, wrap_small _ (by omega) (by omega), if_pos rfl, if_neg (by omega), if_neg (by omega), e3]
          exact hnext _ hok'
        · rw [e, Option.bind_some]
          dsimp only
          rw [if_pos hs'.symm, hz, wrap_small _ (by omega) (by omega), if_pos rfl, if_neg (by omega), if_neg (by omega), e3]
          exact hnext _ ((okW_iff _ _).2 ⟨by rw [List.length_append]; omega, hl'.2⟩)
      · rw [if_neg c0, if_pos hs'.symm, hz, wrap_small _ (by omega) (by omega), if_pos rfl, if_neg (by omega), if_neg (by omega), e3]
        exact ih (i + 1) k li' b' a' o' s' (by omega) (by omega) hok' hs' ho'
    have hj1 : ∀ (li' : List Int) (b' : Bool) (a' : Int), okW li' a' = true → pentroughlaw19_WireGrants.j1 (k + 2) ops true ((o.length : Int) + a') s i li' b' a' o = some true := by
      intro li' b' a' hok'
      have hl' := (okW_iff li' a').1 hok'
      have hz := hsz o s hs
      rw [pentroughlaw19_WireGrants.j1, if_pos (by omega), if_pos (by omega), rd29 ops i hin]
      by_cases c3 : ops[i].f0 = 3
      · rw [if_pos c3, write_ok hok' ops[i].f2 (by omega) (by omega), Option.bind_some]
        dsimp only
        have hn : wrN a' ops[i].f2 ≤ ops[i].f2.length := by unfold wrN; omega
        have hna : (wrN a' ops[i].f2 : Int) ≤ a' := by unfold wrN; omega
        have hs2 : (s ++ strOfNums (ops[i].f2.take (wrN a' ops[i].f2))).toList = (strOfNums (o ++ ops[i].f2.take (wrN a' ops[i].f2))).toList := by
          rw [str_add, hs, str_list, str_list, str_list, List.map_append]
        have hlen : (o ++ ops[i].f2.take (wrN a' ops[i].f2)).length = o.length + wrN a' ops[i].f2 := by
          rw [List.length_append, List.length_take]; omega
        have hz2 := hsz _ _ hs2
        have hz3 : (strOfNums (ops[i].f2.take (wrN a' ops[i].f2))).size = wrN a' ops[i].f2 := by
          rw [str_size, str_list, List.length_map, List.length_take]; omega
        rw [if_neg (by omega), if_neg (by omega), if_pos (by omega), if_pos (by omega), Int.toNat_natCast, if_pos (by omega)]
        have h := hj2 li' b' (a' - wrN a' ops[i].f2) (o ++ ops[i].f2.take (wrN a' ops[i].f2)) _ ((okW_iff _ _).2 ⟨hl'.1, by omega, by omega⟩) hs2 (by omega)
        rw [show (((o ++ ops[i].f2.take (wrN a' ops[i].f2)).length : Int) + (a' - wrN a' ops[i].f2)) = (o.length : Int) + a' from by rw [hlen]; omega] at h
        exact h
      · rw [if_neg c3]
        exact hj2 li' b' a' o s hok' hs (by omega)
    have hl := (okW_iff li a).1 hok
    rw [pentroughlaw19_WireGrants.l0, if_pos (by omega), if_pos (by omega), rd29 ops i hin]
    by_cases c2 : ops[i].f0 = 2
    · rw [if_pos c2]
      rcases grant_ok (b := b) (o := o) hok ops[i].f1 hwf.1 hwf.2 with ⟨_, e⟩ | ⟨_, _, e⟩ | ⟨h0, hle, e⟩
      · rw [e, Option.bind_some]
        dsimp only
        rw [if_neg (by decide)]
        exact hj1 li b a hok
      · rw [e, Option.bind_some]
        dsimp only
        rw [if_neg (by decide)]
        exact hj1 li b a hok
      · rw [e, Option.bind_some]
        dsimp only
        rw [if_pos rfl, wrap_small _ (by omega) (by omega)]
        have h := hj1 li b (a + ops[i].f1) ((okW_iff _ _).2 ⟨hl.1, by omega, by omega⟩)
        rw [show (o.length : Int) + (a + ops[i].f1) = (o.length : Int) + a + ops[i].f1 from by omega] at h
        exact h
    · rw [if_neg c2]
      exact hj1 li b a hok
end
theorem Pure.WireGrants (l : List S29) (hl : l.length ≤ maxLen) (hw : ∀ a ∈ l, (Lit.int .i64 a.f0).wf = true ∧ (Lit.int .i64 a.f1).wf = true ∧ a.f2.length ≤ maxLen ∧ ∀ n ∈ a.f2, (Lit.int .u8 n).wf = true) : ∃ k, pentroughlaw19_WireGrants.f k l = some true := by
  have hl9 : l.length ≤ 9223372036854775807 := Nat.le_trans hl (by decide)
  obtain ⟨r, hr, h⟩ := few_loop l hl9 l.length 0 (3 * l.length + 6) (by omega) (by omega) (fun j _ h => by omega)
  refine ⟨3 * l.length + 6, ?_⟩
  unfold pentroughlaw19_WireGrants.f pentroughlaw19_awake.f pentroughlaw19_few.f
  rw [Option.bind_some, show (0 : Int) = ((0 : Nat) : Int) from rfl, hr, Option.bind_some]
  cases r with
  | false => rw [if_neg (by decide)]
  | true =>
    rw [if_pos rfl]
    obtain ⟨h1, h2⟩ := h rfl
    exact grants_loop l h1 h2 (fun a ha => (hw a ha).2.1) l.length 0 (3 * l.length + 6) [] false 0 [] ⟨#[]⟩ (by omega) (by omega) (by decide) (by rw [str_list, ByteArray.toList_eq]; rfl) (by simp)
end Go.Proofs.Ytocmnggcbpdnjaa.Q
