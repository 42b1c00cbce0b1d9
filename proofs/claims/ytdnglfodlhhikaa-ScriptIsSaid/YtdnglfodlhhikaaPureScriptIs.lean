/- The program answers what the document says: the plain law. -/
import Derived.Test.YtdnglfodlhhikaaPureRef
import Derived.Test.YtdnglfodlhhikaaQ7
import Derived.Test.YtdnglfodlhhikaaQ15
namespace Go.Proofs.Ytdnglfodlhhikaa.Q
open Go.RowKit Go.Proofs.YtdnglfodlhhikaaW.PrintWords Go.Proofs.YtdnglfodlhhikaaW.PrintMore Go.Proofs.Ytdnglfodlhhikaa.Pure
set_option linter.unusedVariables false
set_option linter.unusedSimpArgs false
def t24 (e : S27) : S24 := ⟨e.f0, e.f1, e.f2, e.f3⟩
theorem rd27' (l : List S27) (i : Nat) (h : i < l.length) : rd_T27 l (i : Int) = l[i] := by
  unfold rd_T27
  rw [Int.toNat_natCast, List.getD_eq_getElem?_getD, List.getElem?_eq_getElem h, Option.getD_some]
theorem rd24' (l : List S24) (i : Nat) (h : i < l.length) : rd_T24 l (i : Int) = l[i] := by
  unfold rd_T24
  rw [Int.toNat_natCast, List.getD_eq_getElem?_getD, List.getElem?_eq_getElem h, Option.getD_some]
theorem same_self (a b c : Int) (l : List Int) : pentroughref23_Same.f a b c l a b c l = some true := by
  unfold pentroughref23_Same.f
  rw [if_pos rfl, if_pos rfl, if_pos rfl]
  simp
theorem ref_all_loop (l : List Int) (hl : Byt l) (h9 : l.length ≤ 100000) : ∀ (k : Nat) (at' : Int) (acc : List S27) (r : List S27 × Int × Int), script_All.l0 k l acc at' = some r → pentroughref23_All.l0 (k + 8) l (acc.map t24) at' = some (r.1.map t24, r.2.1, r.2.2) := by
  intro k
  induction k with
  | zero => intro at' acc r h; simp [script_All.l0] at h
  | succ k ih =>
    intro at' acc r h
    rw [script_All.l0] at h
    rw [show k + 1 + 8 = (k + 8) + 1 from by omega, pentroughref23_All.l0]
    by_cases c1 : at' < (l.length : Int)
    · rw [if_pos c1] at h ⊢
      by_cases c2 : 0 ≤ at'
      · rw [if_pos c2] at h ⊢
        by_cases c3 : at' ≤ (l.length : Int)
        · rw [if_pos c3] at h ⊢
          obtain ⟨g, hg⟩ : ∃ g, script_Get.f k (l.drop at'.toNat) = some g := by
            cases e : script_Get.f k (l.drop at'.toNat) with
            | none => rw [e] at h; simp at h
            | some g => exact ⟨g, rfl⟩
          have hg5 : script_Get.f (k + 8) (l.drop at'.toNat) = some g := by
            have hm : ∀ d, script_Get.f (k + d) (l.drop at'.toNat) = some g := by
              intro d
              induction d with
              | zero => exact hg
              | succ d ih2 => exact script_Get.mono _ _ _ ih2
            exact hm 8
          have hr : pentroughref23_Get.f (k + 8) (l.drop at'.toNat) = some g := by
            rw [ref_get _ (byt_drop hl _) (by rw [List.length_drop]; omega) (k + 8) (k + 8) (by omega) (by omega)]
            exact hg5
          rw [hg, Option.bind_some] at h
          rw [hr, Option.bind_some]
          by_cases c4 : g.2.2.2.2.2 = 0
          · rw [if_pos c4] at h ⊢
            rw [List.length_map]
            by_cases c5 : acc.length < 2932031007402
            · rw [if_pos c5] at h
              rw [if_pos (by omega)]
              have := ih _ _ _ h
              rw [List.map_append] at this
              exact this
            · rw [if_neg c5] at h; simp at h
          · rw [if_neg c4] at h ⊢
            obtain rfl := Option.some.inj h
            rfl
        · rw [if_neg c3] at h; simp at h
      · rw [if_neg c2] at h; simp at h
    · rw [if_neg c1] at h ⊢
      obtain rfl := Option.some.inj h
      rfl
section
variable (a b c : Int) (l : List Int)
theorem is_loop (evs : List S27) (h9 : evs.length ≤ 100000) : ∀ (n i k : Nat), i + n = evs.length → n + 12 ≤ k → pentroughlaw23_ScriptIs.l0 k true evs (evs.map t24) i a b c l = some true := by
  intro n
  induction n with
  | zero =>
    intro i k hi hk
    obtain ⟨k, rfl⟩ : ∃ p, k = p + 1 := ⟨k - 1, by omega⟩
    rw [pentroughlaw23_ScriptIs.l0, if_neg (by omega), if_pos rfl]
    obtain ⟨r, h1, h2⟩ := ref_sane a b c l k k (by omega) (by omega)
    obtain ⟨p, h3, h4⟩ := ref_put a b c l k k (by omega) (by omega)
    unfold pentroughlaw23_ours.f
    rw [Option.bind_some]
    dsimp only
    rw [h2, Option.bind_some, h1, Option.bind_some, if_pos (by simp), Option.bind_some]
    dsimp only
    rw [h4, Option.bind_some, h3, Option.bind_some]
    simp
  | succ n ih =>
    intro i k hi hk
    obtain ⟨k, rfl⟩ : ∃ p, k = p + 1 := ⟨k - 1, by omega⟩
    have hin : i < evs.length := by omega
    have hin2 : i < (evs.map t24).length := by rw [List.length_map]; omega
    rw [pentroughlaw23_ScriptIs.l0, if_pos (by omega), if_pos (by omega), rd27' evs i hin]
    unfold pentroughlaw23_theirs.f
    rw [Option.bind_some]
    dsimp only
    rw [if_pos (by omega), rd24' _ i hin2, List.getElem_map]
    have e : pentroughref23_Same.f evs[i].f0 evs[i].f1 evs[i].f2 evs[i].f3 (t24 evs[i]).f0 (t24 evs[i]).f1 (t24 evs[i]).f2 (t24 evs[i]).f3 = some true := same_self _ _ _ _
    rw [e, Option.bind_some, if_pos rfl, wrap_sum _ (by omega) (by omega), show (i : Int) + 1 = ((i + 1 : Nat) : Int) from by omega]
    exact ih (i + 1) k (by omega) (by omega)
end
theorem Pure.ScriptIs (a b c : Int) (l x : List Int) (_ : (Lit.int .i64 a).wf = true) (_ : (Lit.int .i64 b).wf = true) (_ : (Lit.int .i64 c).wf = true) (_ : l.length ≤ maxLen) (_ : ∀ n ∈ l, (Lit.int .u8 n).wf = true) (_ : x.length ≤ maxLen) (hx : ∀ n ∈ x, (Lit.int .u8 n).wf = true) : ∃ k, pentroughlaw23_ScriptIs.f k a b c l x = some true := by
  have hb := byt_of_wf hx
  refine ⟨x.length + 40, ?_⟩
  unfold pentroughlaw23_ScriptIs.f pentroughlaw23_awake.f
  rw [Option.bind_some]
  have hno : pentroughlaw23_ScriptIs.j0 (x.length + 40) x true true a b c l = some true := by
    rw [pentroughlaw23_ScriptIs.j0, if_pos rfl]
  by_cases h5 : (l.length : Int) > 5000
  · rw [if_pos h5]; exact hno
  rw [if_neg h5]
  by_cases h4 : (x.length : Int) > 400
  · rw [decide_eq_true h4]; exact hno
  rw [decide_eq_false h4]
  obtain ⟨g, hg, _⟩ := get_is x hb (x.length + 39) (by omega)
  have hr := ref_get x hb (by omega) (x.length + 39) (x.length + 39) (by omega) (by omega)
  rw [hg] at hr
  rw [pentroughlaw23_ScriptIs.j0, if_neg (by decide), hg, Option.bind_some, hr, Option.bind_some, if_pos rfl, if_pos rfl]
  unfold pentroughlaw23_theirs.f
  rw [Option.bind_some]
  dsimp only
  rw [same_self, Option.bind_some]
  rw [pentroughlaw23_ScriptIs.j1, if_neg (by decide)]
  obtain ⟨evs, q, z, g1, g2, g3, g4, g5, g6⟩ := all_is x hb (by omega) (x.length + 30) (by omega)
  have g1' : script_All.f (x.length + 38) x = some (evs, ((q : Nat) : Int), z) := by
    have hm : ∀ d, script_All.f (x.length + 30 + d) x = some (evs, ((q : Nat) : Int), z) := by
      intro d
      induction d with
      | zero => exact g1
      | succ d ih2 => exact script_All.mono _ _ _ ih2
    exact hm 8
  have g1'' : pentroughref23_All.f (x.length + 38) x = some (evs.map t24, ((q : Nat) : Int), z) := by
    unfold script_All.f at g1
    have := ref_all_loop x hb (by omega) _ _ _ _ g1
    exact this
  rw [g1', Option.bind_some, g1'', Option.bind_some]
  dsimp only
  rw [List.length_map, if_pos rfl, if_pos rfl, bne_self_eq_false, pentroughlaw23_ScriptIs.j2, if_neg (by decide)]
  exact is_loop a b c l evs (by omega) evs.length 0 (x.length + 37) (by omega) (by omega)
end Go.Proofs.Ytdnglfodlhhikaa.Q
