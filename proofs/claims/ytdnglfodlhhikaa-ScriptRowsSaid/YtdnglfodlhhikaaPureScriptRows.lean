/- Events stand one behind the other: the plain law. -/
import Derived.Test.YtdnglfodlhhikaaPureGet
import Derived.Test.YtdnglfodlhhikaaPureAll
import Derived.Test.YtdnglfodlhhikaaQ7
import Derived.Test.YtdnglfodlhhikaaQ10
namespace Go.Proofs.Ytdnglfodlhhikaa.Q
open Go.RowKit Go.Proofs.YtdnglfodlhhikaaW.PrintWords Go.Proofs.YtdnglfodlhhikaaW.PrintMore Go.Proofs.Ytdnglfodlhhikaa.Pure
set_option linter.unusedVariables false
set_option linter.unusedSimpArgs false
def u27 (e : S24) : S27 := ⟨e.f0, e.f1, e.f2, e.f3⟩
def put24 (e : S24) : List Int := putE e.f0 e.f1 e.f2 e.f3
def Fine24 (e : S24) : Prop := Fine e.f0 e.f1 e.f2 e.f3 ∧ Byt e.f3 ∧ e.f3.length ≤ 300
theorem rd27r (l : List S27) (i : Nat) (h : i < l.length) : rd_T27 l (i : Int) = l[i] := by
  unfold rd_T27
  rw [Int.toNat_natCast, List.getD_eq_getElem?_getD, List.getElem?_eq_getElem h, Option.getD_some]
theorem rd24r (l : List S24) (i : Nat) (h : i < l.length) : rd_T24 l (i : Int) = l[i] := by
  unfold rd_T24
  rw [Int.toNat_natCast, List.getD_eq_getElem?_getD, List.getElem?_eq_getElem h, Option.getD_some]
/-- What is got of bytes is got behind others, too. -/
theorem all_both (pre l : List Int) (hl : Byt l) (h9 : pre.length + l.length ≤ 100000) : ∀ (n at' : Nat) (acc acc2 : List S27) (k k2 : Nat), at' ≤ l.length → l.length - at' ≤ n → n + 7 ≤ k → n + 7 ≤ k2 → acc.length ≤ at' → acc2.length ≤ pre.length + at' →
    ∃ evs q z, script_All.l0 k l acc at' = some (acc ++ evs, ((at' + q : Nat) : Int), z) ∧ script_All.l0 k2 (pre ++ l) acc2 ((pre.length + at' : Nat) : Int) = some (acc2 ++ evs, ((pre.length + at' + q : Nat) : Int), z) ∧ at' + q ≤ l.length ∧ evs.length ≤ q := by
  intro n
  induction n with
  | zero =>
    intro at' acc acc2 k k2 h1 h2 hk hk2 h3 h4
    obtain ⟨k, rfl⟩ : ∃ p, k = p + 1 := ⟨k - 1, by omega⟩
    obtain ⟨k2, rfl⟩ : ∃ p, k2 = p + 1 := ⟨k2 - 1, by omega⟩
    refine ⟨[], 0, 0, ?_, ?_, by omega, by simp⟩
    · rw [script_All.l0, if_neg (by omega), List.append_nil]; rfl
    · rw [script_All.l0, if_neg (by rw [List.length_append]; omega), List.append_nil]; rfl
  | succ n ih =>
    intro at' acc acc2 k k2 h1 h2 hk hk2 h3 h4
    obtain ⟨k, rfl⟩ : ∃ p, k = p + 1 := ⟨k - 1, by omega⟩
    obtain ⟨k2, rfl⟩ : ∃ p, k2 = p + 1 := ⟨k2 - 1, by omega⟩
    have hlp : (pre ++ l).length = pre.length + l.length := List.length_append
    by_cases hd : at' < l.length
    · have hdr : (pre ++ l).drop (pre.length + at') = l.drop at' := by
        rw [List.drop_append, List.drop_eq_nil_of_le (by omega), List.nil_append]
        congr 1; omega
      rw [script_All.l0, if_pos (by omega), if_pos (by omega), if_pos (by omega), Int.toNat_natCast, script_All.l0, if_pos (by omega), if_pos (by omega), if_pos (by omega), Int.toNat_natCast, hdr]
      obtain ⟨r, hr, h⟩ := get_is (l.drop at') (byt_drop hl at') k (by omega)
      have hr2 : script_Get.f k2 (l.drop at') = some r := by
        have hm : ∀ d, script_Get.f (5 + d) (l.drop at') = script_Get.f 5 (l.drop at') := by
          intro d
          obtain ⟨r5, h5, _⟩ := get_is (l.drop at') (byt_drop hl at') 5 (by omega)
          rw [h5]
          induction d with
          | zero => exact h5
          | succ d ih2 => exact script_Get.mono _ _ _ ih2
        rw [show k2 = 5 + (k2 - 5) by omega, hm, ← hm (k - 5), show 5 + (k - 5) = k by omega]
        exact hr
      rw [hr, hr2, Option.bind_some, Option.bind_some]
      rcases h with ⟨kk, i, m, b, q, rest, rfl, hf, hbb, e, hq⟩ | ⟨z, rfl, hz⟩
      · dsimp only
        have hp : 1 ≤ (putE kk i m b).length := by simp [putE]
        have hle : (putE kk i m b).length ≤ l.length - at' := by rw [← List.length_drop, e]; simp
        rw [if_pos rfl, if_pos rfl, if_pos (by omega), if_pos (by omega), hq, wrap_sum _ (by omega) (by omega), wrap_sum _ (by omega) (by omega), show (at' : Int) + ((putE kk i m b).length : Int) = ((at' + (putE kk i m b).length : Nat) : Int) from by omega, show ((pre.length + at' : Nat) : Int) + ((putE kk i m b).length : Int) = ((pre.length + (at' + (putE kk i m b).length) : Nat) : Int) from by omega]
        obtain ⟨evs, q2, z, g1, g1', g2, g6⟩ := ih (at' + (putE kk i m b).length) (acc ++ [⟨kk, i, m, b⟩]) (acc2 ++ [⟨kk, i, m, b⟩]) k k2 (by omega) (by omega) (by omega) (by omega) (by simp only [List.length_append, List.length_cons, List.length_nil]; omega) (by simp only [List.length_append, List.length_cons, List.length_nil]; omega)
        refine ⟨⟨kk, i, m, b⟩ :: evs, (putE kk i m b).length + q2, z, ?_, ?_, by omega, by simp only [List.length_cons]; omega⟩
        · rw [g1, List.append_assoc, Nat.add_assoc]; rfl
        · rw [g1', List.append_assoc, show pre.length + (at' + (putE kk i m b).length) + q2 = pre.length + at' + ((putE kk i m b).length + q2) by omega]; rfl
      · dsimp only
        rw [if_neg hz, if_neg hz]
        exact ⟨[], 0, z, by rw [List.append_nil]; rfl, by rw [List.append_nil]; rfl, by omega, by simp⟩
    · refine ⟨[], 0, 0, ?_, ?_, by omega, by simp⟩
      · rw [script_All.l0, if_neg (by omega), List.append_nil]; rfl
      · rw [script_All.l0, if_neg (by omega), List.append_nil]; rfl
/-- Events that were put one behind the other are got. -/
theorem all_evs (more : List Int) (hm : Byt more) : ∀ (l : List S24) (pre : List Int) (acc : List S27) (k : Nat), (∀ e ∈ l, Fine24 e) → 5 ≤ k → acc.length + l.length ≤ 100000 → (pre ++ ((l.map put24).flatten ++ more)).length ≤ 100000 →
    script_All.l0 (k + l.length) (pre ++ ((l.map put24).flatten ++ more)) acc (pre.length : Int) = script_All.l0 k (pre ++ ((l.map put24).flatten ++ more)) (acc ++ l.map u27) ((pre.length + (l.map put24).flatten.length : Nat) : Int)
  | [], pre, acc, k, _, _, _, _ => by simp
  | e :: t, pre, acc, k, hf, hk, ha, hz => by
    have he := hf e (by simp)
    have h1 := putE_len he.1
    have hbt : Byt ((t.map put24).flatten ++ more) := by
      refine byt_app (fun x hx => ?_) hm
      obtain ⟨y, hy, hxy⟩ := List.mem_flatten.mp hx
      obtain ⟨z, hz1, rfl⟩ := List.mem_map.mp hy
      have := hf z (List.mem_cons_of_mem _ hz1)
      exact putE_byt this.1 this.2.1 x hxy
    have hL : pre ++ (((e :: t).map put24).flatten ++ more) = (pre ++ put24 e) ++ ((t.map put24).flatten ++ more) := by simp
    have hlen : ((pre ++ put24 e) ++ ((t.map put24).flatten ++ more)).length = pre.length + (put24 e).length + ((t.map put24).flatten ++ more).length := by simp; omega
    have hpe : (put24 e).length = (putE e.f0 e.f1 e.f2 e.f3).length := rfl
    rw [hL] at hz ⊢
    rw [hlen] at hz
    have hstep : script_All.l0 (k + (e :: t).length) ((pre ++ put24 e) ++ ((t.map put24).flatten ++ more)) acc (pre.length : Int) = script_All.l0 (k + t.length) ((pre ++ put24 e) ++ ((t.map put24).flatten ++ more)) (acc ++ [u27 e]) (((pre ++ put24 e).length : Nat) : Int) := by
      rw [List.length_cons, show k + (t.length + 1) = (k + t.length) + 1 by omega, script_All.l0, if_pos (by rw [hlen]; omega), if_pos (by omega), if_pos (by rw [hlen]; omega), Int.toNat_natCast]
      have hd : ((pre ++ put24 e) ++ ((t.map put24).flatten ++ more)).drop pre.length = putE e.f0 e.f1 e.f2 e.f3 ++ ((t.map put24).flatten ++ more) := by
        rw [List.append_assoc, List.drop_left]; rfl
      rw [hd, get_put he.1 he.2.1 _ hbt (k + t.length) (by omega) (by omega), Option.bind_some]
      dsimp only
      rw [if_pos rfl, if_pos (by omega), wrap_sum _ (by omega) (by omega), List.length_append, ← hpe]
      congr 1
    rw [hstep, all_evs more hm t (pre ++ put24 e) (acc ++ [u27 e]) k (fun x hx => hf x (List.mem_cons_of_mem _ hx)) hk (by simp only [List.length_append, List.length_cons, List.length_nil] at ha ⊢; omega) (by rw [hlen]; omega)]
    congr 1
    · simp
    · simp; omega
theorem rows_cmp (l : List S24) (evs : List S27) (h9 : l.length + evs.length ≤ 100000) : ∀ (d i k : Nat), i + d = l.length + evs.length → d < k → pentroughlaw23_ScriptRows.l1 k l true (l.map u27 ++ evs) evs i = some true := by
  intro d
  have hlen : (l.map u27 ++ evs).length = l.length + evs.length := by simp
  induction d with
  | zero =>
    intro i k hi hk
    obtain ⟨k, rfl⟩ : ∃ j, k = j + 1 := ⟨k - 1, by omega⟩
    rw [pentroughlaw23_ScriptRows.l1, if_neg (by omega)]
  | succ d ih =>
    intro i k hi hk
    obtain ⟨k, rfl⟩ : ∃ j, k = j + 1 := ⟨k - 1, by omega⟩
    have e3 : wrap64 ((i : Int) + 1) = ((i + 1 : Nat) : Int) := by unfold wrap64; omega
    have hnext := ih (i + 1) k (by omega) (by omega)
    rw [pentroughlaw23_ScriptRows.l1, if_pos (by omega), rd27r _ i (by omega), e3]
    by_cases q : i < l.length
    · have eg : (l.map u27 ++ evs)[i]'(by omega) = u27 l[i] := by
        rw [List.getElem_append_left (by simpa using q), List.getElem_map]
      rw [if_pos (by omega), if_pos (by omega), rd24r l i q, eg]
      unfold pentroughlaw23_theirs.f
      rw [Option.bind_some]
      dsimp only [u27]
      rw [same_selfE, Option.bind_some, if_pos rfl]
      exact hnext
    · have ew : wrap64 ((i : Int) - (l.length : Int)) = ((i - l.length : Nat) : Int) := by unfold wrap64; omega
      have eg : (l.map u27 ++ evs)[i]'(by omega) = evs[i - l.length]'(by omega) := by
        rw [List.getElem_append_right (by simp; omega)]
        simp
      rw [if_neg (by omega), ew, if_pos (by omega), if_pos (by omega), rd27r evs (i - l.length) (by omega), eg]
      unfold pentroughlaw23_theirs.f
      rw [Option.bind_some, if_pos (by omega), Option.bind_some]
      dsimp only
      rw [same_selfE, Option.bind_some, if_pos rfl]
      exact hnext
theorem flat_len (l : List S24) (h : ∀ e ∈ l, Fine24 e) : (l.map put24).flatten.length ≤ 306 * l.length := by
  induction l with
  | nil => simp
  | cons e t ih =>
    have he := h e (by simp)
    have h1 := putE_len he.1
    have h3 := he.2.2
    have := ih fun x hx => h x (List.mem_cons_of_mem _ hx)
    have hpe : (put24 e).length = (putE e.f0 e.f1 e.f2 e.f3).length := rfl
    simp only [List.map_cons, List.flatten_cons, List.length_append, List.length_cons]
    omega
theorem rows_end (l : List S24) (x : List Int) (hl : l.length ≤ 20) (hx : Byt x) (hxl : x.length ≤ 200) (hf : ∀ e ∈ l, Fine24 e) (k : Nat) (hk : 300 ≤ k) :
    (if ((l.map put24).flatten).length + x.length < 140737488355328 then ((script_All.f k ((l.map put24).flatten ++ x)).bind fun bt284 => ((script_All.f k x).bind fun bt289 => (if (bt284.1.length : Int) = (wrap64 ((l.length : Int) + (bt289.1.length : Int))) then (if bt284.2.1 = (wrap64 (((l.map put24).flatten.length : Int) + bt289.2.1)) then (pentroughlaw23_ScriptRows.j3 k l true bt284.1 bt289.1 (bt284.2.2 != bt289.2.2)) else (pentroughlaw23_ScriptRows.j3 k l true bt284.1 bt289.1 true)) else (pentroughlaw23_ScriptRows.j3 k l true bt284.1 bt289.1 true)))) else (none)) = some true := by
  have hfl := flat_len l hf
  obtain ⟨evs, q, z, g1, g2, g3, g4⟩ := all_both ((l.map put24).flatten) x hx (by omega) x.length 0 [] (l.map u27) k (k - l.length) (by omega) (by omega) (by omega) (by omega) (by simp) (by
    have : l.length ≤ (l.map put24).flatten.length := by
      clear hfl hl
      induction l with
      | nil => simp
      | cons e t ih =>
        have h1 := (putE_len (hf e (by simp)).1).1
        have := ih fun x hx => hf x (List.mem_cons_of_mem _ hx)
        have hpe : (put24 e).length = (putE e.f0 e.f1 e.f2 e.f3).length := rfl
        simp only [List.map_cons, List.flatten_cons, List.length_append, List.length_cons]
        omega
    rw [List.length_map]; omega)
  have e1 : script_All.f k x = some (evs, ((q : Nat) : Int), z) := by
    unfold script_All.f
    rw [show (0 : Int) = ((0 : Nat) : Int) from rfl, g1, List.nil_append, Nat.zero_add]
  have e2 : script_All.f k ((l.map put24).flatten ++ x) = some (l.map u27 ++ evs, (((l.map put24).flatten.length + q : Nat) : Int), z) := by
    have h := all_evs x hx l [] [] (k - l.length) hf (by omega) (by simp; omega) (by simp only [List.nil_append, List.length_append]; omega)
    rw [show k - l.length + l.length = k by omega] at h
    simp only [List.nil_append, List.length_nil, Nat.zero_add, Nat.add_zero] at h g2
    unfold script_All.f
    rw [show (0 : Int) = ((0 : Nat) : Int) from rfl, h, g2]
  rw [if_pos (by omega), e2, Option.bind_some, e1, Option.bind_some]
  dsimp only
  rw [if_pos (by simp only [List.length_append, List.length_map]; unfold wrap64; omega), if_pos (by unfold wrap64; omega), bne_self_eq_false]
  obtain ⟨k, rfl⟩ : ∃ j, k = j + 1 := ⟨k - 1, by omega⟩
  rw [pentroughlaw23_ScriptRows.j3, if_neg (by decide)]
  exact rows_cmp l evs (by omega) (l.length + evs.length) 0 k (by omega) (by omega)
theorem rows_loop (l : List S24) (x : List Int) (hl : l.length ≤ 20) (hlb : ∀ e ∈ l, Byt e.f3) (hx : Byt x) (hxl : x.length ≤ 200) : ∀ (d i k : Nat), i + d = l.length → 2 * d + 301 ≤ k → (∀ e ∈ l.take i, Fine24 e) →
    pentroughlaw23_ScriptRows.l0 k l x true ((l.take i).map put24).flatten i = some true := by
  intro d
  induction d with
  | zero =>
    intro i k hi hk hf
    obtain ⟨k, rfl⟩ : ∃ j, k = j + 1 := ⟨k - 1, by omega⟩
    rw [List.take_of_length_le (by omega)] at hf ⊢
    rw [pentroughlaw23_ScriptRows.l0, if_neg (by omega)]
    exact rows_end l x hl hx hxl hf k (by omega)
  | succ d ih =>
    intro i k hi hk hf
    obtain ⟨k, rfl⟩ : ∃ j, k = j + 2 := ⟨k - 2, by omega⟩
    have hin : i < l.length := by omega
    have e3 : wrap64 ((i : Int) + 1) = ((i + 1 : Nat) : Int) := by unfold wrap64; omega
    have hno : pentroughlaw23_ScriptRows.j2 (k + 1) l x true ((l.take i).map put24).flatten i true = some true := by rw [pentroughlaw23_ScriptRows.j2, if_pos rfl]
    rw [pentroughlaw23_ScriptRows.l0, if_pos (by omega), if_pos (by omega), rd24r l i hin]
    by_cases c3 : ((l[i]).f3.length : Int) > 300
    · rw [if_pos c3]; exact hno
    rw [if_neg c3]
    unfold pentroughlaw23_ours.f
    rw [Option.bind_some]
    dsimp only
    by_cases hfi : Fine l[i].f0 l[i].f1 l[i].f2 l[i].f3
    · rw [sane_yes hfi (k + 1) (by omega), Option.bind_some]
      have hfl := flat_len _ hf
      rw [List.length_take] at hfl
      have h1 := putE_len hfi
      have hf2 : ∀ e ∈ l.take (i + 1), Fine24 e := by
        rw [List.take_succ_eq_append_getElem hin]
        intro e he
        rcases List.mem_append.mp he with he | he
        · exact hf e he
        · obtain rfl := List.mem_singleton.mp he
          exact ⟨hfi, hlb _ (List.getElem_mem hin), by omega⟩
      rw [show (!true) = false from rfl, pentroughlaw23_ScriptRows.j2, if_neg (by decide), if_pos (by omega), if_pos (by omega), rd24r l i hin]
      unfold pentroughlaw23_ours.f
      rw [Option.bind_some]
      dsimp only
      rw [put_yes hfi k (by omega), Option.bind_some, if_pos (by omega), e3]
      have := ih (i + 1) k (by omega) (by omega) hf2
      rw [List.take_succ_eq_append_getElem hin, List.map_append, List.flatten_append] at this
      simpa [put24] using this
    · rw [sane_no hfi (k + 1) (by omega), Option.bind_some]
      exact hno
theorem Pure.ScriptRows (l : List S24) (x : List Int) (hl : l.length ≤ maxLen) (hlb : ∀ e ∈ l, (Lit.int .i64 e.f0).wf = true ∧ (Lit.int .i64 e.f1).wf = true ∧ (Lit.int .i64 e.f2).wf = true ∧ e.f3.length ≤ maxLen ∧ ∀ n ∈ e.f3, (Lit.int .u8 n).wf = true) (_ : x.length ≤ maxLen) (hxb : ∀ n ∈ x, (Lit.int .u8 n).wf = true) : ∃ k, pentroughlaw23_ScriptRows.f k l x = some true := by
  have hx := byt_of_wf hxb
  refine ⟨400, ?_⟩
  have hno : pentroughlaw23_ScriptRows.j0 400 l x true true = some true := by rw [pentroughlaw23_ScriptRows.j0, if_pos rfl]
  unfold pentroughlaw23_ScriptRows.f pentroughlaw23_awake.f
  rw [Option.bind_some]
  by_cases h5 : (l.length : Int) > 20
  · rw [if_pos h5]; exact hno
  rw [if_neg h5]
  by_cases h4 : (x.length : Int) > 200
  · rw [decide_eq_true h4]; exact hno
  rw [decide_eq_false h4, pentroughlaw23_ScriptRows.j0, if_neg (by decide)]
  exact rows_loop l x (by omega) (fun e he => byt_of_wf (hlb e he).2.2.2.2) hx (by omega) l.length 0 399 (by omega) (by omega) (by simp)
end Go.Proofs.Ytdnglfodlhhikaa.Q
