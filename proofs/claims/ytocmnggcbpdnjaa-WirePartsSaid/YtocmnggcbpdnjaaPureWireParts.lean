/- Read in two parts it is read as at once; so it is with what is written: the plain law. -/
import Derived.Test.YtocmnggcbpdnjaaPureFew
import Derived.Test.YtocmnggcbpdnjaaQ8
namespace Go.Proofs.Ytocmnggcbpdnjaa.Q
open Go.RowKit Go.Proofs.YtocmnggcbpdnjaaW.PrintWords Go.Proofs.YtocmnggcbpdnjaaW.PrintMore
set_option linter.unusedVariables false
set_option linter.unusedSimpArgs false
theorem take_two (l : List Int) (i j : Nat) : l.take i ++ (l.drop i).take j = l.take (i + j) := (List.take_add).symm
theorem parts_j2 (k : Nat) (l : List Int) (b : Bool) (a : Int) (o x : List Int) (q : Nat) (hk : okW l a = true) (hx : x.length ≤ 5000) (ho : o.length ≤ 1000) (hq : q ≤ x.length) :
    pentroughlaw19_WireParts.j2 (k + 1) x true (q : Int) l b a o = some true := by
  have hl := (okW_iff l a).1 hk
  have hlt : (x.take q).length = q := by rw [List.length_take]; omega
  have hld : (x.drop q).length = x.length - q := List.length_drop
  obtain ⟨m, hm⟩ : ∃ m : Nat, a = (m : Int) := ⟨a.toNat, by omega⟩
  have hn1 : wrN a (x.take q) = min q m := by unfold wrN; rw [hlt]; omega
  have hk2 : okW l (a - (min q m : Nat)) = true := (okW_iff _ _).2 ⟨hl.1, by omega, by omega⟩
  have hn2 : wrN (a - (min q m : Nat)) (x.drop q) = min (x.length - q) (m - min q m) := by unfold wrN; rw [hld]; omega
  have hn3 : wrN a x = min x.length m := by unfold wrN; omega
  have e1 := write_ok (b := b) (o := o) hk (x.take q) (by omega) (by omega)
  rw [hn1] at e1
  have e2 := write_ok (b := b) (o := o ++ (x.take q).take (min q m)) hk2 (x.drop q) (by omega) (by rw [List.length_append, List.length_take]; omega)
  rw [hn2] at e2
  have e3 := write_ok (b := b) (o := o) hk x (by omega) (by omega)
  rw [hn3] at e3
  have ht : (x.take q).take (min q m) = x.take (min q m) := by rw [List.take_take]; congr 1; omega
  rw [ht] at e1 e2
  rw [pentroughlaw19_WireParts.j2]
  unfold pentroughlaw19_ours.f
  rw [Option.bind_some, if_pos (by omega), if_pos (by omega), Int.toNat_natCast]
  dsimp only
  rw [e1, Option.bind_some]
  dsimp only
  rw [e2, Option.bind_some, Option.bind_some]
  dsimp only
  rw [e3, Option.bind_some]
  dsimp only
  by_cases c : ((min q m : Nat) : Int) < (q : Int)
  · rw [if_pos c, if_pos rfl, if_pos (by omega), if_pos (by omega), show min x.length m = min q m by omega, beq_self_eq_true]
  · rw [if_neg c, if_pos rfl, if_pos (by unfold wrap64; omega)]
    have hqm : min q m = q := by omega
    have hs : (o ++ x.take (min q m)) ++ (x.drop q).take (min (x.length - q) (m - min q m)) = o ++ x.take (min x.length m) := by
      rw [hqm, List.append_assoc, take_two, show q + min (x.length - q) (m - q) = min x.length m by omega]
    rw [hs, if_pos rfl]
    rw [show a - ((min q m : Nat) : Int) - ((min (x.length - q) (m - min q m) : Nat) : Int) = a - ((min x.length m : Nat) : Int) by omega, beq_self_eq_true]
theorem Pure.WireParts (l : List Int) (b : Bool) (a : Int) (o : List Int) (x : List Int) (n m : Int) (_ : l.length ≤ maxLen) (_ : ∀ n ∈ l, (Lit.int .u8 n).wf = true) (_ : (Lit.int .i64 a).wf = true) (_ : o.length ≤ maxLen) (_ : ∀ n ∈ o, (Lit.int .u8 n).wf = true) (_ : x.length ≤ maxLen) (_ : ∀ n ∈ x, (Lit.int .u8 n).wf = true) (hn : (Lit.int .i64 n).wf = true) (hm : (Lit.int .i64 m).wf = true) : ∃ k, pentroughlaw19_WireParts.f k l b a o x n m = some true := by
  refine ⟨3, ?_⟩
  unfold pentroughlaw19_WireParts.f
  have hno : pentroughlaw19_WireParts.j0 3 x n m true true l b a o = some true := by simp only [pentroughlaw19_WireParts.j0, if_true]
  unfold pentroughlaw19_awake.f
  rw [Option.bind_some]
  unfold pentroughref19_Few.f
  by_cases c1 : (l.length : Int) ≤ 5000
  · rw [if_pos c1, Option.bind_some]
    by_cases c2 : (o.length : Int) ≤ 1000
    · rw [if_pos (decide_eq_true c2)]
      by_cases c3 : (x.length : Int) > 5000
      · rw [if_pos c3]; exact hno
      · rw [if_neg c3]
        unfold pentroughlaw19_ours.f
        rw [Option.bind_some]
        dsimp only
        rw [Sane_val, Option.bind_some]
        by_cases hk : okW l a = true
        · rw [if_pos hk]
          by_cases d1 : n < 0
          · rw [if_pos d1]; exact hno
          rw [if_neg d1]
          by_cases d2 : n > 4096
          · rw [if_pos d2]; exact hno
          rw [if_neg d2]
          by_cases d3 : m < 0
          · rw [if_pos d3]; exact hno
          rw [if_neg d3]
          by_cases d4 : m > 4096
          · rw [decide_eq_true d4]; exact hno
          rw [decide_eq_false d4]
          have hl := (okW_iff l a).1 hk
          obtain ⟨i, rfl⟩ : ∃ i : Nat, n = (i : Int) := ⟨n.toNat, by omega⟩
          obtain ⟨j, rfl⟩ : ∃ j : Nat, m = (j : Int) := ⟨m.toNat, by omega⟩
          have hw : wrap64 ((i : Int) + (j : Int)) = ((i + j : Nat) : Int) := by unfold wrap64; omega
          have r1 : rdN l i = min l.length i := by unfold rdN; omega
          have r2 : rdN (l.drop (min l.length i)) j = min (l.length - min l.length i) j := by unfold rdN; rw [List.length_drop]; omega
          have r3 : rdN l ((i + j : Nat) : Int) = min l.length (i + j) := by unfold rdN; omega
          rw [pentroughlaw19_WireParts.j0, if_neg (by decide)]
          unfold pentroughlaw19_ours.f
          rw [Option.bind_some]
          dsimp only
          rw [read_ok hk, r1, Option.bind_some]
          dsimp only
          rw [read_ok (ok_drop hk _), r2, Option.bind_some, Option.bind_some]
          dsimp only
          rw [hw, read_ok hk, r3, Option.bind_some]
          dsimp only
          have h3 : min l.length i + min (l.length - min l.length i) j = min l.length (i + j) := by omega
          rw [if_pos (by rw [str_sz, str_sz, List.length_take, List.length_take, List.length_drop]; omega), if_pos (by rw [str_app, take_two, h3])]
          rw [List.drop_drop, h3]
          have hj1 : pentroughlaw19_WireParts.j1 2 x (i : Int) true false l b a o = some true := by
            rw [pentroughlaw19_WireParts.j1, if_neg (by decide)]
            by_cases e : (x.length : Int) > (i : Int)
            · rw [if_pos e]; exact parts_j2 0 l b a o x i hk (by omega) (by omega) (by omega)
            · rw [if_neg e]; exact parts_j2 0 l b a o x x.length hk (by omega) (by omega) (Nat.le_refl _)
          rw [show ((strOfNums (List.drop (min l.length (i + j)) l)).toList != (strOfNums (List.drop (min l.length (i + j)) l)).toList) = false by simp]
          exact hj1
        · rw [if_neg hk]; exact hno
    · rw [if_neg (by simpa using c2)]; exact hno
  · rw [if_neg c1, Option.bind_some, if_neg (by decide)]; exact hno
end Go.Proofs.Ytocmnggcbpdnjaa.Q
