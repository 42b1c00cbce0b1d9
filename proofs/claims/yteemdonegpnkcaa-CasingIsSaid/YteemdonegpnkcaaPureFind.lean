/- The document's table, read: the plain part. -/
import Derived.Test.YteemdonegpnkcaaQ4
import Derived.Test.YteemdonegpnkcaaQ3
import Derived.Test.YteemdonegpnkcaaPureCasingOnce
namespace Go.Proofs.Yteemdonegpnkcaa.Pure
open Go.RowKit Go.Proofs.Yteemdonegpnkcaa.Q Go.Proofs.YteemdonegpnkcaaW.PrintWords Go.Proofs.YteemdonegpnkcaaW.PrintLast
set_option linter.unusedVariables false

def digitV (a : Int) : Int := if a ≥ 65 then wrap64 (wrap64 (wrap64 a - 65) + 10) else wrap64 (wrap64 a - 48)
theorem Digit_val (a : Int) : pentroughref04_Digit.f a = some (digitV a) := by
  unfold pentroughref04_Digit.f digitV
  split <;> rfl
/-- The rows of a table, whatever is sought. -/
def parse : List Int → List Int → Int → List (List Int)
  | [], _, _ => []
  | c :: t, acc, cur => if c = 61 ∨ c = 44 then parse t (acc ++ [cur]) 0 else if c = 32 then (acc ++ [cur]) :: parse t [] 0 else parse t acc (wrap64 (wrap64 (cur * 16) + digitV c))
def findR (a : Int) : List (List Int) → List Int × Bool
  | [] => ([], false)
  | y :: t => if rd y 0 = a then (y.drop 1, true) else findR a t
theorem find_loop (s : ByteArray) (bs : List Int) (hn : bs.length = s.size) (hb : ∀ i (h : i < bs.length), bt s (i : Int) = bs[i]) (hl : bs.length ≤ 100000) (a : Int) : ∀ (d i k : Nat) (acc : List Int) (cur : Int), i + d = bs.length → acc.length ≤ i → 2 * d < k → pentroughref04_Find.l0 k s a acc cur i = some (findR a (parse (bs.drop i) acc cur)) := by
  intro d
  induction d with
  | zero =>
    intro i k acc cur hi ha hk
    obtain ⟨k, rfl⟩ : ∃ j, k = j + 1 := ⟨k - 1, by omega⟩
    rw [pentroughref04_Find.l0, if_neg (by omega), List.drop_eq_nil_of_le (by omega)]
    rfl
  | succ d ih =>
    intro i k acc cur hi ha hk
    obtain ⟨k, rfl⟩ : ∃ j, k = j + 2 := ⟨k - 2, by omega⟩
    have h : i < bs.length := by omega
    have e3 : wrap64 ((i : Int) + 1) = ((i + 1 : Nat) : Int) := by unfold wrap64; omega
    have hc := hb i h
    have hy : (acc ++ [cur]).length = acc.length + 1 := by simp
    rw [pentroughref04_Find.l0, if_pos (by omega), if_pos (by omega), hc, List.drop_eq_getElem_cons h, parse]
    generalize bs[i] = c at *
    by_cases c1 : c = 61 ∨ c = 44
    · rw [if_pos c1]
      have hj : ∀ b : Bool, b = true → pentroughref04_Find.j1 (k + 1) s a acc cur i c b = some (findR a (parse (bs.drop (i + 1)) (acc ++ [cur]) 0)) := by
        intro b hb'
        rw [pentroughref04_Find.j1, if_pos hb', if_pos (by omega), e3]
        exact ih (i + 1) k _ _ (by omega) (by omega) (by omega)
      by_cases c2 : c = 61
      · rw [if_pos c2]; exact hj _ (by simp [c2])
      · rw [if_neg c2]; exact hj _ (by simp; omega)
    · rw [if_neg c1]
      have b1 : (c == 44) = false := beq_eq_false_iff_ne.mpr (fun e => c1 (Or.inr e))
      rw [if_neg (fun e => c1 (Or.inl e)), b1, pentroughref04_Find.j1, if_neg (by decide)]
      by_cases c3 : c = 32
      · rw [if_pos c3, if_pos c3, if_pos (by omega), Option.bind_some, if_pos (by omega), findR]
        by_cases c4 : rd (acc ++ [cur]) 0 = a
        · rw [if_pos c4, if_pos c4, if_pos (by omega)]
          rfl
        · rw [if_neg c4, if_neg c4, e3]
          exact ih (i + 1) k _ _ (by omega) (by simp) (by omega)
      · rw [if_neg c3, if_neg c3, if_pos (by omega), if_pos (by omega), hc, Digit_val, Option.bind_some, e3]
        exact ih (i + 1) k _ _ (by omega) (by omega) (by omega)
def tb : ByteArray := (pentroughref06_table.f).getD ByteArray.empty
theorem table_val : pentroughref06_table.f = some tb := rfl
def tbs : List Int := tb.data.toList.map fun b => (b.toNat : Int)
def rowsL : List (List Int) := [[65, 97], [66, 98], [67, 99], [68, 100], [69, 101], [70, 102], [71, 103], [72, 104], [73, 105], [74, 106], [75, 107], [76, 108], [77, 109], [78, 110], [79, 111], [80, 112], [81, 113], [82, 114], [83, 115], [84, 116], [85, 117], [86, 118], [87, 119], [88, 120], [89, 121], [90, 122], [181, 956], [192, 224], [193, 225], [194, 226], [195, 227], [196, 228], [197, 229], [198, 230], [199, 231], [200, 232], [201, 233], [202, 234], [203, 235], [204, 236], [205, 237], [206, 238], [207, 239], [208, 240], [209, 241], [210, 242], [211, 243], [212, 244], [213, 245], [214, 246], [216, 248], [217, 249], [218, 250], [219, 251], [220, 252], [221, 253], [222, 254], [223, 115, 115], [256, 257], [258, 259], [260, 261], [262, 263], [264, 265], [266, 267], [268, 269], [270, 271], [272, 273], [274, 275], [276, 277], [278, 279], [280, 281], [282, 283], [284, 285], [286, 287], [288, 289], [290, 291], [292, 293], [294, 295], [296, 297], [298, 299], [300, 301], [302, 303], [304, 105, 775], [306, 307], [308, 309], [310, 311], [313, 314], [315, 316], [317, 318], [319, 320], [321, 322], [323, 324], [325, 326], [327, 328], [329, 700, 110], [330, 331], [332, 333], [334, 335], [336, 337], [338, 339], [340, 341], [342, 343], [344, 345], [346, 347], [348, 349], [350, 351], [352, 353], [354, 355], [356, 357], [358, 359], [360, 361], [362, 363], [364, 365], [366, 367], [368, 369], [370, 371], [372, 373], [374, 375], [376, 255], [377, 378], [379, 380], [381, 382], [383, 115], [416, 417], [418, 419], [420, 421], [422, 640], [423, 424], [425, 643], [428, 429], [430, 648], [431, 432], [837, 953], [902, 940], [904, 941], [905, 942], [906, 943], [908, 972], [910, 973], [911, 974], [912, 953, 776, 769], [913, 945], [914, 946], [915, 947], [916, 948], [917, 949], [918, 950], [919, 951], [920, 952], [921, 953], [922, 954], [923, 955], [924, 956], [925, 957], [926, 958], [927, 959], [928, 960], [929, 961], [931, 963], [932, 964], [933, 965], [934, 966], [935, 967], [936, 968], [937, 969], [938, 970], [939, 971], [944, 965, 776, 769], [962, 963], [7840, 7841], [7842, 7843], [7844, 7845], [7846, 7847], [7848, 7849], [7850, 7851], [7852, 7853], [7854, 7855], [7856, 7857], [7858, 7859], [7860, 7861], [7862, 7863], [7864, 7865], [7866, 7867], [7868, 7869], [7870, 7871], [7872, 7873], [7874, 7875], [7876, 7877], [7878, 7879], [7880, 7881], [7882, 7883], [7884, 7885], [7886, 7887], [7888, 7889], [7890, 7891], [7892, 7893], [7894, 7895], [7896, 7897], [7898, 7899], [7900, 7901], [7902, 7903], [7904, 7905], [7906, 7907], [7908, 7909], [7910, 7911], [7912, 7913], [7914, 7915], [7916, 7917], [7918, 7919], [7920, 7921], [7922, 7923], [7924, 7925], [7926, 7927], [7928, 7929]]
theorem tbs_len : tbs.length = 2175 := by decide +kernel
theorem tb_size : tb.size = 2175 := by decide +kernel
theorem tab_is : parse tbs [] 0 = rowsL := by decide +kernel
theorem bytes_at (s : ByteArray) (i : Nat) (h : i < (s.data.toList.map fun b => (b.toNat : Int)).length) : bt s (i : Int) = (s.data.toList.map fun b => (b.toNat : Int))[i] := by
  have hs : i < s.size := by rw [List.length_map, Array.length_toList] at h; exact h
  rw [List.getElem_map]
  unfold bt
  rw [dif_pos (by simpa using hs)]
  rfl
theorem tbs_at (i : Nat) (h : i < tbs.length) : bt tb (i : Int) = tbs[i] := bytes_at tb i h
theorem findR_far (a : Int) : ∀ L : List (List Int), (∀ y ∈ L, rd y 0 ≠ a) → findR a L = ([], false)
  | [], _ => rfl
  | y :: t, h => by
    rw [findR, if_neg (h y List.mem_cons_self)]
    exact findR_far a t (fun z hz => h z (List.mem_cons_of_mem _ hz))
def refV (a : Int) : List Int := if (findR a rowsL).2 = true then (findR a rowsL).1 else [a]
theorem ref0 : (List.range 250).all (fun n => decide (refV (n : Int) = foldV (n : Int))) = true := by decide +kernel
theorem ref1 : (List.range 250).all (fun n => decide (refV ((250 + n : Nat) : Int) = foldV ((250 + n : Nat) : Int))) = true := by decide +kernel
theorem ref2 : (List.range 250).all (fun n => decide (refV ((500 + n : Nat) : Int) = foldV ((500 + n : Nat) : Int))) = true := by decide +kernel
theorem ref3 : (List.range 250).all (fun n => decide (refV ((750 + n : Nat) : Int) = foldV ((750 + n : Nat) : Int))) = true := by decide +kernel
theorem ref4 : (List.range 160).all (fun n => decide (refV ((7800 + n : Nat) : Int) = foldV ((7800 + n : Nat) : Int))) = true := by decide +kernel
theorem rows_near : ∀ y ∈ rowsL, (0 ≤ rd y 0 ∧ rd y 0 < 1000) ∨ (7800 ≤ rd y 0 ∧ rd y 0 < 7960) := by decide +kernel
theorem ref_is (a : Int) : refV a = foldV a := by
  by_cases h : Far a
  · rw [fold_far a h]
    unfold refV
    rw [findR_far a rowsL (fun y hy e => by have := rows_near y hy; unfold Far at h; omega), if_neg (by decide)]
  · obtain ⟨n, rfl⟩ : ∃ n : Nat, a = n := ⟨a.toNat, by unfold Far at h; omega⟩
    unfold Far at h
    by_cases h0 : n < 250
    · exact of_decide_eq_true (List.all_eq_true.1 ref0 n (List.mem_range.2 h0))
    by_cases h1 : n < 500
    · have := of_decide_eq_true (List.all_eq_true.1 ref1 (n - 250) (List.mem_range.2 (by omega)))
      rwa [show 250 + (n - 250) = n from by omega] at this
    by_cases h2 : n < 750
    · have := of_decide_eq_true (List.all_eq_true.1 ref2 (n - 500) (List.mem_range.2 (by omega)))
      rwa [show 500 + (n - 500) = n from by omega] at this
    by_cases h3 : n < 1000
    · have := of_decide_eq_true (List.all_eq_true.1 ref3 (n - 750) (List.mem_range.2 (by omega)))
      rwa [show 750 + (n - 750) = n from by omega] at this
    · have := of_decide_eq_true (List.all_eq_true.1 ref4 (n - 7800) (List.mem_range.2 (by omega)))
      rwa [show 7800 + (n - 7800) = n from by omega] at this
theorem refFold_val (a : Int) (k : Nat) (hk : 5000 < k) : pentroughref06_Fold.f k a = some (foldV a) := by
  unfold pentroughref06_Fold.f pentroughref04_Find.f
  rw [table_val, Option.bind_some]
  have := find_loop tb tbs (by rw [tbs_len, tb_size]) tbs_at (by rw [tbs_len]; omega) a 2175 0 k [] 0 (by rw [tbs_len]) (by simp) (by omega)
  rw [List.drop_zero, tab_is] at this
  rw [show ((0 : Nat) : Int) = 0 from rfl] at this
  rw [this, Option.bind_some, ← ref_is]
  unfold refV
  split <;> rfl
end Go.Proofs.Yteemdonegpnkcaa.Pure
