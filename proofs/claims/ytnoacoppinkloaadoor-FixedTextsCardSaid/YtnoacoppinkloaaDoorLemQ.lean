/- Plain lemmas: numerals, Parse gives back what Print wrote. -/
import Derived.Test.YtnoacoppinkloaaDoorLemP
namespace Go.Proofs.YtnoacoppinkloaaDoor.Pr
open Go.RowKit Go.Proofs.YtnoacoppinkloaaDoorW.PrintWords Go.Proofs.YtnoacoppinkloaaDoorW.PrintLast Go.Proofs.YtnoacoppinkloaaDoorW.PrintMore
set_option linter.unusedVariables false
set_option linter.unusedSimpArgs false
/-! ### The numeral -/
theorem dig_byte (d : Nat) (h : d < 10) : (UInt8.ofNat (48 + d)).toNat = 48 + d := by
  rw [UInt8.toNat_ofNat']
  omega
theorem dig_is (d : Nat) (h : d < 10) : decide (isDig (UInt8.ofNat (48 + d))) = true := by
  rw [decide_eq_true_eq]; unfold isDig; rw [dig_byte d h]; omega
theorem valFrom_append (a b : List UInt8) (acc : Nat) : valFrom acc (a ++ b) = valFrom (valFrom acc a) b := by
  unfold valFrom; rw [List.foldl_append]
theorem decDigits_dig (u : Nat) : allDig (Lib.decDigits u) = true ∧ valFrom 0 (Lib.decDigits u) = u := by
  induction u using Nat.strongRecOn with
  | _ u ih =>
    rw [Lib.decDigits]
    by_cases h : u < 10
    · rw [dif_pos h]
      refine ⟨?_, ?_⟩
      · show (decide (isDig (UInt8.ofNat (48 + u))) && true) = true
        rw [Bool.and_true, dig_is u h]
      · show 0 * 10 + ((UInt8.ofNat (48 + u)).toNat - 48) = u
        rw [dig_byte u h]; omega
    · rw [dif_neg h]
      obtain ⟨i1, i2⟩ := ih (u / 10) (by omega)
      refine ⟨?_, ?_⟩
      · unfold allDig at *
        rw [List.all_append, i1, Bool.true_and]
        show (decide (isDig (UInt8.ofNat (48 + u % 10))) && true) = true
        rw [Bool.and_true, dig_is _ (by omega)]
      · rw [valFrom_append, i2]
        show u / 10 * 10 + ((UInt8.ofNat (48 + u % 10)).toNat - 48) = u
        rw [dig_byte _ (by omega)]; omega
theorem decDigits_head (u : Nat) (h : 1 ≤ u) : headOr (Lib.decDigits u) ≠ 48 := by
  induction u using Nat.strongRecOn with
  | _ u ih =>
    rw [Lib.decDigits]
    by_cases c : u < 10
    · rw [dif_pos c]
      show ((UInt8.ofNat (48 + u)).toNat : Int) ≠ 48
      rw [dig_byte u c]; omega
    · rw [dif_neg c]
      have i := ih (u / 10) (by omega) (by omega)
      have hn : 1 ≤ (Lib.decDigits (u / 10)).length := by rw [Lib.decDigits_length]; exact Lib.nDigits_pos _
      generalize Lib.decDigits (u / 10) = D at *
      match D, hn, i with
      | x :: r, _, i => exact i
theorem nDigits_bound : ∀ (k u : Nat), u < 10 ^ (k + 1) → Lib.nDigits u ≤ k + 1
  | 0, u, h => by rw [Lib.nDigits_small (by simpa using h)]; omega
  | k + 1, u, h => by
    by_cases c : u < 10
    · rw [Lib.nDigits_small c]; omega
    · rw [Lib.nDigits_big c]
      have := nDigits_bound k (u / 10) (by rw [Nat.pow_succ] at h; omega)
      omega
theorem indexByte_point (W R : List UInt8) (h : allDig W = true) : Lib.indexByte (W ++ 46 :: R) 46 = (W.length : Int) := by
  induction W with
  | nil => rfl
  | cons c W ih =>
    simp only [allDig, List.all_cons, Bool.and_eq_true, decide_eq_true_eq] at h
    have i := ih h.2
    have hc : (c == 46) = false := by
      rw [beq_eq_false_iff_ne]
      intro e
      have h1 := h.1.1
      rw [e] at h1
      exact absurd h1 (by decide)
    show (if (c == 46) = true then (0 : Int) else if (Lib.indexByte (W ++ 46 :: R) 46 == -1) = true then -1 else Lib.indexByte (W ++ 46 :: R) 46 + 1) = ((c :: W).length : Int)
    rw [hc, i, if_neg (by decide), if_neg (by rw [beq_iff_eq]; omega), List.length_cons]
    omega
def threeOf (r : Nat) : List UInt8 := [UInt8.ofNat (48 + r / 100), UInt8.ofNat (48 + r / 10 % 10), UInt8.ofNat (48 + r % 10)]
theorem decimals (r : Nat) (h : r < 1000) : (Lib.decDigits (1000 + r)).drop 1 = threeOf r := by
  have e1 : Lib.decDigits (1000 + r) = Lib.decDigits (100 + r / 10) ++ [UInt8.ofNat (48 + r % 10)] := by
    rw [Lib.decDigits, dif_neg (by omega), show (1000 + r) / 10 = 100 + r / 10 by omega, show (1000 + r) % 10 = r % 10 by omega]
  have e2 : Lib.decDigits (100 + r / 10) = Lib.decDigits (10 + r / 100) ++ [UInt8.ofNat (48 + r / 10 % 10)] := by
    rw [Lib.decDigits, dif_neg (by omega), show (100 + r / 10) / 10 = 10 + r / 100 by omega, show (100 + r / 10) % 10 = r / 10 % 10 by omega]
  have e3 : Lib.decDigits (10 + r / 100) = Lib.decDigits 1 ++ [UInt8.ofNat (48 + r / 100)] := by
    rw [Lib.decDigits, dif_neg (by omega), show (10 + r / 100) / 10 = 1 by omega, show (10 + r / 100) % 10 = r / 100 by omega]
  rw [e1, e2, e3, Lib.decDigits_one (by omega)]
  rfl
theorem three_dig (r : Nat) (h : r < 1000) : allDig (threeOf r) = true := by
  show (decide (isDig (UInt8.ofNat (48 + r / 100))) && (decide (isDig (UInt8.ofNat (48 + r / 10 % 10))) && (decide (isDig (UInt8.ofNat (48 + r % 10))) && true))) = true
  rw [dig_is _ (by omega), dig_is _ (by omega), dig_is _ (by omega)]
  rfl
theorem three_val (r : Nat) (h : r < 1000) (acc : Nat) : valFrom acc (threeOf r) = acc * 1000 + r := by
  show ((acc * 10 + ((UInt8.ofNat (48 + r / 100)).toNat - 48)) * 10 + ((UInt8.ofNat (48 + r / 10 % 10)).toNat - 48)) * 10 + ((UInt8.ofNat (48 + r % 10)).toNat - 48) = acc * 1000 + r
  rw [dig_byte _ (by omega), dig_byte _ (by omega), dig_byte _ (by omega)]
  omega

/-! ### Parse gives back what Print wrote -/
theorem whole_point (W R : List UInt8) (h : allDig W = true) : wholeOf (W ++ 46 :: R) = W ∧ restOf (W ++ 46 :: R) = R ∧ pointOf (W ++ 46 :: R) = true := by
  have hi := indexByte_point W R h
  unfold wholeOf restOf pointOf
  rw [hi, if_pos (by omega), if_pos (by omega), Int.toNat_natCast]
  refine ⟨List.take_left' rfl, ?_, decide_eq_true (by omega)⟩
  rw [show W ++ 46 :: R = (W ++ [46]) ++ R by simp]
  exact List.drop_left' (by simp)
theorem neg_cons (l : List UInt8) : negOf (45 :: l) = true ∧ bodyOf (45 :: l) = l := by
  have h : Lib.hasPrefix (45 :: l) [45] = true := by simp [Lib.hasPrefix, List.isPrefixOf]
  refine ⟨h, ?_⟩
  unfold bodyOf Lib.trimPrefix
  rw [if_pos h]
  rfl
theorem pos_cons (c : UInt8) (l : List UInt8) (hc : isDig c) : negOf (c :: l) = false ∧ bodyOf (c :: l) = c :: l := by
  have h : Lib.hasPrefix (c :: l) [45] = false := by
    have : ((45 : UInt8) == c) = false := by
      rw [beq_eq_false_iff_ne]
      intro e
      have h1 := hc.1
      rw [← e] at h1
      exact absurd h1 (by decide)
    simp [Lib.hasPrefix, List.isPrefixOf, this]
  refine ⟨h, ?_⟩
  unfold bodyOf Lib.trimPrefix
  rw [if_neg (by rw [h]; decide)]
theorem parse_print (x : Int) : parseOf (printOf x) = if -9999999999999 ≤ x ∧ x ≤ 9999999999999 then (x, 0) else (0, 3) := by
  unfold printOf
  generalize hm : x.natAbs = m
  have hr : m % 1000 < 1000 := Nat.mod_lt _ (by decide)
  rw [decimals _ hr]
  have r1 := three_dig _ hr
  have r2 : (threeOf (m % 1000)).length = 3 := rfl
  have r3 := three_val _ hr
  obtain ⟨w1, w2⟩ := decDigits_dig (m / 1000)
  have w3 := Lib.decDigits_length (m / 1000)
  have w4 := Lib.nDigits_pos (m / 1000)
  have w6 : m / 1000 < 10 ^ 10 → Lib.nDigits (m / 1000) ≤ 10 := nDigits_bound 9 _
  have w7 : 1 < Lib.nDigits (m / 1000) → headOr (Lib.decDigits (m / 1000)) ≠ 48 := fun h => decDigits_head _ (by
    rcases Nat.lt_or_ge (m / 1000) 10 with c | c
    · rw [Lib.nDigits_small c] at h; omega
    · omega)
  have w8 : Lib.nDigits (m / 1000) ≤ 10 → m / 1000 < 10 ^ 10 := fun h => Nat.lt_of_lt_of_le (Lib.lt_pow_nDigits _) (Nat.pow_le_pow_right (by decide) h)
  rw [← w3] at w4 w6 w7 w8
  have e10 : (10 : Nat) ^ 10 = 10000000000 := by decide
  rw [e10] at w6 w8
  generalize Lib.decDigits (m / 1000) = W at *
  generalize threeOf (m % 1000) = R at *
  rw [show W ++ [46] ++ R = W ++ 46 :: R by simp]
  obtain ⟨p1, p2, p3⟩ := whole_point W R w1
  have hform : formOk (W ++ 46 :: R) = decide (W.length ≤ 10) := by
    unfold formOk
    rw [p1, p2, p3, w1, r1, r2, decide_eq_true (show 1 ≤ W.length from w4)]
    by_cases c : 1 < W.length
    · rw [decide_eq_false (w7 c)]; simp
    · rw [decide_eq_false c]; simp
  have hnum : numOf (W ++ 46 :: R) = (m : Int) := by
    unfold numOf
    have hp : padTo3 R = R := by unfold padTo3; rw [r2]; simp
    rw [p1, p2, hp, valFrom_append, r3, w2]
    omega
  have hsign : negOf ((if x < 0 then [45] else []) ++ (W ++ 46 :: R)) = decide (x < 0) ∧ bodyOf ((if x < 0 then [45] else []) ++ (W ++ 46 :: R)) = W ++ 46 :: R := by
    by_cases c : x < 0
    · rw [if_pos c, decide_eq_true c]
      exact neg_cons _
    · rw [if_neg c, decide_eq_false c, List.nil_append]
      clear hform hnum p1 p2 p3 w2 w3 w6 w7 w8
      match W, w1, w4 with
      | d :: W, w1, _ =>
        simp only [allDig, List.all_cons, Bool.and_eq_true, decide_eq_true_eq] at w1
        exact pos_cons d _ w1.1
  unfold parseOf
  rw [hsign.1, hsign.2, hform, hnum]
  by_cases c : W.length ≤ 10
  · have h1 := w8 c
    rw [decide_eq_true c, if_pos rfl, if_pos (show -9999999999999 ≤ x ∧ x ≤ 9999999999999 by omega)]
    by_cases cx : x < 0
    · rw [decide_eq_true cx, if_pos rfl, if_neg (by omega), show -(m : Int) = x by omega]
    · rw [decide_eq_false cx, if_neg (by decide), show (m : Int) = x by omega]
  · have h1 : ¬ m / 1000 < 10000000000 := fun h => c (w6 h)
    rw [decide_eq_false c, if_neg (by decide), if_neg (by omega)]
theorem print_length (x : Int) (h : -9223372036854775808 ≤ x ∧ x ≤ 9223372036854775807) : (printOf x).length ≤ 900 := by
  unfold printOf
  have h1 := nDigits_le (u := x.natAbs / 1000) (by omega)
  have h2 := nDigits_le (u := 1000 + x.natAbs % 1000) (by omega)
  rw [← Lib.decDigits_length] at h1 h2
  rw [List.length_append, List.length_append, List.length_append, List.length_drop]
  have : (if x < 0 then [45] else [] : List UInt8).length ≤ 1 := by split <;> simp
  simp only [List.length_cons, List.length_nil]
  omega
end Go.Proofs.YtnoacoppinkloaaDoor.Pr
