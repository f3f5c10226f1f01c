/- Plain lemmas: the reference's digits and value, the form of a number. -/
import Derived.Test.YtnoacoppinkloaaDoorLemQ
import Derived.Test.YtnoacoppinkloaaDoorPr21
namespace Go.Proofs.YtnoacoppinkloaaDoor.Pr
open Go.RowKit Go.Proofs.YtnoacoppinkloaaDoorW.PrintWords Go.Proofs.YtnoacoppinkloaaDoorW.PrintLast Go.Proofs.YtnoacoppinkloaaDoorW.PrintMore
set_option linter.unusedVariables false
set_option linter.unusedSimpArgs false
/-! ### The reference's digits and value -/
theorem split_digits (l : List UInt8) : ∃ D T, l = D ++ T ∧ allDig D = true ∧ (T = [] ∨ ∃ c R, T = c :: R ∧ ¬ isDig c) := by
  induction l with
  | nil => exact ⟨[], [], rfl, rfl, Or.inl rfl⟩
  | cons c l ih =>
    by_cases h : isDig c
    · obtain ⟨D, T, e, hD, hT⟩ := ih
      refine ⟨c :: D, T, by rw [e]; rfl, ?_, hT⟩
      show (decide (isDig c) && allDig D) = true
      rw [hD, decide_eq_true h]
      rfl
    · exact ⟨[], c :: l, rfl, rfl, Or.inr ⟨c, l, rfl, h⟩⟩
theorem dig_at {D : List UInt8} (h : allDig D = true) (i : Nat) (hi : i < D.length) : isDig D[i] := by
  unfold allDig at h
  rw [List.all_eq_true] at h
  exact of_decide_eq_true (h _ (List.getElem_mem hi))
theorem ref_digits_l0 (D T : List UInt8) (hD : allDig D = true) (hT : T = [] ∨ ∃ c R, T = c :: R ∧ ¬ isDig c) (hl : (D ++ T).length ≤ 1000) : ∀ (d i k : Nat), i + d = D.length → d < k →
    skiarearef01_digits.l0 k ⟨(D ++ T).toArray⟩ (i : Int) = some (D.length : Int) := by
  intro d
  induction d with
  | zero =>
    intro i k hi hk
    obtain ⟨k, rfl⟩ : ∃ m, k = m + 1 := ⟨k - 1, by omega⟩
    obtain rfl : i = D.length := by omega
    simp only [skiarearef01_digits.l0, size_list]
    rcases hT with rfl | ⟨c, R, rfl, hc⟩
    · rw [if_neg (by simp)]
    · have hlt : D.length < (D ++ c :: R).length := by simp
      have hb := bt_list (D ++ c :: R) D.length hlt
      have hg : (D ++ c :: R)[D.length] = c := by simp
      rw [hg] at hb
      rw [if_pos (by omega), if_pos (by omega), hb]
      unfold isDig at hc
      by_cases c1 : ((c.toNat : Nat) : Int) ≥ 48
      · rw [if_pos c1, if_neg (by omega)]
      · rw [if_neg c1]
  | succ d ih =>
    intro i k hi hk
    obtain ⟨k, rfl⟩ : ∃ m, k = m + 1 := ⟨k - 1, by omega⟩
    have hlt : i < (D ++ T).length := by rw [List.length_append]; omega
    have hb := bt_list (D ++ T) i hlt
    have hg : (D ++ T)[i] = D[i] := List.getElem_append_left (by omega)
    rw [hg] at hb
    obtain ⟨d0, d1⟩ := dig_at hD i (by omega)
    simp only [skiarearef01_digits.l0, size_list]
    rw [if_pos (by omega), if_pos (by omega), hb, if_pos (by omega), if_pos (by omega), w64 (by omega) (by omega)]
    exact ih (i + 1) k (by omega) (by omega)
theorem ref_digits_eq (D T : List UInt8) (hD : allDig D = true) (hT : T = [] ∨ ∃ c R, T = c :: R ∧ ¬ isDig c) (hl : (D ++ T).length ≤ 1000) (k : Nat) (hk : D.length < k) :
    skiarearef01_digits.f k ⟨(D ++ T).toArray⟩ = some (D.length : Int) := ref_digits_l0 D T hD hT hl D.length 0 k (by omega) hk
theorem ref_value_l0 (l : List UInt8) (h : allDig l = true) (hl : l.length ≤ 1000) : ∀ (d i acc k : Nat), i + d = l.length → d < k → valFrom acc (l.drop i) < 1000000000000000 →
    skiarearef01_value.l0 k ⟨l.toArray⟩ (acc : Int) (i : Int) = some (valFrom acc (l.drop i) : Int) := by
  intro d
  induction d with
  | zero =>
    intro i acc k hi hk hv
    obtain ⟨k, rfl⟩ : ∃ m, k = m + 1 := ⟨k - 1, by omega⟩
    simp only [skiarearef01_value.l0, size_list]
    rw [if_neg (by omega), List.drop_of_length_le (by omega)]
    rfl
  | succ d ih =>
    intro i acc k hi hk hv
    obtain ⟨k, rfl⟩ : ∃ m, k = m + 1 := ⟨k - 1, by omega⟩
    have hlt : i < l.length := by omega
    have hb := bt_list l i hlt
    obtain ⟨d0, d1⟩ := dig_at h i hlt
    have hcons : valFrom acc (l.drop i) = valFrom (acc * 10 + (l[i].toNat - 48)) (l.drop (i + 1)) := by rw [drop_cons hlt]; rfl
    have hge := valFrom_ge (l.drop (i + 1)) (acc * 10 + (l[i].toNat - 48))
    have hp : 1 ≤ 10 ^ (l.drop (i + 1)).length := Nat.one_le_iff_ne_zero.2 (by have := Nat.pow_pos (n := (l.drop (i + 1)).length) (show 0 < 10 by decide); omega)
    have h3 : (acc * 10 + (l[i].toNat - 48)) * 1 ≤ (acc * 10 + (l[i].toNat - 48)) * 10 ^ (l.drop (i + 1)).length := Nat.mul_le_mul_left _ hp
    rw [hcons] at hv ⊢
    have e := ih (i + 1) (acc * 10 + (l[i].toNat - 48)) k (by omega) (by omega) hv
    have eb : (((l[i].toNat : Nat) : Int) - 48) % 256 = ((l[i].toNat - 48 : Nat) : Int) := by omega
    simp only [skiarearef01_value.l0, size_list]
    rw [if_pos (by omega), if_pos (by omega), hb, eb, w64 (x := 10 * (acc : Int)) (by omega) (by omega), w64 (by omega) (by omega), w64 (by omega) (by omega)]
    rw [show (10 * (acc : Int) + ((l[i].toNat - 48 : Nat) : Int)) = ((acc * 10 + (l[i].toNat - 48) : Nat) : Int) by omega]
    exact e
theorem ref_value_eq (l : List UInt8) (h : allDig l = true) (hl : l.length ≤ 14) (k : Nat) (hk : l.length < k) : skiarearef01_value.f k ⟨l.toArray⟩ = some (valFrom 0 l : Int) := by
  have hv := valFrom_lt l 0 h
  have hp : 10 ^ l.length ≤ 10 ^ 14 := Nat.pow_le_pow_right (by decide) hl
  have hp' : (10 : Nat) ^ 14 = 100000000000000 := by decide
  exact ref_value_l0 l h (by omega) l.length 0 0 k (by omega) hk (by rw [List.drop_zero]; omega)

/-! ### The form -/
def goodWhole (D : List UInt8) : Bool := (decide (1 ≤ D.length) && decide (D.length ≤ 10)) && !(decide (1 < D.length) && decide (headOr D = 48))
theorem indexByte_none (l : List UInt8) (h : allDig l = true) : Lib.indexByte l 46 = -1 := by
  induction l with
  | nil => rfl
  | cons c W ih =>
    simp only [allDig, List.all_cons, Bool.and_eq_true, decide_eq_true_eq] at h
    have i := ih h.2
    have hc : (c == 46) = false := by
      rw [beq_eq_false_iff_ne]
      intro e
      have h1 := h.1.1
      rw [e] at h1
      exact absurd h1 (by decide)
    show (if (c == 46) = true then (0 : Int) else if (Lib.indexByte W 46 == -1) = true then -1 else Lib.indexByte W 46 + 1) = -1
    rw [hc, i, if_neg (by decide), if_pos (by decide)]
theorem form_nil (D : List UInt8) (h : allDig D = true) : formOk D = goodWhole D ∧ numOf D = 1000 * (valFrom 0 D : Int) := by
  have hi := indexByte_none D h
  have e1 : wholeOf D = D := by unfold wholeOf; rw [hi, if_neg (by decide)]
  have e2 : restOf D = [] := by unfold restOf; rw [hi, if_neg (by decide)]
  have e3 : pointOf D = false := by unfold pointOf; rw [hi]; rfl
  constructor
  · unfold formOk goodWhole
    rw [e1, e2, e3, h]
    simp
  · unfold numOf
    rw [e1, e2, valFrom_append]
    show ((((((valFrom 0 D) * 10 + (48 - 48)) * 10 + (48 - 48)) * 10 + (48 - 48) : Nat)) : Int) = _
    omega
theorem form_point (D R : List UInt8) (h : allDig D = true) : formOk (D ++ 46 :: R) = (goodWhole D && (allDig R && decide (1 ≤ R.length) && decide (R.length ≤ 3))) ∧ numOf (D ++ 46 :: R) = (valFrom (valFrom 0 D) (padTo3 R) : Int) := by
  obtain ⟨p1, p2, p3⟩ := whole_point D R h
  constructor
  · unfold formOk goodWhole
    rw [p1, p2, p3, h]
    simp
  · unfold numOf
    rw [p1, p2, valFrom_append]
theorem form_bad (D R : List UInt8) (c : UInt8) (hc : ¬ isDig c) (hc' : c ≠ 46) (hD : allDig D = true) : formOk (D ++ c :: R) = false := by
  have hw : allDig (wholeOf (D ++ c :: R)) = false := by
    have hcat : ∀ Z, allDig (D ++ c :: Z) = false := fun Z => by
      unfold allDig
      rw [List.all_append, List.all_cons, decide_eq_false hc]
      simp
    unfold wholeOf
    split
    · rename_i h0
      obtain ⟨o, ho⟩ := Int.eq_ofNat_of_zero_le h0
      obtain ⟨g1, g2⟩ := Lib.indexByte_some ho
      have hgt : D.length < o := by
        rcases Nat.lt_or_ge D.length o with h | h
        · exact h
        · exfalso
          rcases Nat.lt_or_ge o D.length with h' | h'
          · rw [List.getElem?_append_left h', List.getElem?_eq_getElem h'] at g1
            have := (dig_at hD o h').1
            rw [Option.some.inj g1] at this
            exact absurd this (by decide)
          · obtain rfl : o = D.length := by omega
            rw [List.getElem?_append_right (by omega), Nat.sub_self] at g1
            exact hc' (Option.some.inj g1)
      rw [ho, Int.toNat_natCast, List.take_append, show o - D.length = (o - D.length - 1) + 1 by omega, List.take_succ_cons, List.take_of_length_le (by omega)]
      exact hcat _
    · exact hcat _
  unfold formOk
  rw [hw]
  simp
end Go.Proofs.YtnoacoppinkloaaDoor.Pr
