/- The plain law of FixedRatios: it answers true for any three numbers. -/
import Derived.Test.YtnoacoppinkloaaDoorLemE
import Derived.Test.YtnoacoppinkloaaDoorPr15
namespace Go.Proofs.YtnoacoppinkloaaDoor.Pr
open Go.RowKit Go.Proofs.YtnoacoppinkloaaDoorW.PrintWords Go.Proofs.YtnoacoppinkloaaDoorW.PrintLast Go.Proofs.YtnoacoppinkloaaDoorW.PrintMore
set_option linter.unusedVariables false
set_option linter.unusedSimpArgs false
namespace Pure
theorem ref_l0 (a b c : Int) (h : ArgsOk a b c) : ∀ (m : Nat) (q r : Int) (k : Nat), m ≤ 51 → 0 ≤ q → q ≤ 1125899906842624 → 0 ≤ r → r < c → q * c + r = a / 2 ^ m * b → m < k →
    skiarearef01_Ratio.l0 k a b c q r (2 ^ m / 2) = some (ratioEnd a b c) := by
  obtain ⟨⟨a0, a1⟩, ⟨b0, b1⟩, c0, c1⟩ := h
  intro m
  induction m with
  | zero =>
    intro q r k hm q0 q1 r0 r1 he hk
    obtain ⟨k, rfl⟩ : ∃ m, k = m + 1 := ⟨k - 1, by omega⟩
    have e1 : (2 : Int) ^ 0 / 2 = 0 := by decide
    rw [Int.pow_zero, Int.ediv_one] at he
    have e2 : a * b / c = q := by
      rw [← he, Int.add_comm, Int.add_mul_ediv_right _ _ (by omega), Int.ediv_eq_zero_of_lt r0 r1, Int.zero_add]
    simp only [skiarearef01_Ratio.l0]
    rw [e1, if_neg (by decide)]
    unfold ratioEnd
    rw [e2, if_neg (by omega)]
  | succ m ih =>
    intro q r k hm q0 q1 r0 r1 he hk
    obtain ⟨k, rfl⟩ : ∃ m, k = m + 1 := ⟨k - 1, by omega⟩
    have hp : (0 : Int) < 2 ^ m := Int.pow_pos (by decide)
    have hp1 : (2 : Int) ^ m ≤ 2 ^ 50 := by
      have := Nat.pow_le_pow_right (show 0 < 2 by decide) (show m ≤ 50 by omega)
      exact_mod_cast this
    have hp2 : (2 : Int) ^ 50 = 1125899906842624 := by decide
    have e1 : (2 : Int) ^ (m + 1) / 2 = 2 ^ m := by rw [Int.pow_succ]; omega
    have e2 : a / 2 ^ (m + 1) = a / 2 ^ m / 2 := by rw [Int.pow_succ, Int.ediv_ediv_of_nonneg (by omega)]
    rw [e2] at he
    have ihm := ih
    rw [e1]
    generalize hP : (2 : Int) ^ m = P at *
    have hA0 : 0 ≤ a / P := Int.ediv_nonneg a0 (by omega)
    have hA1 : a / P ≤ a := Int.ediv_le_self _ a0
    have hB0 : 0 ≤ b / c := Int.ediv_nonneg b0 (by omega)
    have hB1 : b / c ≤ b := Int.ediv_le_self _ b0
    have hB2 := Int.emod_nonneg b (show c ≠ 0 by omega)
    have hB3 := Int.emod_lt_of_pos b (show 0 < c by omega)
    have hB4 := Int.emod_add_mul_ediv b c
    have hmono : a / P * b ≤ a * b := Int.mul_le_mul_of_nonneg_right hA1 b0
    simp only [skiarearef01_Ratio.l0]
    rw [if_pos (by omega), if_neg (by omega), Int.tdiv_eq_ediv_of_nonneg a0, w64 (x := a / P) (by omega) (by omega), Int.tmod_eq_emod_of_nonneg hA0, Int.tdiv_eq_ediv_of_nonneg (show 0 ≤ P by omega), w64 (x := P / 2) (by omega) (by omega)]
    -- the end of a round: the new quotient and remainder
    have fin : ∀ (t u : Int), 0 ≤ t → t < 3 * c → 0 ≤ u → u ≤ 2 * 1125899906842624 + b → u * c + t = a / P * b →
        (if u + t / c > 1125899906842624 then some (0, 12) else skiarearef01_Ratio.l0 k a b c (u + t / c) (t % c) (P / 2)) = some (ratioEnd a b c) := by
      intro t u t0 t1 u0 u1 hu
      have d0 : 0 ≤ t / c := Int.ediv_nonneg t0 (by omega)
      have m0 := Int.emod_nonneg t (show c ≠ 0 by omega)
      have m1 := Int.emod_lt_of_pos t (show 0 < c by omega)
      have dm := Int.emod_add_mul_ediv t c
      have hq : (u + t / c) * c + t % c = a / P * b := by
        rw [Int.add_mul, Int.mul_comm (t / c) c]; omega
      by_cases ho : u + t / c > 1125899906842624
      · rw [if_pos ho]
        unfold ratioEnd
        have : u + t / c ≤ a * b / c := by
          rw [Int.le_ediv_iff_mul_le (by omega)]
          omega
        rw [if_pos (by omega)]
      · rw [if_neg ho]
        exact ihm (u + t / c) (t % c) k (by omega) (by omega) (by omega) m0 m1 hq (by omega)
    by_cases c2 : a / P % 2 = 1
    · have hb : b % c + c * (b / c) = b := hB4
      have ht0 : 0 ≤ 2 * r + b % c := by omega
      have ht1 : (2 * r + b % c) / c < 3 := by apply Int.ediv_lt_of_lt_mul (by omega); omega
      have ht2 : 0 ≤ (2 * r + b % c) / c := Int.ediv_nonneg ht0 (by omega)
      have hsum : (2 * q + b / c) * c + (2 * r + b % c) = a / P * b := by
        have hh : a / P = 2 * (a / P / 2) + 1 := by omega
        rw [Int.add_mul, Int.mul_assoc, Int.mul_comm (b / c) c]
        rw [hh, Int.add_mul, Int.mul_assoc, Int.one_mul, ← he]
        omega
      rw [if_pos c2, if_neg (by omega), w64 (x := 2 * q) (by omega) (by omega), Int.tdiv_eq_ediv_of_nonneg b0, w64 (x := b / c) (by omega) (by omega), w64 (x := 2 * q + b / c) (by omega) (by omega), w64 (x := 2 * r) (by omega) (by omega), Int.tmod_eq_emod_of_nonneg b0,
        w64 (x := 2 * r + b % c) (by omega) (by omega), Int.tdiv_eq_ediv_of_nonneg ht0, w64 (x := (2 * r + b % c) / c) (by omega) (by omega), w64 (x := 2 * q + b / c + (2 * r + b % c) / c) (by omega) (by omega), Int.tmod_eq_emod_of_nonneg ht0]
      exact fin (2 * r + b % c) (2 * q + b / c) ht0 (by omega) (by omega) (by omega) hsum
    · have ht1 : (2 * r) / c < 3 := by apply Int.ediv_lt_of_lt_mul (by omega); omega
      have ht2 : 0 ≤ (2 * r) / c := Int.ediv_nonneg (by omega) (by omega)
      have hsum : (2 * q) * c + 2 * r = a / P * b := by
        have hh : a / P = 2 * (a / P / 2) := by omega
        rw [Int.mul_assoc]
        rw [hh, Int.mul_assoc, ← he]
        omega
      rw [if_neg c2, if_neg (by omega), w64 (x := 2 * q) (by omega) (by omega), w64 (x := 2 * r) (by omega) (by omega), Int.tdiv_eq_ediv_of_nonneg (show 0 ≤ 2 * r by omega), w64 (x := 2 * r / c) (by omega) (by omega), w64 (x := 2 * q + 2 * r / c) (by omega) (by omega), Int.tmod_eq_emod_of_nonneg (show 0 ≤ 2 * r by omega)]
      exact fin (2 * r) (2 * q) (by omega) (by omega) (by omega) (by omega) hsum

theorem ref_bad (a b c : Int) (h : ¬ ArgsOk a b c) (k : Nat) : skiarearef01_Ratio.f (k + 1) a b c = some (0, 1) := by
  have no : skiarearef01_Ratio.j0 (k + 1) a b c true = some (0, 1) := by simp only [skiarearef01_Ratio.j0]; rw [if_pos trivial]
  unfold ArgsOk at h
  unfold skiarearef01_Ratio.f
  by_cases c1 : a < 0
  · rw [if_pos c1, no]
  by_cases c2 : b < 0
  · rw [if_neg c1, if_pos c2, no]
  by_cases c3 : c < 1
  · rw [if_neg c1, if_neg c2, if_pos c3, no]
  by_cases c4 : a > 1125899906842624
  · rw [if_neg c1, if_neg c2, if_neg c3, if_pos c4, no]
  by_cases c5 : b > 1125899906842624
  · rw [if_neg c1, if_neg c2, if_neg c3, if_neg c4, if_pos c5, no]
  rw [if_neg c1, if_neg c2, if_neg c3, if_neg c4, if_neg c5, decide_eq_true (by omega), no]
theorem ref_ok (a b c : Int) (h : ArgsOk a b c) : skiarearef01_Ratio.f 60 a b c = some (ratioEnd a b c) := by
  have h' := h
  obtain ⟨⟨a0, a1⟩, ⟨b0, b1⟩, c0, c1⟩ := h
  have e0 : a / 2 ^ 51 = 0 := Int.ediv_eq_zero_of_lt a0 (by have : (2 : Int) ^ 51 = 2251799813685248 := by decide
                                                            omega)
  have e1 : (2 : Int) ^ 51 / 2 = 1125899906842624 := by decide
  have hl := ref_l0 a b c h' 51 0 0 59 (by omega) (by omega) (by omega) (by omega) (by omega) (by rw [e0]; simp) (by omega)
  rw [e1] at hl
  unfold skiarearef01_Ratio.f
  rw [if_neg (by omega), if_neg (by omega), if_neg (by omega), if_neg (by omega), if_neg (by omega), decide_eq_false (by omega), show (60 : Nat) = 59 + 1 from rfl]
  simp only [skiarearef01_Ratio.j0]
  rw [if_neg (by decide)]
  exact hl
theorem FixedRatios (a b c : Int) : skiarealaw01_FixedRatios.f 60 a b c = some true := by
  unfold skiarealaw01_FixedRatios.f skiarealaw01_alive.f
  by_cases h : ArgsOk a b c
  · rw [ratio_ok a b c h 60 (by omega), ref_ok a b c h]
    simp
  · rw [ratio_bad a b c h 59, ref_bad a b c h 59]
    simp
end Pure
end Go.Proofs.YtnoacoppinkloaaDoor.Pr
