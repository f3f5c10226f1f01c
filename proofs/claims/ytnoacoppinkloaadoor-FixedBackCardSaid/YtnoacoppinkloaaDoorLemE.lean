/- Plain lemmas: Ratio. -/
import Derived.Test.YtnoacoppinkloaaDoorLemA
import Derived.Test.YtnoacoppinkloaaDoorPr5
namespace Go.Proofs.YtnoacoppinkloaaDoor.Pr
open Go.RowKit Go.Proofs.YtnoacoppinkloaaDoorW.PrintWords Go.Proofs.YtnoacoppinkloaaDoorW.PrintLast Go.Proofs.YtnoacoppinkloaaDoorW.PrintMore
set_option linter.unusedVariables false
set_option linter.unusedSimpArgs false
/-! ### Ratio -/
def ArgsOk (a b c : Int) : Prop := (0 ≤ a ∧ a ≤ 1125899906842624) ∧ (0 ≤ b ∧ b ≤ 1125899906842624) ∧ 1 ≤ c ∧ c ≤ 1125899906842624
def ratioEnd (a b c : Int) : Int × Int := if a * b / c > 1125899906842624 then (0, 12) else (a * b / c, 0)

theorem ratio_bad (a b c : Int) (h : ¬ ArgsOk a b c) (k : Nat) : fixed_Ratio.f (k + 1) a b c = some (0, 1) := by
  have no : fixed_Ratio.j0 (k + 1) a b c true = some (0, 1) := by simp only [fixed_Ratio.j0]; rw [if_pos trivial]
  unfold ArgsOk at h
  unfold fixed_Ratio.f
  by_cases c1 : a < 0
  · rw [if_pos c1, no]
  by_cases c2 : b < 0
  · rw [if_neg c1, if_pos c2, no]
  by_cases c3 : c < 1
  · rw [if_neg c1, if_neg c2, if_pos c3, no]
  rw [if_neg c1, if_neg c2, if_neg c3]
  by_cases h1 : -1125899906842624 ≤ a ∧ a ≤ 1125899906842624
  · rw [fixed_within.yes h1, Option.bind_some, if_pos rfl]
    by_cases h2 : -1125899906842624 ≤ b ∧ b ≤ 1125899906842624
    · rw [fixed_within.yes h2, Option.bind_some, if_pos rfl, fixed_within.no (by omega), Option.bind_some]; exact no
    · rw [fixed_within.no h2, Option.bind_some, if_neg (by decide), no]
  · rw [fixed_within.no h1, Option.bind_some, if_neg (by decide), no]

theorem ratio_ok (a b c : Int) (h : ArgsOk a b c) (k : Nat) (hk : 33 ≤ k) : fixed_Ratio.f k a b c = some (ratioEnd a b c) := by
  obtain ⟨k, rfl⟩ : ∃ m, k = m + 1 := ⟨k - 1, by omega⟩
  obtain ⟨⟨a0, a1⟩, ⟨b0, b1⟩, c0, c1⟩ := h
  have hP0 : 0 ≤ a * b := Int.mul_nonneg a0 b0
  have hP1 : a * b ≤ 1125899906842624 * 1125899906842624 := Int.mul_le_mul a1 b1 b0 (by omega)
  have hM : bits_Mul64.f a b = some (a * b / 18446744073709551616, a * b % 18446744073709551616) := by
    unfold bits_Mul64.f; rw [if_pos (by omega)]
  unfold fixed_Ratio.f
  rw [if_neg (by omega), if_neg (by omega), if_neg (by omega), fixed_within.yes (by omega), Option.bind_some, if_pos rfl, fixed_within.yes (by omega), Option.bind_some, if_pos rfl, fixed_within.yes (by omega), Option.bind_some]
  simp only [fixed_Ratio.j0, Bool.not_true]
  rw [if_neg (by decide), DivMath.wrap_id a a0 (by omega), DivMath.wrap_id b b0 (by omega), DivMath.wrap_id c (by omega) (by omega), hM, Option.bind_some]
  unfold ratioEnd
  generalize a * b = P at *
  by_cases ho : P / 18446744073709551616 ≥ c
  · have h1 : 18446744073709551616 ≤ P / c := by
      rw [Int.le_ediv_iff_mul_le (by omega)]
      omega
    rw [if_pos ho, if_pos (by omega)]
  · have hD := bits_Div64.divides (P / 18446744073709551616) (P % 18446744073709551616) c (by omega) (by omega) (by omega) (by omega) (by omega) k (by omega)
    have e : P / 18446744073709551616 * 18446744073709551616 + P % 18446744073709551616 = P := by omega
    rw [e] at hD
    have q0 : 0 ≤ P / c := Int.ediv_nonneg hP0 (by omega)
    rw [if_neg ho, hD, Option.bind_some, fixed_signed.eq q0, Option.bind_some]
    by_cases hv : P / c > 1125899906842624
    · rw [if_pos hv, if_pos hv]
    · rw [if_neg hv, if_neg hv, if_neg (by decide)]
end Go.Proofs.YtnoacoppinkloaaDoor.Pr
