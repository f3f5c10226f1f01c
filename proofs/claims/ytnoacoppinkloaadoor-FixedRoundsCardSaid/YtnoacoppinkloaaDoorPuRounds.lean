/- The plain law of FixedRounds: it answers true for any number and step. -/
import Derived.Test.YtnoacoppinkloaaDoorLemD
import Derived.Test.YtnoacoppinkloaaDoorPr17
namespace Go.Proofs.YtnoacoppinkloaaDoor.Pr
open Go.RowKit Go.Proofs.YtnoacoppinkloaaDoorW.PrintWords Go.Proofs.YtnoacoppinkloaaDoorW.PrintLast Go.Proofs.YtnoacoppinkloaaDoorW.PrintMore
set_option linter.unusedVariables false
set_option linter.unusedSimpArgs false
namespace Pure
theorem within_no (x : Int) (h : ¬ (-1125899906842624 ≤ x ∧ x ≤ 1125899906842624)) : skiarearef01_Within.f x 1125899906842624 = some false := by
  unfold skiarearef01_Within.f
  rw [w64 (x := -1125899906842624) (by omega) (by omega)]
  split
  · rw [decide_eq_false (by omega)]
  · rfl
theorem within_yes (x : Int) (h : -1125899906842624 ≤ x ∧ x ≤ 1125899906842624) : skiarearef01_Within.f x 1125899906842624 = some true := by
  unfold skiarearef01_Within.f
  rw [w64 (x := -1125899906842624) (by omega) (by omega), if_pos (by omega), decide_eq_true (by omega)]
theorem round_same (x S : Int) : skiarearef01_Round.f x S = fixed_Round.f x S := by
  unfold skiarearef01_Round.f fixed_Round.f
  by_cases h : -1125899906842624 ≤ x ∧ x ≤ 1125899906842624
  · rw [within_yes x h, fixed_within.yes h]; rfl
  · rw [within_no x h, fixed_within.no h]; rfl
theorem round_out (x S : Int) (h : ¬ ((-1125899906842624 ≤ x ∧ x ≤ 1125899906842624) ∧ 1 ≤ S ∧ S ≤ 1000000000)) : fixed_Round.f x S = some (0, 1) := by
  unfold fixed_Round.f
  by_cases hx : -1125899906842624 ≤ x ∧ x ≤ 1125899906842624
  · rw [fixed_within.yes hx, Option.bind_some, if_pos rfl]
    by_cases c : S < 1
    · rw [if_pos c]
    · rw [if_neg c, if_pos (by omega)]
  · rw [fixed_within.no hx, Option.bind_some, if_neg (by decide)]
theorem FixedRounds (x S : Int) : skiarealaw01_FixedRounds.f x S = some true := by
  unfold skiarealaw01_FixedRounds.f skiarealaw01_alive.f
  rw [round_same]
  by_cases h : (-1125899906842624 ≤ x ∧ x ≤ 1125899906842624) ∧ 1 ≤ S ∧ S ≤ 1000000000
  · obtain ⟨⟨x0, x1⟩, s0, s1⟩ := h
    obtain ⟨b0, b1⟩ := roundOf_bounds (x := x) s0
    have hd : Int.tmod (roundOf x S) S = 0 := Int.tmod_eq_zero_of_dvd (Int.dvd_mul_left _ _)
    rw [round_eq x0 x1 s0 s1]
    generalize roundOf x S = r at *
    rw [Option.bind_some, if_pos rfl, Option.bind_some, Option.bind_some, if_pos rfl, if_pos rfl, if_pos rfl, if_neg (by omega), hd, if_pos rfl, w64 (x := r - x) (by omega) (by omega), w64 (x := 2 * (r - x)) (by omega) (by omega), w64 (x := x - r) (by omega) (by omega), w64 (x := 2 * (x - r)) (by omega) (by omega), if_pos (by omega), decide_eq_true (by omega)]
  · rw [round_out x S h]
    rfl
end Pure
end Go.Proofs.YtnoacoppinkloaaDoor.Pr
