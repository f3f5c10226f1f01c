/- Plain lemmas: rounding. -/
import Derived.Test.YtnoacoppinkloaaDoorLemA
import Derived.Test.YtnoacoppinkloaaDoorPr5
namespace Go.Proofs.YtnoacoppinkloaaDoor.Pr
open Go.RowKit Go.Proofs.YtnoacoppinkloaaDoorW.PrintWords Go.Proofs.YtnoacoppinkloaaDoorW.PrintLast Go.Proofs.YtnoacoppinkloaaDoorW.PrintMore
set_option linter.unusedVariables false
set_option linter.unusedSimpArgs false
/-! ### Rounding -/
def roundOf (x S : Int) : Int := (2 * x + S) / (2 * S) * S

theorem roundOf_bounds {x S : Int} (hS : 1 ≤ S) : 2 * roundOf x S ≤ 2 * x + S ∧ 2 * x + S < 2 * roundOf x S + 2 * S := by
  unfold roundOf
  have h1 := Int.ediv_mul_le (2 * x + S) (show 2 * S ≠ 0 by omega)
  have h2 := Int.lt_ediv_add_one_mul_self (2 * x + S) (show 0 < 2 * S by omega)
  generalize (2 * x + S) / (2 * S) = q at *
  have e1 : q * (2 * S) = 2 * (q * S) := by rw [Int.mul_left_comm]
  rw [Int.add_mul, e1] at h2
  rw [e1] at h1
  omega

theorem round_eq {x S : Int} (h0 : -1125899906842624 ≤ x) (h1 : x ≤ 1125899906842624) (hS : 1 ≤ S) (hS1 : S ≤ 1000000000) : fixed_Round.f x S = some (roundOf x S, 0) := by
  obtain ⟨b0, b1⟩ := roundOf_bounds (x := x) hS
  obtain ⟨c0, c1⟩ := ediv_bound (N := 2 * x + S) (D := 2 * S) (B := 4503599627370496) (by omega) (by omega) (by omega) (by omega)
  unfold fixed_Round.f
  rw [fixed_within.yes ⟨h0, h1⟩, Option.bind_some, if_pos rfl, if_neg (by omega), if_neg (by omega), w64 (x := 2 * x) (by omega) (by omega), w64 (x := 2 * x + S) (by omega) (by omega), w64 (x := 2 * S) (by omega) (by omega),
    floor_eq (by omega) (by omega) (by omega), Option.bind_some]
  unfold roundOf at *
  rw [w64 (by omega) (by omega)]

end Go.Proofs.YtnoacoppinkloaaDoor.Pr
