/- The plain law of FixedBack: it answers true for any four numbers. -/
import Derived.Test.YtnoacoppinkloaaDoorLemR
namespace Go.Proofs.YtnoacoppinkloaaDoor.Pr
open Go.RowKit Go.Proofs.YtnoacoppinkloaaDoorW.PrintWords Go.Proofs.YtnoacoppinkloaaDoorW.PrintLast Go.Proofs.YtnoacoppinkloaaDoorW.PrintMore
set_option linter.unusedVariables false
set_option linter.unusedSimpArgs false
namespace Pure
theorem FixedBack (x a b c : Int) (hx : -9223372036854775808 ≤ x ∧ x ≤ 9223372036854775807) : skiarealaw01_FixedBack.f 1100 x a b c = some true := by
  have hp : fixed_Print.f x = some ⟨(printOf x).toArray⟩ := by unfold fixed_Print.f; rw [if_pos hx]
  have hj := back_j1 1059 a b c
  have hr := parse_eq (printOf x) (print_length x hx) 1100 (by omega)
  rw [parse_print x] at hr
  unfold skiarealaw01_FixedBack.f skiarealaw01_alive.f
  rw [Option.bind_some, if_pos rfl, hp, Option.bind_some, hr, Option.bind_some, show (1100 : Nat) = 1059 + 40 + 1 from rfl]
  by_cases c1 : x < -9999999999999
  · rw [if_pos c1, if_neg (by omega)]
    simp only [skiarealaw01_FixedBack.j0]
    rw [if_pos trivial, if_pos trivial, if_pos trivial]
    exact hj
  · rw [if_neg c1]
    by_cases c2 : x > 9999999999999
    · rw [decide_eq_true c2, if_neg (by omega)]
      simp only [skiarealaw01_FixedBack.j0]
      rw [if_pos trivial, if_pos trivial, if_pos trivial]
      exact hj
    · rw [decide_eq_false c2, if_pos (by omega)]
      simp only [skiarealaw01_FixedBack.j0]
      rw [if_neg (by decide), if_pos trivial, if_pos trivial]
      exact hj
end Pure
end Go.Proofs.YtnoacoppinkloaaDoor.Pr
