/- The plain law of FixedMuls: it answers true for any two numbers. -/
import Derived.Test.YtnoacoppinkloaaDoorLemC
import Derived.Test.YtnoacoppinkloaaDoorPr11
namespace Go.Proofs.YtnoacoppinkloaaDoor.Pr
open Go.RowKit Go.Proofs.YtnoacoppinkloaaDoorW.PrintWords Go.Proofs.YtnoacoppinkloaaDoorW.PrintLast Go.Proofs.YtnoacoppinkloaaDoorW.PrintMore
set_option linter.unusedVariables false
set_option linter.unusedSimpArgs false
namespace Pure
theorem FixedMuls (a b : Int) : skiarealaw01_FixedMuls.f 3 a b = some true := by
  unfold skiarealaw01_FixedMuls.f skiarealaw01_alive.f
  rw [refMul_eq a b 3 (by omega)]
  simp [fixed_Mul.f]
end Pure
end Go.Proofs.YtnoacoppinkloaaDoor.Pr
