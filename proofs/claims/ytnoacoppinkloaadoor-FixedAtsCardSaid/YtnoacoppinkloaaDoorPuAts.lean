/- The plain law of FixedAts: it answers true for any list of points and any number. -/
import Derived.Test.YtnoacoppinkloaaDoorLemB
import Derived.Test.YtnoacoppinkloaaDoorPr20
namespace Go.Proofs.YtnoacoppinkloaaDoor.Pr
open Go.RowKit Go.Proofs.YtnoacoppinkloaaDoorW.PrintWords Go.Proofs.YtnoacoppinkloaaDoorW.PrintLast Go.Proofs.YtnoacoppinkloaaDoorW.PrintMore
set_option linter.unusedVariables false
set_option linter.unusedSimpArgs false
namespace Pure
theorem FixedAts (l : List S28) (x : Int) : skiarealaw01_FixedAts.f 70 l x = some true := by
  unfold skiarealaw01_FixedAts.f skiarealaw01_alive.f
  rw [Option.bind_some, if_pos rfl]
  by_cases c : (l.length : Int) > 100
  · rw [if_pos c]
  · have h : ∃ v e, fixed_At.f 70 l x = some (v, e) := by
      by_cases hp : POk l
      · obtain ⟨v, h, _⟩ := at_yes l x hp 70 (by omega)
        exact ⟨_, _, h⟩
      · exact ⟨_, _, at_no l x hp 70 (by omega)⟩
    obtain ⟨v, e, h⟩ := h
    rw [if_neg c, refAt_eq l x 70 (by omega), h]
    simp
end Pure
end Go.Proofs.YtnoacoppinkloaaDoor.Pr
