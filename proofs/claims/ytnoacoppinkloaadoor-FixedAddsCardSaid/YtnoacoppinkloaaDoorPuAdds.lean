/- The plain law of FixedAdds: it answers true for any two numbers. -/
import Derived.Test.YtnoacoppinkloaaDoorLemA
import Derived.Test.YtnoacoppinkloaaDoorPr8
namespace Go.Proofs.YtnoacoppinkloaaDoor.Pr
open Go.RowKit Go.Proofs.YtnoacoppinkloaaDoorW.PrintWords Go.Proofs.YtnoacoppinkloaaDoorW.PrintLast Go.Proofs.YtnoacoppinkloaaDoorW.PrintMore
set_option linter.unusedVariables false
set_option linter.unusedSimpArgs false
namespace Pure
theorem within_same (x : Int) : skiarearef01_Within.f x 1125899906842624 = fixed_within.f x := by
  unfold skiarearef01_Within.f fixed_within.f
  rw [w64 (x := -1125899906842624) (by omega) (by omega)]
theorem within_some (x : Int) : ∃ b, fixed_within.f x = some b := by
  unfold fixed_within.f
  split <;> exact ⟨_, rfl⟩
theorem add_same (a b : Int) : skiarearef01_Add.f a b = fixed_Add.f a b := by
  unfold skiarearef01_Add.f fixed_Add.f
  simp only [within_same]
theorem add_some (a b : Int) : ∃ x e, fixed_Add.f a b = some (x, e) := by
  obtain ⟨s, hs⟩ := within_some a
  obtain ⟨t, ht⟩ := within_some b
  obtain ⟨u, hu⟩ := within_some (wrap64 (a + b))
  unfold fixed_Add.f
  rw [hs, ht, hu]
  cases s <;> cases t <;> cases u <;> exact ⟨_, _, rfl⟩
theorem FixedAdds (a b : Int) : skiarealaw01_FixedAdds.f a b = some true := by
  unfold skiarealaw01_FixedAdds.f skiarealaw01_alive.f
  obtain ⟨x, e, h⟩ := add_some a b
  rw [add_same, h]
  simp
end Pure
end Go.Proofs.YtnoacoppinkloaaDoor.Pr
