/- The plain law of FixedTexts: it answers true for any number and string. -/
import Derived.Test.YtnoacoppinkloaaDoorLemT
import Derived.Test.YtnoacoppinkloaaDoorPr24
namespace Go.Proofs.YtnoacoppinkloaaDoor.Pr
open Go.RowKit Go.Proofs.YtnoacoppinkloaaDoorW.PrintWords Go.Proofs.YtnoacoppinkloaaDoorW.PrintLast Go.Proofs.YtnoacoppinkloaaDoorW.PrintMore
set_option linter.unusedVariables false
set_option linter.unusedSimpArgs false
namespace Pure
theorem FixedTexts (x : Int) (hx : -9223372036854775808 ≤ x ∧ x ≤ 9223372036854775807) (s : ByteArray) : skiarealaw01_FixedTexts.f 1100 x s = some true := by
  obtain ⟨⟨l⟩⟩ := s
  have hp : fixed_Print.f x = some ⟨(printOf x).toArray⟩ := by unfold fixed_Print.f; rw [if_pos hx]
  unfold skiarealaw01_FixedTexts.f skiarealaw01_alive.f
  rw [Option.bind_some, if_pos rfl]
  by_cases c : ((⟨l.toArray⟩ : ByteArray).size : Int) > 60
  · exact if_pos c
  · have hl : l.length ≤ 60 := by rw [size_list] at c; omega
    rw [if_neg c]
    rw [parse_eq l (by omega) 1100 (by omega), Option.bind_some, ref_parse_eq l hl 1100 (by omega), Option.bind_some, hp, Option.bind_some, ref_print_eq x hx 1100 (by omega), Option.bind_some, if_pos rfl, if_pos rfl, beq_self_eq_true]
end Pure
end Go.Proofs.YtnoacoppinkloaaDoor.Pr
