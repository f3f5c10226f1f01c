/- The plain law of PriceChecks: it answers true for every rule. -/
import Derived.Test.YtnfplnpimkpbkaaLemD
import Derived.Test.YtnfplnpimkpbkaaPr8
import Derived.Test.YtnfplnpimkpbkaaPr13
namespace Go.Proofs.Ytnfplnpimkpbkaa.Pr
open Go.RowKit Go.Proofs.YtnfplnpimkpbkaaW.PrintWords Go.Proofs.YtnfplnpimkpbkaaW.PrintLast Go.Proofs.YtnfplnpimkpbkaaW.PrintMore
namespace Pure
theorem few_ref (a b c : Int) (l3 l4 : List S44) : ∃ t, skiarearef23_Few.f a b c l3 l4 = some t := by
  unfold skiarearef23_Few.f
  split <;> exact ⟨_, rfl⟩
theorem PriceChecks (L M S : Int) (l3 l4 : List S44) : skiarealaw23_PriceChecks.f 71 L M S l3 l4 = some true := by
  unfold skiarealaw23_PriceChecks.f skiarealaw23_alive.f
  obtain ⟨t, e⟩ := few_ref L M S l3 l4
  rw [e, right_eq L M S l3 l4 71 (by omega), refRight_eq L M S l3 l4 71 (by omega)]
  simp
end Pure
end Go.Proofs.Ytnfplnpimkpbkaa.Pr
