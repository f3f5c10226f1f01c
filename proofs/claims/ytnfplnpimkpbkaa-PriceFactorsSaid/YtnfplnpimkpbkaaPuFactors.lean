/- The plain law of PriceFactors: it answers true for every rule and day. -/
import Derived.Test.YtnfplnpimkpbkaaLemF
import Derived.Test.YtnfplnpimkpbkaaPr8
import Derived.Test.YtnfplnpimkpbkaaPr16
namespace Go.Proofs.Ytnfplnpimkpbkaa.Pr
open Go.RowKit Go.Proofs.YtnfplnpimkpbkaaW.PrintWords Go.Proofs.YtnfplnpimkpbkaaW.PrintLast Go.Proofs.YtnfplnpimkpbkaaW.PrintMore
namespace Pure
theorem few_ref (a b c : Int) (l3 l4 : List S44) : ∃ t, skiarearef23_Few.f a b c l3 l4 = some t := by
  unfold skiarearef23_Few.f
  split <;> exact ⟨_, rfl⟩
theorem factor_some (L M S x y : Int) (l3 l4 : List S44) (k : Nat) (hk : 72 ≤ k) : ∃ f e, price_Factor.f k L M S l3 l4 x y = some (f, e) := by
  by_cases hr : rightOf L M S l3 l4 = 0
  · by_cases hd : DayOk x y
    · obtain ⟨f, e, _⟩ := factor_yes hr hd k hk
      exact ⟨_, _, e⟩
    · exact ⟨_, _, factor_day hr hd k hk⟩
  · exact ⟨_, _, factor_rule hr k hk⟩
theorem PriceFactors (L M S : Int) (l3 l4 : List S44) (x y : Int) : skiarealaw23_PriceFactors.f 80 L M S l3 l4 x y = some true := by
  unfold skiarealaw23_PriceFactors.f skiarealaw23_alive.f
  obtain ⟨t, e⟩ := few_ref L M S l3 l4
  obtain ⟨f, c, h⟩ := factor_some L M S x y l3 l4 80 (by omega)
  rw [e, refFactor_eq L M S x y l3 l4 80 (by omega), h]
  simp
end Pure
end Go.Proofs.Ytnfplnpimkpbkaa.Pr
