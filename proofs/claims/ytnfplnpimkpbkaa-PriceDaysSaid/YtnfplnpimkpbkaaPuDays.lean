/- The plain law of PriceDays: it answers true for every rule, base and list of days. -/
import Derived.Test.YtnfplnpimkpbkaaLemI
import Derived.Test.YtnfplnpimkpbkaaPr8
import Derived.Test.YtnfplnpimkpbkaaPr20
namespace Go.Proofs.Ytnfplnpimkpbkaa.Pr
open Go.RowKit Go.Proofs.YtnfplnpimkpbkaaW.PrintWords Go.Proofs.YtnfplnpimkpbkaaW.PrintLast Go.Proofs.YtnfplnpimkpbkaaW.PrintMore
namespace Pure
theorem few_ref (a b c : Int) (l3 l4 : List S44) : ∃ t, skiarearef23_Few.f a b c l3 l4 = some t := by
  unfold skiarearef23_Few.f
  split <;> exact ⟨_, rfl⟩
theorem PriceDays (L M S : Int) (l3 l4 : List S44) (base first : Int) (days : List Int) : skiarealaw23_PriceDays.f 190 L M S l3 l4 base first days = some true := by
  unfold skiarealaw23_PriceDays.f skiarealaw23_alive.f
  obtain ⟨t, e⟩ := few_ref L M S l3 l4
  have h : ∃ D P c, price_Cheapest.f 189 L M S l3 l4 base first days = some (D, P, c) := by
    rcases cheapest_eq L M S l3 l4 base first days 189 (by omega) with ⟨c, _, h⟩ | ⟨D, P, h, _⟩
    · exact ⟨_, _, _, h⟩
    · exact ⟨_, _, _, h⟩
  obtain ⟨D, P, c, h⟩ := h
  have hj : ∀ b, skiarealaw23_PriceDays.j0 190 base first days b L M S l3 l4 = some true := fun b => by
    rw [show (190 : Nat) = 189 + 1 from rfl]
    simp only [skiarealaw23_PriceDays.j0]
    cases b with
    | true => rw [if_pos rfl]
    | false =>
      rw [if_neg (by decide), refCheapest_eq L M S l3 l4 base first days 189 (by omega), h]
      simp
  rw [e, Option.bind_some, if_pos rfl, Option.bind_some]
  cases t with
  | true => rw [if_pos rfl]; exact hj _
  | false => rw [if_neg (by decide)]; exact hj _
end Pure
end Go.Proofs.Ytnfplnpimkpbkaa.Pr
