/- Plain lemmas: what the reference's Right comes to. -/
import Derived.Test.YtnfplnpimkpbkaaLemB
import Derived.Test.YtnfplnpimkpbkaaLemC
import Derived.Test.YtnfplnpimkpbkaaPr12
namespace Go.Proofs.Ytnfplnpimkpbkaa.Pr
open Go.RowKit Go.Proofs.YtnfplnpimkpbkaaW.PrintWords Go.Proofs.YtnfplnpimkpbkaaW.PrintLast Go.Proofs.YtnfplnpimkpbkaaW.PrintMore
set_option linter.unusedVariables false
set_option linter.unusedSimpArgs false
/-! ### The reference's rules -/
theorem in_ref (a lo hi : Int) : ∃ t, skiarearef23_in.f a lo hi = some t ∧ (t = true ↔ lo ≤ a ∧ a ≤ hi) := by
  unfold skiarearef23_in.f
  by_cases c : a ≥ lo
  · exact ⟨decide (a ≤ hi), by rw [if_pos c], by simp; omega⟩
  · exact ⟨false, by rw [if_neg c], by simp; omega⟩

theorem refFactors_l0 (l : List S44) (hn : l.length ≤ 64) : ∀ (d : Nat) (i : Int) (k : Nat), 0 ≤ i → i + d = l.length → d < k →
    ∃ b, skiarearef23_factors.l0 k l i = some b ∧ (b = true ↔ ysFrom l i) := by
  intro d
  induction d with
  | zero =>
    intro i k h0 hi hk
    obtain ⟨k, rfl⟩ : ∃ m, k = m + 1 := ⟨k - 1, by omega⟩
    refine ⟨true, ?_, by simp; exact fun j h1 h2 => by omega⟩
    simp only [skiarearef23_factors.l0]
    rw [if_neg (by omega)]
  | succ d ih =>
    intro i k h0 hi hk
    obtain ⟨k, rfl⟩ : ∃ m, k = m + 1 := ⟨k - 1, by omega⟩
    obtain ⟨b, hb, hbg⟩ := ih (i + 1) k (by omega) (by omega) (by omega)
    have hlt : i < (l.length : Int) := by omega
    have hs := ysFrom_step (l := l) hlt
    obtain ⟨t, e, g⟩ := in_ref (rd_T44 l i).f1 0 10000
    simp only [skiarearef23_factors.l0]
    rw [if_pos hlt, if_pos h0, w64 (x := i + 1) (by omega) (by omega), e]
    simp only [Option.bind_some]
    by_cases c1 : t = true
    · refine ⟨b, by rw [if_pos c1]; exact hb, ?_⟩
      rw [hs, hbg]
      exact ⟨fun h => ⟨g.1 c1, h⟩, fun h => h.2⟩
    · exact ⟨false, by rw [if_neg c1], by rw [hs]; simp; intro a b; exact absurd (g.2 ⟨a, b⟩) c1⟩

theorem refFactors_eq (l : List S44) (k : Nat) (hk : 70 ≤ k) : ∃ b, skiarearef23_factors.f k l = some b ∧ (b = true ↔ FOk l) := by
  unfold skiarearef23_factors.f FOk
  obtain ⟨c, hc, hcp⟩ := refPoints_eq l k hk
  rw [hc]
  simp only [Option.bind_some]
  by_cases hp : POk l
  · rw [if_pos (hcp.2 hp)]
    have n1 := hp.1
    have n2 := hp.2.1
    obtain ⟨b, hb, hbg⟩ := refFactors_l0 l n2 l.length 0 k (by omega) (by omega) (by omega)
    exact ⟨b, hb, by rw [hbg]; exact ⟨fun g => ⟨hp, g⟩, fun g => g.2⟩⟩
  · rw [if_neg (fun h => hp (hcp.1 h))]
    exact ⟨false, rfl, by simp [hp]⟩

theorem least_ref {L S : Int} (h0 : 0 ≤ L) (h2 : L ≤ 100000000) (h3 : 1 ≤ S) (h4 : S ≤ 100000) : skiarearef23_least.f L S = some ((L + S - 1) / S * S) := by
  obtain ⟨_, a5, a2, _⟩ := bounds_eq (M := 100000000) [] [] h0 (by omega) (by omega) h3 h4
  have a1 := Int.ediv_nonneg (show 0 ≤ L + S - 1 by omega) (show 0 ≤ S by omega)
  have a7 := Int.ediv_le_self S (show 0 ≤ L + S - 1 by omega)
  unfold skiarearef23_least.f
  rw [if_neg (by omega), w64 (x := L + S) (by omega) (by omega), w64 (x := L + S - 1) (by omega) (by omega), Int.tdiv_eq_ediv_of_nonneg (show 0 ≤ L + S - 1 by omega), w64 (x := (L + S - 1) / S) (by omega) (by omega), w64 (by omega) (by omega)]

theorem refRight_eq (L M S : Int) (l3 l4 : List S44) (k : Nat) (hk : 71 ≤ k) : skiarearef23_Right.f k L M S l3 l4 = some (rightOf L M S l3 l4) := by
  obtain ⟨k, rfl⟩ : ∃ m, k = m + 1 := ⟨k - 1, by omega⟩
  unfold skiarearef23_Right.f rightOf
  have no : skiarearef23_Right.j0 (k + 1) true L M S l3 l4 = some 2 := by simp only [skiarearef23_Right.j0]; rw [if_pos trivial]
  obtain ⟨t, et, gt⟩ := in_ref S 1 100000
  rw [et]
  simp only [Option.bind_some]
  by_cases hr : RangeOk L M S
  · rw [if_pos hr]
    obtain ⟨h0, h1, h2, h3, h4⟩ := hr
    obtain rfl : t = true := gt.2 ⟨h3, h4⟩
    rw [if_neg (by omega), if_neg (by omega), if_neg (by omega)]
    simp only [skiarearef23_Right.j0]
    rw [if_neg (by decide), least_ref h0 (by omega) h3 h4]
    simp only [Option.bind_some]
    by_cases ho : (L + S - 1) / S * S > M
    · rw [if_pos ho, if_pos ho]
    · rw [if_neg ho, if_neg ho]
      obtain ⟨c3, e3, g3⟩ := refFactors_eq l3 k (by omega)
      obtain ⟨c4, e4, g4⟩ := refFactors_eq l4 k (by omega)
      rw [e3]
      simp only [Option.bind_some]
      cases c3 with
      | false => rw [if_neg (by decide), if_neg (fun g => absurd (g3.2 g.1) (by decide))]
      | true =>
        rw [if_pos rfl, e4]
        simp only [Option.bind_some]
        cases c4 with
        | false => rw [if_neg (by decide), if_neg (fun g => absurd (g4.2 g.2) (by decide))]
        | true => rw [if_pos rfl, if_pos ⟨g3.1 rfl, g4.1 rfl⟩]
  · rw [if_neg hr]
    unfold RangeOk at hr
    by_cases c1 : L < 0
    · rw [if_pos c1, no]
    by_cases c2 : M < L
    · rw [if_neg c1, if_pos c2, no]
    by_cases c3 : M > 100000000
    · rw [if_neg c1, if_neg c2, if_pos c3, no]
    rw [if_neg c1, if_neg c2, if_neg c3]
    cases t with
    | false => exact no
    | true => have := gt.1 rfl; omega
end Go.Proofs.Ytnfplnpimkpbkaa.Pr
