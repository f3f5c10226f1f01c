/- The plain law of FixedDivs: it answers true for any two numbers. -/
import Derived.Test.YtnoacoppinkloaaDoorLemC
import Derived.Test.YtnoacoppinkloaaDoorDivMath
import Derived.Test.YtnoacoppinkloaaDoorPr13
namespace Go.Proofs.YtnoacoppinkloaaDoor.Pr
open Go.RowKit Go.Proofs.YtnoacoppinkloaaDoorW.PrintWords Go.Proofs.YtnoacoppinkloaaDoorW.PrintLast Go.Proofs.YtnoacoppinkloaaDoorW.PrintMore
set_option linter.unusedVariables false
set_option linter.unusedSimpArgs false
namespace Pure
/-- What Div comes to, the numbers in range and the divisor not 0. -/
def divEnd (a b A n : Int) : Int × Int :=
  if (2000 * A + n) / (2 * n) > 1125899906842624 then (0, 12) else if ((decide (a < 0)) != (decide (b < 0))) = true then (-((2000 * A + n) / (2 * n)), 0) else ((2000 * A + n) / (2 * n), 0)
theorem div_bounds {A n : Int} (A0 : 0 ≤ A) (A1 : A ≤ 1125899906842624) (n0 : 1 ≤ n) (n1 : n ≤ 1125899906842624) : 0 ≤ (2000 * A + n) / (2 * n) ∧ (2000 * A + n) / (2 * n) ≤ 2000 * A + n :=
  ⟨Int.ediv_nonneg (by omega) (by omega), Int.ediv_le_self _ (by omega)⟩
theorem within_no (x : Int) (h : ¬ (-1125899906842624 ≤ x ∧ x ≤ 1125899906842624)) : skiarearef01_Within.f x 1125899906842624 = some false := by
  unfold skiarearef01_Within.f
  rw [w64 (x := -1125899906842624) (by omega) (by omega)]
  split
  · rw [decide_eq_false (by omega)]
  · rfl
theorem within_yes (x : Int) (h : -1125899906842624 ≤ x ∧ x ≤ 1125899906842624) : skiarearef01_Within.f x 1125899906842624 = some true := by
  unfold skiarearef01_Within.f
  rw [w64 (x := -1125899906842624) (by omega) (by omega), if_pos (by omega), decide_eq_true (by omega)]

theorem div_prog (a b : Int) (ha : -1125899906842624 ≤ a ∧ a ≤ 1125899906842624) (hb : -1125899906842624 ≤ b ∧ b ≤ 1125899906842624) (k : Nat) (h0 : b ≠ 0) : fixed_Div.f (k + 1) a b = some (divEnd a b a.natAbs b.natAbs) := by
  have hA := fixed_abs.eq ha
  have hB := fixed_abs.eq hb
  have A0 : (0 : Int) ≤ (a.natAbs : Int) := by omega
  have A1 : (a.natAbs : Int) ≤ 1125899906842624 := by omega
  have B0 : (1 : Int) ≤ (b.natAbs : Int) := by omega
  have B1 : (b.natAbs : Int) ≤ 1125899906842624 := by omega
  unfold fixed_Div.f
  rw [fixed_within.yes ha, fixed_within.yes hb, Option.bind_some, if_pos rfl, Option.bind_some]
  simp only [fixed_Div.j0, Bool.not_true]
  rw [if_neg (by decide), if_neg h0, hA, Option.bind_some, hB, Option.bind_some]
  generalize (a.natAbs : Int) = A at *
  generalize (b.natAbs : Int) = n at *
  obtain ⟨d0, d1⟩ := div_bounds A0 A1 B0 B1
  rw [DivMath.wrap_id (2 * n) (by omega) (by omega), if_neg (by omega), DivMath.wrap_id (A * 1000) (by omega) (by omega), DivMath.wrap_id (2 * (A * 1000)) (by omega) (by omega), DivMath.wrap_id (2 * (A * 1000) + n) (by omega) (by omega),
    Int.tdiv_eq_ediv_of_nonneg (by omega), show 2 * (A * 1000) + n = 2000 * A + n by omega, DivMath.wrap_id ((2000 * A + n) / (2 * n)) d0 (by omega), fixed_signed.eq d0, Option.bind_some]
  unfold divEnd
  split
  · rfl
  · split <;> rfl
theorem div_ref (a b : Int) (ha : -1125899906842624 ≤ a ∧ a ≤ 1125899906842624) (hb : -1125899906842624 ≤ b ∧ b ≤ 1125899906842624) (k : Nat) (h0 : b ≠ 0) : skiarearef01_Div.f (k + 1) a b = some (divEnd a b a.natAbs b.natAbs) := by
  have hA := refAbs_eq ha.1 ha.2
  have hB := refAbs_eq hb.1 hb.2
  have A0 : (0 : Int) ≤ (a.natAbs : Int) := by omega
  have A1 : (a.natAbs : Int) ≤ 1125899906842624 := by omega
  have B0 : (1 : Int) ≤ (b.natAbs : Int) := by omega
  have B1 : (b.natAbs : Int) ≤ 1125899906842624 := by omega
  unfold skiarearef01_Div.f
  rw [within_yes a ha, within_yes b hb, Option.bind_some, if_pos rfl, Option.bind_some]
  simp only [skiarearef01_Div.j0, Bool.not_true]
  rw [if_neg (by decide), if_neg h0, hA, Option.bind_some, hB, Option.bind_some, Option.bind_some]
  generalize (a.natAbs : Int) = A at *
  generalize (b.natAbs : Int) = n at *
  obtain ⟨d0, d1⟩ := div_bounds A0 A1 B0 B1
  rw [w64 (x := 2 * n) (by omega) (by omega), if_neg (by omega), w64 (x := 2000 * A) (by omega) (by omega), w64 (x := 2000 * A + n) (by omega) (by omega), Int.tdiv_eq_ediv_of_nonneg (by omega), w64 (x := (2000 * A + n) / (2 * n)) (by omega) (by omega)]
  unfold divEnd
  by_cases hov : (2000 * A + n) / (2 * n) > 1125899906842624
  · rw [if_pos hov, if_pos hov]
  · rw [if_neg hov, if_neg hov]
    exact refSigned_eq a b d0 (by omega)
theorem FixedDivs (a b : Int) : skiarealaw01_FixedDivs.f 3 a b = some true := by
  unfold skiarealaw01_FixedDivs.f skiarealaw01_alive.f
  have same : ∃ x e, fixed_Div.f 3 a b = some (x, e) ∧ skiarearef01_Div.f 3 a b = some (x, e) := by
    by_cases ha : -1125899906842624 ≤ a ∧ a ≤ 1125899906842624
    · by_cases hb : -1125899906842624 ≤ b ∧ b ≤ 1125899906842624
      · by_cases h0 : b = 0
        · refine ⟨0, 1, ?_, ?_⟩
          · unfold fixed_Div.f
            rw [fixed_within.yes ha, fixed_within.yes hb, Option.bind_some, if_pos rfl, Option.bind_some, show (3 : Nat) = 2 + 1 from rfl]
            simp only [fixed_Div.j0, Bool.not_true]
            rw [if_neg (by decide), if_pos h0]
          · unfold skiarearef01_Div.f
            rw [within_yes a ha, within_yes b hb, Option.bind_some, if_pos rfl, Option.bind_some, show (3 : Nat) = 2 + 1 from rfl]
            simp only [skiarearef01_Div.j0, Bool.not_true]
            rw [if_neg (by decide), if_pos h0]
        · exact ⟨_, _, div_prog a b ha hb 2 h0, div_ref a b ha hb 2 h0⟩
      · refine ⟨0, 12, ?_, ?_⟩
        · unfold fixed_Div.f
          rw [fixed_within.yes ha, fixed_within.no hb, Option.bind_some, if_pos rfl, Option.bind_some, show (3 : Nat) = 2 + 1 from rfl]
          simp only [fixed_Div.j0, Bool.not_false]
          rw [if_pos trivial]
        · unfold skiarearef01_Div.f
          rw [within_yes a ha, within_no b hb, Option.bind_some, if_pos rfl, Option.bind_some, show (3 : Nat) = 2 + 1 from rfl]
          simp only [skiarearef01_Div.j0, Bool.not_false]
          rw [if_pos trivial]
    · refine ⟨0, 12, ?_, ?_⟩
      · unfold fixed_Div.f
        rw [fixed_within.no ha, Option.bind_some, if_neg (by decide), show (3 : Nat) = 2 + 1 from rfl]
        simp only [fixed_Div.j0]
        rw [if_pos trivial]
      · unfold skiarearef01_Div.f
        rw [within_no a ha, Option.bind_some, if_neg (by decide), show (3 : Nat) = 2 + 1 from rfl]
        simp only [skiarearef01_Div.j0]
        rw [if_pos trivial]
  obtain ⟨x, e, h1, h2⟩ := same
  rw [h1, h2]
  simp
end Pure
end Go.Proofs.YtnoacoppinkloaaDoor.Pr
