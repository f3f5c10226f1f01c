/- Plain lemmas: the reference's Mul. -/
import Derived.Test.YtnoacoppinkloaaDoorLemA
import Derived.Test.YtnoacoppinkloaaDoorPr10
import Derived.Test.YtnoacoppinkloaaDoorPr5
namespace Go.Proofs.YtnoacoppinkloaaDoor.Pr
open Go.RowKit Go.Proofs.YtnoacoppinkloaaDoorW.PrintWords Go.Proofs.YtnoacoppinkloaaDoorW.PrintLast Go.Proofs.YtnoacoppinkloaaDoorW.PrintMore
set_option linter.unusedVariables false
set_option linter.unusedSimpArgs false
theorem within_ref (a : Int) (b : Int) (h0 : 0 ≤ b) (h1 : b ≤ 1125899906842624) : ∃ t, skiarearef01_Within.f a b = some t ∧ (t = true ↔ -b ≤ a ∧ a ≤ b) := by
  unfold skiarearef01_Within.f
  rw [w64 (by omega) (by omega)]
  by_cases c : a ≥ -b
  · exact ⟨decide (a ≤ b), by rw [if_pos c], by simp; omega⟩
  · exact ⟨false, by rw [if_neg c], by simp; omega⟩

/-! ### The reference's Mul -/
theorem natAbs_mul_bound {a b A B : Int} (ha0 : 0 ≤ a) (ha : a ≤ A) (hb0 : 0 ≤ b) (hb : b ≤ B) : 0 ≤ a * b ∧ a * b ≤ A * B :=
  ⟨Int.mul_nonneg ha0 hb0, Int.mul_le_mul ha hb hb0 (by omega)⟩

theorem mul_split {a n : Int} (ha : 0 ≤ a) : a * n = a / 1000 * n * 1000 + a % 1000 * n := by
  have h : a = 1000 * (a / 1000) + a % 1000 := by omega
  have e : a / 1000 * n * 1000 = 1000 * (a / 1000) * n := by rw [Int.mul_comm, ← Int.mul_assoc]
  rw [e, ← Int.add_mul, ← h]

theorem refAbs_eq {x : Int} (x0 : -1125899906842624 ≤ x) (x1 : x ≤ 1125899906842624) : skiarearef01_abs.f x = some (x.natAbs : Int) := by
  unfold skiarearef01_abs.f mx
  rw [w64 (by omega) (by omega)]
  congr 1
  split <;> omega

theorem refSigned_eq {z : Int} (a b : Int) (z0 : 0 ≤ z) (z1 : z ≤ 1125899906842624) :
    (skiarearef01_signed.f z a b).bind (fun t211 => (some (t211, 0) : Option (Int × Int))) = some (if ((decide (a < 0)) != (decide (b < 0))) = true then (-z, 0) else (z, 0)) := by
  unfold skiarearef01_signed.f
  rw [w64 (by omega) (by omega)]
  by_cases c : ((decide (a < 0)) != (decide (b < 0))) = true
  · rw [if_pos c, if_pos c]; rfl
  · rw [if_neg c, if_neg c]; rfl

/-- What is left of Mul behind the guard of the product of the thousands. -/
def mulEnd (a b A n : Int) : Int × Int :=
  if (A * n + 500) / 1000 > 1125899906842624 then (0, 12) else if ((decide (a < 0)) != (decide (b < 0))) = true then (-((A * n + 500) / 1000), 0) else ((A * n + 500) / 1000, 0)

theorem mulOf_in {a b : Int} (h : (-1125899906842624 ≤ a ∧ a ≤ 1125899906842624) ∧ -1125899906842624 ≤ b ∧ b ≤ 1125899906842624) : mulOf a b = mulEnd a b a.natAbs b.natAbs := by
  unfold mulOf mulEnd
  rw [if_pos h]
theorem mulOf_out {a b : Int} (h : ¬ ((-1125899906842624 ≤ a ∧ a ≤ 1125899906842624) ∧ -1125899906842624 ≤ b ∧ b ≤ 1125899906842624)) : mulOf a b = (0, 12) := by
  unfold mulOf
  rw [if_neg h]

theorem refMul_j1 (a b : Int) {A n : Int} (A0 : 0 ≤ A) (A1 : A ≤ 1125899906842624) (B0 : 0 ≤ n) (B1 : n ≤ 1125899906842624) (hp1 : A / 1000 * n ≤ 1125899906842624) (k : Nat) :
    skiarearef01_Mul.j1 (k + 1) a b (A / 1000) (A % 1000) n false = some (mulEnd a b A n) := by
  have hsp := @mul_split A n A0
  have hq := natAbs_mul_bound (a := A % 1000) (b := n) (A := 999) (B := 1125899906842624) (by omega) (by omega) B0 B1
  have hp0 : 0 ≤ A / 1000 * n := Int.mul_nonneg (by omega) B0
  have e3 : wrap64 (wrap64 (2 * (A % 1000)) * n) = 2 * (A % 1000 * n) := by
    rw [w64 (x := 2 * (A % 1000)) (by omega) (by omega), Int.mul_assoc, w64 (by omega) (by omega)]
  have e4 : A / 1000 * n + (2 * (A % 1000 * n) + 1000) / 2000 = (A * n + 500) / 1000 := by omega
  simp only [skiarearef01_Mul.j1]
  rw [if_neg (by decide), e3]
  unfold mulEnd
  generalize A % 1000 * n = X at *
  generalize A / 1000 * n = Y at *
  generalize A * n = Z at *
  rw [w64 (x := Y) (by omega) (by omega), w64 (x := 2 * X + 1000) (by omega) (by omega), Int.tdiv_eq_ediv_of_nonneg (by omega), w64 (x := (2 * X + 1000) / 2000) (by omega) (by omega), e4, w64 (by omega) (by omega)]
  by_cases hov : (Z + 500) / 1000 > 1125899906842624
  · rw [if_pos hov, if_pos hov]
  · rw [if_neg hov, if_neg hov]
    exact refSigned_eq a b (by omega) (by omega)

theorem refMul_over (a b : Int) {A n : Int} (A0 : 0 ≤ A) (A1 : A ≤ 1125899906842624) (B0 : 0 ≤ n) (hp1 : ¬ A / 1000 * n ≤ 1125899906842624) : mulEnd a b A n = (0, 12) := by
  have hsp := @mul_split A n A0
  have hq : 0 ≤ A % 1000 * n := Int.mul_nonneg (by omega) B0
  unfold mulEnd
  rw [if_pos (by omega)]

theorem refMul_j0 (a b : Int) (h1 : -1125899906842624 ≤ a ∧ a ≤ 1125899906842624) (h2 : -1125899906842624 ≤ b ∧ b ≤ 1125899906842624) (k : Nat) :
    skiarearef01_Mul.j0 (k + 2) a b false = some (mulEnd a b a.natAbs b.natAbs) := by
  have A0 : (0 : Int) ≤ (a.natAbs : Int) := by omega
  have A1 : (a.natAbs : Int) ≤ 1125899906842624 := by omega
  have B0 : (0 : Int) ≤ (b.natAbs : Int) := by omega
  have B1 : (b.natAbs : Int) ≤ 1125899906842624 := by omega
  simp only [skiarearef01_Mul.j0]
  rw [if_neg (by decide), refAbs_eq h1.1 h1.2, refAbs_eq h2.1 h2.2, Option.bind_some, Option.bind_some, Option.bind_some]
  generalize (a.natAbs : Int) = A at *
  generalize (b.natAbs : Int) = n at *
  rw [Int.tdiv_eq_ediv_of_nonneg A0, Int.tmod_eq_emod_of_nonneg A0, w64 (x := A / 1000) (by omega) (by omega)]
  by_cases hp : A / 1000 > 0
  · rw [if_pos hp, if_neg (by omega), Int.tdiv_eq_ediv_of_nonneg (by omega)]
    have hd0 := Int.ediv_nonneg (show (0 : Int) ≤ 1125899906842624 by omega) (show 0 ≤ A / 1000 by omega)
    have hd1 := Int.ediv_le_self (A / 1000) (show (0 : Int) ≤ 1125899906842624 by omega)
    have key : n ≤ 1125899906842624 / (A / 1000) ↔ n * (A / 1000) ≤ 1125899906842624 := Int.le_ediv_iff_mul_le hp
    rw [Int.mul_comm] at key
    generalize hD : 1125899906842624 / (A / 1000) = D at *
    rw [w64 (x := D) (by omega) (by omega)]
    by_cases ho : n > D
    · rw [decide_eq_true ho, refMul_over a b A0 A1 B0 (fun h => by have := key.2 h; omega)]
      simp only [skiarearef01_Mul.j1]
      rw [if_pos trivial]
    · rw [decide_eq_false ho]
      exact refMul_j1 a b A0 A1 B0 B1 (key.1 (by omega)) k
  · rw [if_neg hp]
    have : A / 1000 = 0 := by omega
    exact refMul_j1 a b A0 A1 B0 B1 (by rw [this]; omega) k

theorem refMul_eq (a b : Int) (k : Nat) (hk : 3 ≤ k) : skiarearef01_Mul.f k a b = some (mulOf a b) := by
  obtain ⟨k, rfl⟩ : ∃ m, k = m + 2 := ⟨k - 2, by omega⟩
  obtain ⟨t1, e1, g1⟩ := within_ref a 1125899906842624 (by omega) (by omega)
  obtain ⟨t2, e2, g2⟩ := within_ref b 1125899906842624 (by omega) (by omega)
  have no : skiarearef01_Mul.j0 (k + 2) a b true = some (0, 12) := by simp only [skiarearef01_Mul.j0]; rw [if_pos trivial]
  unfold skiarearef01_Mul.f
  rw [e1, e2]
  simp only [Option.bind_some]
  cases t1 with
  | true =>
    rw [if_pos rfl]
    cases t2 with
    | true => rw [mulOf_in ⟨g1.1 rfl, g2.1 rfl⟩]; exact refMul_j0 a b (g1.1 rfl) (g2.1 rfl) k
    | false => rw [mulOf_out (fun h => absurd (g2.2 h.2) (by decide))]; exact no
  | false => rw [if_neg (by decide), mulOf_out (fun h => absurd (g1.2 h.1) (by decide))]; exact no

end Go.Proofs.YtnoacoppinkloaaDoor.Pr
