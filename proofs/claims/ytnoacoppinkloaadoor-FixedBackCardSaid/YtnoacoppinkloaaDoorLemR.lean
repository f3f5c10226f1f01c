/- Plain lemmas: the product in two words, the quotient times the divisor. -/
import Derived.Test.YtnoacoppinkloaaDoorLemE
import Derived.Test.YtnoacoppinkloaaDoorLemQ
import Derived.Test.YtnoacoppinkloaaDoorPr22
namespace Go.Proofs.YtnoacoppinkloaaDoor.Pr
open Go.RowKit Go.Proofs.YtnoacoppinkloaaDoorW.PrintWords Go.Proofs.YtnoacoppinkloaaDoorW.PrintLast Go.Proofs.YtnoacoppinkloaaDoorW.PrintMore
set_option linter.unusedVariables false
set_option linter.unusedSimpArgs false
/-! ### The product in two words -/
theorem product_eq (a b : Int) (a0 : 0 ≤ a) (a1 : a ≤ 1125899906842624) (b0 : 0 ≤ b) (b1 : b ≤ 1125899906842624) :
    skiarealaw01_product.f a b = some (a * b / 1125899906842624, a * b % 1125899906842624) := by
  unfold skiarealaw01_product.f
  rw [Int.tdiv_eq_ediv_of_nonneg a0, Int.tdiv_eq_ediv_of_nonneg b0, Int.tmod_eq_emod_of_nonneg a0, Int.tmod_eq_emod_of_nonneg b0]
  have hA : a / 33554432 * 33554432 + a % 33554432 = a := by omega
  have hB : b / 33554432 * 33554432 + b % 33554432 = b := by omega
  have p0 : 0 ≤ a / 33554432 := by omega
  have p1 : a / 33554432 ≤ 33554432 := by omega
  have q0 : 0 ≤ a % 33554432 := by omega
  have q1 : a % 33554432 ≤ 33554431 := by omega
  have r0 : 0 ≤ b / 33554432 := by omega
  have r1 : b / 33554432 ≤ 33554432 := by omega
  have s0 : 0 ≤ b % 33554432 := by omega
  have s1 : b % 33554432 ≤ 33554431 := by omega
  generalize a / 33554432 = p at *
  generalize a % 33554432 = q at *
  generalize b / 33554432 = r at *
  generalize b % 33554432 = s at *
  have hab : a * b = p * r * 1125899906842624 + (p * s + q * r) * 33554432 + q * s := by
    rw [← hA, ← hB, Int.add_mul, Int.mul_add, Int.mul_add]
    have e1 : p * 33554432 * (r * 33554432) = p * r * (33554432 * 33554432) := by
      rw [Int.mul_assoc, Int.mul_left_comm 33554432 r, ← Int.mul_assoc]
    have e2 : p * 33554432 * s = p * s * 33554432 := Int.mul_right_comm _ _ _
    have e3 : q * (r * 33554432) = q * r * 33554432 := (Int.mul_assoc _ _ _).symm
    rw [e1, e2, e3]
    omega
  have h1 : 0 ≤ p * r := Int.mul_nonneg p0 r0
  have h1' : p * r ≤ 33554432 * 33554432 := Int.mul_le_mul p1 r1 r0 (by decide)
  have h2 : 0 ≤ p * s := Int.mul_nonneg p0 s0
  have h2' : p * s ≤ 33554432 * 33554431 := Int.mul_le_mul p1 s1 s0 (by decide)
  have h3 : 0 ≤ q * r := Int.mul_nonneg q0 r0
  have h3' : q * r ≤ 33554431 * 33554432 := Int.mul_le_mul q1 r1 r0 (by decide)
  have h4 : 0 ≤ q * s := Int.mul_nonneg q0 s0
  have h4' : q * s ≤ 33554431 * 33554431 := Int.mul_le_mul q1 s1 s0 (by decide)
  rw [w64 (x := p) (by omega) (by omega), w64 (x := r) (by omega) (by omega)]
  generalize p * r = pr at *
  generalize p * s = ps at *
  generalize q * r = qr at *
  generalize q * s = qs at *
  generalize a * b = X at *
  rw [w64 (x := pr) (by omega) (by omega), w64 (x := ps) (by omega) (by omega), w64 (x := qr) (by omega) (by omega), w64 (x := qs) (by omega) (by omega), w64 (x := ps + qr) (by omega) (by omega),
    Int.tdiv_eq_ediv_of_nonneg (show 0 ≤ ps + qr by omega), Int.tmod_eq_emod_of_nonneg (show 0 ≤ ps + qr by omega)]
  rw [w64 (x := (ps + qr) / 33554432) (by omega) (by omega), w64 (x := (ps + qr) % 33554432 * 33554432) (by omega) (by omega)]
  rw [w64 (x := qs + (ps + qr) % 33554432 * 33554432) (by omega) (by omega), Int.tdiv_eq_ediv_of_nonneg (show 0 ≤ qs + (ps + qr) % 33554432 * 33554432 by omega), Int.tmod_eq_emod_of_nonneg (show 0 ≤ qs + (ps + qr) % 33554432 * 33554432 by omega)]
  rw [w64 (x := pr + (ps + qr) / 33554432) (by omega) (by omega), w64 (x := (qs + (ps + qr) % 33554432 * 33554432) / 1125899906842624) (by omega) (by omega)]
  rw [w64 (by omega) (by omega)]
  simp only [Option.some.injEq, Prod.mk.injEq]
  constructor <;> omega

/-! ### The law's parts -/
theorem back_j3 (k : Nat) (c X Y : Int) (c0 : 1 ≤ c) (c1 : c ≤ 1125899906842624) (X0 : 0 ≤ X) (X1 : X ≤ 1125899906842624 * 1125899906842624) (Y0 : 0 ≤ Y) (hl : Y ≤ X) (hu : X < Y + c) :
    skiarealaw01_FixedBack.j3 (k + 1) c (X / 1125899906842624) (X % 1125899906842624) (Y / 1125899906842624) (Y % 1125899906842624) false = some true := by
  simp only [skiarealaw01_FixedBack.j3]
  rw [if_neg (by decide), w64 (x := Y % 1125899906842624 + c) (by omega) (by omega)]
  by_cases h : Y % 1125899906842624 + c ≥ 1125899906842624
  · rw [if_pos h, Int.tdiv_eq_ediv_of_nonneg (by omega), Int.tmod_eq_emod_of_nonneg (by omega), w64 (x := (Y % 1125899906842624 + c) / 1125899906842624) (by omega) (by omega), w64 (by omega) (by omega)]
    by_cases h1 : X / 1125899906842624 < Y / 1125899906842624 + (Y % 1125899906842624 + c) / 1125899906842624
    · rw [if_pos h1]
    · rw [if_neg h1, if_pos (by omega), decide_eq_true (by omega)]
  · rw [if_neg h]
    by_cases h1 : X / 1125899906842624 < Y / 1125899906842624
    · rw [if_pos h1]
    · rw [if_neg h1, if_pos (by omega), decide_eq_true (by omega)]

theorem back_j2 (k : Nat) (a b c q : Int) (h : ArgsOk a b c) (hq : q = a * b / c) (hq1 : q ≤ 1125899906842624) :
    skiarealaw01_FixedBack.j2 (k + 2) a b c q false = some true := by
  obtain ⟨⟨a0, a1⟩, ⟨b0, b1⟩, c0, c1⟩ := h
  have hP0 : 0 ≤ a * b := Int.mul_nonneg a0 b0
  have hP1 : a * b ≤ 1125899906842624 * 1125899906842624 := Int.mul_le_mul a1 b1 b0 (by omega)
  have q0 : 0 ≤ q := by rw [hq]; exact Int.ediv_nonneg hP0 (by omega)
  have d1 := Int.emod_add_mul_ediv (a * b) c
  have d2 := Int.emod_nonneg (a * b) (show c ≠ 0 by omega)
  have d3 := Int.emod_lt_of_pos (a * b) (show 0 < c by omega)
  rw [← hq, Int.mul_comm c q] at d1
  have hY0 : 0 ≤ q * c := Int.mul_nonneg q0 (by omega)
  simp only [skiarealaw01_FixedBack.j2]
  rw [if_neg (by decide), product_eq a b a0 a1 b0 b1, Option.bind_some, product_eq q c q0 hq1 (by omega) c1, Option.bind_some]
  generalize a * b % c = R at *
  generalize a * b = X at *
  generalize q * c = Y at *
  have hj := back_j3 k c X Y c0 c1 hP0 hP1 hY0 (by omega) (by omega)
  dsimp only
  rw [if_neg (by omega)]
  by_cases e : X / 1125899906842624 = Y / 1125899906842624
  · rw [if_pos e, decide_eq_false (by omega)]
    exact hj
  · rw [if_neg e]
    exact hj

theorem back_j1 (k : Nat) (a b c : Int) : skiarealaw01_FixedBack.j1 (k + 40) a b c = some true := by
  rw [show k + 40 = (k + 37 + 2) + 1 by omega]
  simp only [skiarealaw01_FixedBack.j1]
  by_cases h : ArgsOk a b c
  · rw [ratio_ok a b c h _ (by omega), Option.bind_some]
    have h' := h
    obtain ⟨⟨a0, a1⟩, ⟨b0, b1⟩, c0, c1⟩ := h'
    have hP0 : 0 ≤ a * b := Int.mul_nonneg a0 b0
    have q0 : 0 ≤ a * b / c := Int.ediv_nonneg hP0 (by omega)
    unfold ratioEnd
    by_cases hv : a * b / c > 1125899906842624
    · rw [if_pos hv]
      rfl
    · rw [if_neg hv]
      dsimp only
      have hj := back_j2 (k + 37) a b c (a * b / c) h rfl (by omega)
      rw [if_pos rfl, if_neg (by omega), if_neg (by omega), if_neg (by omega), if_neg (by omega), if_neg (by omega), if_neg (by omega), if_neg (by omega), decide_eq_false hv]
      exact hj
  · rw [show k + 37 + 2 = (k + 37 + 1) + 1 by omega, ratio_bad a b c h]
    rfl
end Go.Proofs.YtnoacoppinkloaaDoor.Pr
