/-
  The plain arithmetic behind math/bits.Div64 (two digits of 32 bits, as Knuth's algorithm D): no program in sight.
-/
import Derived.Laws.BitsLemmas
import Derived.Lib.BitFns
import Derived.WalkKit
namespace Go.Proofs.YtnoacoppinkloaaDoor.DivMath

theorem wrap_id (x : Int) (h0 : 0 ≤ x) (h1 : x < 18446744073709551616) : IntKind.u64.wrap x = x := by
  rw [IntKind.wrap_u64]; omega

theorem digit_iff (Y1 Y0 U u q : Int) : q * Y0 ≤ 4294967296 * (U - q * Y1) + u ↔ q * (Y1 * 4294967296 + Y0) ≤ U * 4294967296 + u := by
  have e : q * (Y1 * 4294967296 + Y0) = q * Y1 * 4294967296 + q * Y0 := by rw [Int.mul_add, Int.mul_assoc]
  constructor <;> intro h <;> omega

theorem le_digit {N Y q : Int} (hY : 0 < Y) : q ≤ N / Y ↔ q * Y ≤ N := Int.le_ediv_iff_mul_le hY

/-- The test of the loop: the digit is still too great. -/
theorem test_iff {Y1 Y0 U u q : Int} (hY : 0 < Y1 * 4294967296 + Y0) :
    q * Y0 > 4294967296 * (U - q * Y1) + u ↔ (U * 4294967296 + u) / (Y1 * 4294967296 + Y0) < q := by
  have h1 := digit_iff Y1 Y0 U u q
  have h2 := @le_digit (U * 4294967296 + u) (Y1 * 4294967296 + Y0) q hY
  constructor
  · intro h; apply Int.not_le.mp; intro h3; have := h1.mpr (h2.mp h3); omega
  · intro h; apply Int.not_le.mp; intro h3; have := h2.mpr (h1.mp h3); omega

theorem digit_lt {U u Y : Int} (hU : U < Y) (hu : u < 4294967296) (hY : 0 < Y) : (U * 4294967296 + u) / Y < 4294967296 := by
  apply Int.ediv_lt_of_lt_mul hY
  omega

theorem digit_nonneg {U u Y : Int} (hU : 0 ≤ U) (hu : 0 ≤ u) (hY : 0 < Y) : 0 ≤ (U * 4294967296 + u) / Y :=
  Int.ediv_nonneg (by omega) (by omega)

/-- The first guess is never too small. -/
theorem guess_ge {Y1 Y0 U u : Int} (h1 : 0 < Y1) (h0 : 0 ≤ Y0) (hU : 0 ≤ U) (hu0 : 0 ≤ u) (hu : u < 4294967296) :
    (U * 4294967296 + u) / (Y1 * 4294967296 + Y0) ≤ U / Y1 := by
  have hY : 0 < Y1 * 4294967296 + Y0 := by omega
  rw [le_digit h1]
  have hq : 0 ≤ (U * 4294967296 + u) / (Y1 * 4294967296 + Y0) := Int.ediv_nonneg (by omega) (by omega)
  have hm := Int.ediv_mul_le (U * 4294967296 + u) (by omega : Y1 * 4294967296 + Y0 ≠ 0)
  generalize (U * 4294967296 + u) / (Y1 * 4294967296 + Y0) = q at *
  have e : q * (Y1 * 4294967296 + Y0) = q * Y1 * 4294967296 + q * Y0 := by rw [Int.mul_add, Int.mul_assoc]
  have := Int.mul_nonneg hq h0
  omega

theorem mul_lt_sq {a b : Int} (ha0 : 0 ≤ a) (ha : a < 4294967296) (hb0 : 0 ≤ b) (hb : b < 4294967296) : 0 ≤ a * b ∧ a * b < 18446744073709551616 := by
  refine ⟨Int.mul_nonneg ha0 hb0, ?_⟩
  have h1 : a * b ≤ 4294967295 * b := Int.mul_le_mul_of_nonneg_right (by omega) hb0
  omega

/-- The last two lines: the quotient and the remainder out of the two digits. -/
theorem join_digits {U u0 u1 Y : Int} (hY : 0 < Y) :
    ((U * 4294967296 + u1) * 4294967296 + u0) / Y = (U * 4294967296 + u1) / Y * 4294967296 + ((U * 4294967296 + u1) % Y * 4294967296 + u0) / Y ∧
    ((U * 4294967296 + u1) * 4294967296 + u0) % Y = ((U * 4294967296 + u1) % Y * 4294967296 + u0) % Y := by
  have h := Int.emod_add_mul_ediv (U * 4294967296 + u1) Y
  generalize (U * 4294967296 + u1) / Y = D at *
  generalize (U * 4294967296 + u1) % Y = m at *
  have e : (U * 4294967296 + u1) * 4294967296 + u0 = (m * 4294967296 + u0) + D * 4294967296 * Y := by
    rw [← h, Int.add_mul, Int.mul_comm Y D, Int.mul_assoc D Y, Int.mul_assoc D, Int.mul_comm Y 4294967296]; omega
  rw [e]
  constructor
  · rw [Int.add_mul_ediv_right _ _ (by omega)]; omega
  · rw [Int.add_mul_emod_self_right]

theorem mod_scale (a b : Int) {c : Int} (h : 0 < c) : (a * c) % (b * c) = a % b * c := by
  rw [Int.mul_comm a c, Int.mul_comm b c, Int.mul_emod_mul_of_pos a b h, Int.mul_comm]

theorem scale {u y p : Int} (hp : 0 < p) : (u * p) / (y * p) = u / y ∧ (u * p) % (y * p) / p = u % y := by
  constructor
  · exact Int.mul_ediv_mul_of_pos_left u y hp
  · rw [mod_scale _ _ hp]
    exact Int.mul_ediv_cancel _ (by omega)

theorem bitLen_bounds (x : Nat) (h0 : 0 < x) (h : x < 2 ^ 64) : x < 2 ^ Lib.bitLen x ∧ 2 ^ (Lib.bitLen x - 1) ≤ x ∧ 1 ≤ Lib.bitLen x ∧ Lib.bitLen x ≤ 64 := by
  have key : ∀ f x : Nat, 0 < x → x < 2 ^ f → x < 2 ^ Lib.bitLenAux f x ∧ 2 ^ (Lib.bitLenAux f x - 1) ≤ x ∧ 1 ≤ Lib.bitLenAux f x ∧ Lib.bitLenAux f x ≤ f := by
    intro f
    induction f with
    | zero => intro x h0 h; simp at h; omega
    | succ f ih =>
      intro x h0 h
      simp only [Lib.bitLenAux]
      rw [if_neg (by omega)]
      by_cases h1 : x / 2 = 0
      · have hz : Lib.bitLenAux f (x / 2) = 0 := by rw [h1]; cases f <;> simp [Lib.bitLenAux]
        rw [hz]; simp; omega
      · obtain ⟨a, b, c, d⟩ := ih (x / 2) (by omega) (by rw [Nat.pow_succ] at h; omega)
        refine ⟨?_, ?_, by omega, by omega⟩
        · rw [Nat.add_comm, Nat.pow_succ]; omega
        · have : 1 + Lib.bitLenAux f (x / 2) - 1 = (Lib.bitLenAux f (x / 2) - 1) + 1 := by omega
          rw [this, Nat.pow_succ]; omega
  exact key 64 x h0 h

theorem and_low (x : Int) (h0 : 0 ≤ x) (h1 : x < 18446744073709551616) : Go.bits .and .u64 x 4294967295 = x % 4294967296 :=
  Go.bits_mask .u64 64 (by decide) (fun n a b => wrap_id n a b) 32 (by decide) x h0 h1

/-- The high word of the shifted dividend. -/
theorem or_high (hi lo : Int) (s : Nat) (hs : s ≤ 63) (h0 : 0 ≤ hi) (h1 : hi < 2 ^ (64 - s)) (l0 : 0 ≤ lo) (l1 : lo < 18446744073709551616) :
    Go.bits .or .u64 (hi * 2 ^ s) (lo / 2 ^ (64 - s)) = hi * 2 ^ s + lo / 2 ^ (64 - s) ∧ hi * 2 ^ s + lo / 2 ^ (64 - s) < 18446744073709551616 ∧
    (hi * 18446744073709551616 + lo) * 2 ^ s = (hi * 2 ^ s + lo / 2 ^ (64 - s)) * 18446744073709551616 + lo * 2 ^ s % 18446744073709551616 := by
  have hp : (0 : Int) < 2 ^ s := Int.pow_pos (by decide)
  have hq : (0 : Int) < 2 ^ (64 - s) := Int.pow_pos (by decide)
  have hpq : (2 : Int) ^ (64 - s) * 2 ^ s = 18446744073709551616 := by
    rw [← Int.pow_add, show 64 - s + s = 64 by omega]; rfl
  generalize hP : (2 : Int) ^ s = P at *
  generalize hQ : (2 : Int) ^ (64 - s) = Q at *
  have a1 : hi * P ≤ (Q - 1) * P := Int.mul_le_mul_of_nonneg_right (by omega) (by omega)
  have a2 : (Q - 1) * P = 18446744073709551616 - P := by rw [Int.sub_mul, hpq]; omega
  have a3 : 0 ≤ lo / Q := Int.ediv_nonneg l0 (by omega)
  have a4 : lo / Q < P := by apply Int.ediv_lt_of_lt_mul hq; rw [Int.mul_comm, hpq]; exact l1
  have a5 : 0 ≤ hi * P := Int.mul_nonneg h0 (by omega)
  have a6 : P ≤ 18446744073709551616 := by
    have : 1 * P ≤ Q * P := Int.mul_le_mul_of_nonneg_right (by omega) (by omega)
    omega
  refine ⟨?_, by omega, ?_⟩
  · subst hP
    exact Go.bits_join .u64 64 (by decide) (fun n a b => wrap_id n a b) s (hi * 2 ^ s) (lo / Q) a5 (Int.mul_emod_left _ _) (by show _ < (18446744073709551616 : Int); omega) a3 a4 (by show _ < (18446744073709551616 : Int); omega)
  · have e1 : lo * P % 18446744073709551616 = lo % Q * P := by rw [← hpq]; exact mod_scale _ _ hp
    have e2 := Int.emod_add_mul_ediv lo Q
    rw [e1, Int.add_mul, Int.add_mul]
    have e3 : lo * P = lo % Q * P + lo / Q * 18446744073709551616 := by
      rw [← hpq, ← Int.mul_assoc, ← Int.add_mul]; congr 1; rw [Int.mul_comm (lo / Q) Q]; omega
    have e4 : hi * 18446744073709551616 * P = hi * P * 18446744073709551616 := by rw [Int.mul_right_comm]
    omega

end Go.Proofs.YtnoacoppinkloaaDoor.DivMath
