/- Plain lemmas: what Right comes to. -/
import Derived.Test.YtnfplnpimkpbkaaLemA
import Derived.Test.YtnfplnpimkpbkaaPr3
namespace Go.Proofs.Ytnfplnpimkpbkaa.Pr
open Go.RowKit Go.Proofs.YtnfplnpimkpbkaaW.PrintWords Go.Proofs.YtnfplnpimkpbkaaW.PrintLast Go.Proofs.YtnfplnpimkpbkaaW.PrintMore
set_option linter.unusedVariables false
set_option linter.unusedSimpArgs false
/-! ### Rules -/
def ysFrom (l : List S44) (i : Int) : Prop := ∀ j, i ≤ j → j < (l.length : Int) → 0 ≤ (rd_T44 l j).f1 ∧ (rd_T44 l j).f1 ≤ 10000
def FOk (l : List S44) : Prop := POk l ∧ ysFrom l 0
theorem ysFrom_step {l : List S44} {i : Int} (h : i < (l.length : Int)) : ysFrom l i ↔ (0 ≤ (rd_T44 l i).f1 ∧ (rd_T44 l i).f1 ≤ 10000) ∧ ysFrom l (i + 1) := by
  constructor
  · intro g; exact ⟨g i (Int.le_refl _) h, fun j h1 h2 => g j (by omega) h2⟩
  · rintro ⟨a, g⟩ j h1 h2
    by_cases e : j = i
    · subst e; exact a
    · exact g j (by omega) h2

theorem factors_l0 (l : List S44) (hn : l.length ≤ 64) : ∀ (d : Nat) (i : Int) (k : Nat), 0 ≤ i → i + d = l.length → d < k →
    ∃ b, price_factors.l0 k l (l.length : Int) i = some b ∧ (b = true ↔ ysFrom l i) := by
  intro d
  induction d with
  | zero =>
    intro i k h0 hi hk
    obtain ⟨k, rfl⟩ : ∃ m, k = m + 1 := ⟨k - 1, by omega⟩
    refine ⟨true, ?_, by simp; exact fun j h1 h2 => by omega⟩
    simp only [price_factors.l0]
    rw [if_neg (by omega)]
  | succ d ih =>
    intro i k h0 hi hk
    obtain ⟨k, rfl⟩ : ∃ m, k = m + 1 := ⟨k - 1, by omega⟩
    obtain ⟨b, hb, hbg⟩ := ih (i + 1) k (by omega) (by omega) (by omega)
    have hlt : i < (l.length : Int) := by omega
    have hs := ysFrom_step (l := l) hlt
    simp only [price_factors.l0]
    rw [if_pos hlt, if_pos h0, if_pos hlt, w64 (x := i + 1) (by omega) (by omega)]
    by_cases c1 : (rd_T44 l i).f1 < 0
    · exact ⟨false, by rw [if_pos c1], by rw [hs]; simp; omega⟩
    by_cases c2 : (rd_T44 l i).f1 > 10000
    · exact ⟨false, by rw [if_neg c1, if_pos c2], by rw [hs]; simp; omega⟩
    refine ⟨b, by rw [if_neg c1, if_neg c2]; exact hb, ?_⟩
    rw [hs, hbg]
    exact ⟨fun g => ⟨by omega, g⟩, fun g => g.2⟩

theorem factors_eq (l : List S44) (k : Nat) (hk : 70 ≤ k) : ∃ b, price_factors.f k l = some b ∧ (b = true ↔ FOk l) := by
  unfold price_factors.f FOk
  by_cases hp : POk l
  · obtain ⟨v, hv, _⟩ := at_yes l 0 hp k hk
    have n1 := hp.1
    have n2 := hp.2.1
    obtain ⟨b, hb, hbg⟩ := factors_l0 l n2 l.length 0 k (by omega) (by omega) (by omega)
    refine ⟨b, ?_, by rw [hbg]; exact ⟨fun g => ⟨hp, g⟩, fun g => g.2⟩⟩
    rw [hv]
    simp only [Option.bind_some]
    rw [if_pos trivial]; exact hb
  · refine ⟨false, ?_, by simp [hp]⟩
    rw [at_no l 0 hp k hk]; rfl

theorem bounds_eq {L M S : Int} (l3 l4 : List S44) (h0 : 0 ≤ L) (h1 : L ≤ M) (h2 : M ≤ 100000000) (h3 : 1 ≤ S) (h4 : S ≤ 100000) :
    price_bounds.f L M S l3 l4 = some ((L + S - 1) / S * S, M / S * S) ∧ 0 ≤ (L + S - 1) / S * S ∧ (L + S - 1) / S * S ≤ L + S - 1 ∧ 0 ≤ M / S * S ∧ M / S * S ≤ M := by
  have a1 := Int.ediv_nonneg (show 0 ≤ L + S - 1 by omega) (show 0 ≤ S by omega)
  have a2 := Int.ediv_mul_le (L + S - 1) (show S ≠ 0 by omega)
  have a3 := Int.ediv_nonneg (show 0 ≤ M by omega) (show 0 ≤ S by omega)
  have a4 := Int.ediv_mul_le M (show S ≠ 0 by omega)
  have a5 := Int.mul_nonneg a1 (show 0 ≤ S by omega)
  have a6 := Int.mul_nonneg a3 (show 0 ≤ S by omega)
  have a7 := Int.ediv_le_self S (show 0 ≤ L + S - 1 by omega)
  have a8 := Int.ediv_le_self S (show 0 ≤ M by omega)
  refine ⟨?_, a5, a2, a6, a4⟩
  unfold price_bounds.f
  rw [if_neg (by omega), w64 (x := L + S) (by omega) (by omega), w64 (x := L + S - 1) (by omega) (by omega), Int.tdiv_eq_ediv_of_nonneg (show 0 ≤ L + S - 1 by omega), Int.tdiv_eq_ediv_of_nonneg (show 0 ≤ M by omega),
    w64 (x := (L + S - 1) / S) (by omega) (by omega), w64 (x := M / S) (by omega) (by omega), w64 (by omega) (by omega), w64 (by omega) (by omega)]

/-- a * S is at most M just where it is at most the greatest multiple. -/
theorem mul_le_most {a M S : Int} (hS : 0 < S) : a * S ≤ M / S * S ↔ a * S ≤ M := by
  have a4 := Int.ediv_mul_le M (show S ≠ 0 by omega)
  constructor
  · intro h; omega
  · intro h
    exact Int.mul_le_mul_of_nonneg_right ((Int.le_ediv_iff_mul_le hS).2 h) (by omega)

def RangeOk (L M S : Int) : Prop := 0 ≤ L ∧ L ≤ M ∧ M ≤ 100000000 ∧ 1 ≤ S ∧ S ≤ 100000
open Classical in
/-- What Right comes to. -/
noncomputable def rightOf (L M S : Int) (l3 l4 : List S44) : Int :=
  if RangeOk L M S then (if (L + S - 1) / S * S > M then 11 else if FOk l3 ∧ FOk l4 then 0 else 1) else 2

theorem right_eq (L M S : Int) (l3 l4 : List S44) (k : Nat) (hk : 71 ≤ k) : price_Right.f k L M S l3 l4 = some (rightOf L M S l3 l4) := by
  obtain ⟨k, rfl⟩ : ∃ m, k = m + 1 := ⟨k - 1, by omega⟩
  unfold price_Right.f rightOf
  have no : ¬ RangeOk L M S → price_Right.j0 (k + 1) true L M S l3 l4 = some 2 := fun _ => by simp only [price_Right.j0]; rw [if_pos trivial]
  by_cases hr : RangeOk L M S
  · rw [if_pos hr]
    obtain ⟨h0, h1, h2, h3, h4⟩ := hr
    rw [if_neg (by omega), if_neg (by omega), if_neg (by omega), if_neg (by omega), decide_eq_false (by omega)]
    simp only [price_Right.j0]
    obtain ⟨hb, b0, b1, b2, b3⟩ := bounds_eq l3 l4 h0 h1 h2 h3 h4
    rw [if_neg (by decide), hb]
    simp only [Option.bind_some]
    have hm := mul_le_most (a := (L + S - 1) / S) (M := M) (S := S) (by omega)
    by_cases ho : (L + S - 1) / S * S > M
    · rw [if_pos ho, if_pos (by omega)]
    · rw [if_neg ho, if_neg (by omega)]
      obtain ⟨c3, e3, g3⟩ := factors_eq l3 k (by omega)
      obtain ⟨c4, e4, g4⟩ := factors_eq l4 k (by omega)
      rw [e3]
      simp only [Option.bind_some]
      cases c3 with
      | false => rw [if_neg (by decide), if_neg (fun g => absurd (g3.2 g.1) (by decide))]
      | true =>
        rw [if_pos rfl, e4]
        simp only [Option.bind_some]
        cases c4 with
        | false => rw [if_neg (by decide), if_neg (fun g => absurd (g4.2 g.2) (by decide))]
        | true => rw [if_pos rfl, if_pos ⟨g3.1 rfl, g4.1 rfl⟩]
  · rw [if_neg hr]
    have hno := no hr
    unfold RangeOk at hr
    by_cases c1 : L < 0
    · rw [if_pos c1, hno]
    by_cases c2 : L > M
    · rw [if_neg c1, if_pos c2, hno]
    by_cases c3 : M > 100000000
    · rw [if_neg c1, if_neg c2, if_pos c3, hno]
    by_cases c4 : S < 1
    · rw [if_neg c1, if_neg c2, if_neg c3, if_pos c4, hno]
    rw [if_neg c1, if_neg c2, if_neg c3, if_neg c4, decide_eq_true (by omega), hno]
end Go.Proofs.Ytnfplnpimkpbkaa.Pr
