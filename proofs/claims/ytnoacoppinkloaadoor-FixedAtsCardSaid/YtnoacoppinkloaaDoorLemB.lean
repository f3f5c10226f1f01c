/- Plain lemmas: the reference's points and values are the program's. -/
import Derived.Test.YtnoacoppinkloaaDoorLemA
import Derived.Test.YtnoacoppinkloaaDoorPr19
namespace Go.Proofs.YtnoacoppinkloaaDoor.Pr
open Go.RowKit Go.Proofs.YtnoacoppinkloaaDoorW.PrintWords Go.Proofs.YtnoacoppinkloaaDoorW.PrintLast Go.Proofs.YtnoacoppinkloaaDoorW.PrintMore
set_option linter.unusedVariables false
set_option linter.unusedSimpArgs false
/-! ### The reference's points and values -/
theorem within_ref (a : Int) (b : Int) (h0 : 0 ≤ b) (h1 : b ≤ 1125899906842624) : ∃ t, skiarearef01_Within.f a b = some t ∧ (t = true ↔ -b ≤ a ∧ a ≤ b) := by
  unfold skiarearef01_Within.f
  rw [w64 (by omega) (by omega)]
  by_cases c : a ≥ -b
  · exact ⟨decide (a ≤ b), by rw [if_pos c], by simp; omega⟩
  · exact ⟨false, by rw [if_neg c], by simp; omega⟩

theorem refPoints_l0 (l : List S28) (hn : l.length ≤ 64) : ∀ (d : Nat) (i : Int) (k : Nat), 0 ≤ i → i + d = l.length → d < k →
    ∃ b, skiarearef01_Points.l0 k l i = some b ∧ (b = true ↔ goodFrom l i) := by
  intro d
  induction d with
  | zero =>
    intro i k h0 hi hk
    obtain ⟨k, rfl⟩ : ∃ m, k = m + 1 := ⟨k - 1, by omega⟩
    refine ⟨true, ?_, by simp; exact goodFrom_end (by omega)⟩
    simp only [skiarearef01_Points.l0]
    rw [if_neg (by omega)]
  | succ d ih =>
    intro i k h0 hi hk
    obtain ⟨k, rfl⟩ : ∃ m, k = m + 1 := ⟨k - 1, by omega⟩
    obtain ⟨b, hb, hbg⟩ := ih (i + 1) k (by omega) (by omega) (by omega)
    have hlt : i < (l.length : Int) := by omega
    have hs := goodFrom_step (l := l) hlt
    obtain ⟨t1, e1, g1⟩ := within_ref (rd_T28 l i).f0 1000000000 (by omega) (by omega)
    obtain ⟨t2, e2, g2⟩ := within_ref (rd_T28 l i).f1 1000000000 (by omega) (by omega)
    simp only [skiarearef01_Points.l0]
    rw [if_pos hlt, if_pos h0, w64 (x := i - 1) (by omega) (by omega), w64 (x := i + 1) (by omega) (by omega), e1, e2]
    simp only [Option.bind_some]
    have no : ∀ (p : ¬ goodAt l i), (false = true ↔ goodFrom l i) := fun p => by rw [hs]; simp [p]
    by_cases c1 : t1 = true
    · have d1 := g1.1 c1
      by_cases c2 : t2 = true
      · have d2 := g2.1 c2
        by_cases c5 : i > 0
        · by_cases c6 : (rd_T28 l i).f0 ≤ (rd_T28 l (i - 1)).f0
          · exact ⟨false, by rw [if_pos c1, if_pos c2, if_pos c5, if_pos (by omega), if_pos (by omega), if_pos c6], no fun g => by have := g.2.2.2.2 c5; omega⟩
          · refine ⟨b, by rw [if_pos c1, if_pos c2, if_pos c5, if_pos (by omega), if_pos (by omega), if_neg c6]; exact hb, ?_⟩
            rw [hs, hbg]
            exact ⟨fun g => ⟨⟨by omega, by omega, by omega, by omega, fun _ => by omega⟩, g⟩, fun g => g.2⟩
        · refine ⟨b, by rw [if_pos c1, if_pos c2, if_neg c5]; exact hb, ?_⟩
          rw [hs, hbg]
          exact ⟨fun g => ⟨⟨by omega, by omega, by omega, by omega, fun _ => by omega⟩, g⟩, fun g => g.2⟩
      · exact ⟨false, by rw [if_pos c1, if_neg c2], no fun g => c2 (g2.2 ⟨by have := g.2.2.1; omega, g.2.2.2.1⟩)⟩
    · exact ⟨false, by rw [if_neg c1], no fun g => c1 (g1.2 ⟨by have := g.1; omega, g.2.1⟩)⟩

theorem refPoints_eq (l : List S28) (k : Nat) (hk : 70 ≤ k) : ∃ b, skiarearef01_Points.f k l = some b ∧ (b = true ↔ POk l) := by
  obtain ⟨k, rfl⟩ : ∃ m, k = m + 1 := ⟨k - 1, by omega⟩
  unfold skiarearef01_Points.f POk
  by_cases h1 : (l.length : Int) < 1
  · refine ⟨false, by rw [if_pos h1]; simp only [skiarearef01_Points.j0]; rw [if_pos trivial], by simp; omega⟩
  rw [if_neg h1]
  by_cases h2 : (l.length : Int) > 64
  · refine ⟨false, by rw [decide_eq_true h2]; simp only [skiarearef01_Points.j0]; rw [if_pos trivial], by simp; omega⟩
  obtain ⟨b, hb, hbg⟩ := refPoints_l0 l (by omega) l.length 0 k (by omega) (by omega) (by omega)
  refine ⟨b, ?_, ?_⟩
  · rw [decide_eq_false h2]; simp only [skiarearef01_Points.j0]; rw [if_neg (by decide)]; exact hb
  · rw [hbg]; exact ⟨fun g => ⟨by omega, by omega, g⟩, fun g => g.2.2⟩
theorem floor_ref (a b : Int) : skiarearef01_Floor.f a b = fixed_floor.f a b := rfl
theorem refAt_l0 (l : List S28) (x : Int) : ∀ (k : Nat) (i : Int), skiarearef01_At.l0 k l x i = fixed_At.l0 k l x i := by
  intro k
  induction k with
  | zero => intro i; rfl
  | succ k ih => intro i; simp only [skiarearef01_At.l0, fixed_At.l0, ih, floor_ref]
theorem refAt_eq (l : List S28) (x : Int) (k : Nat) (hk : 70 ≤ k) : skiarearef01_At.f k l x = fixed_At.f k l x := by
  obtain ⟨b, hb, hbp⟩ := points_eq l k hk
  obtain ⟨b', hb', hbp'⟩ := refPoints_eq l k hk
  have e : b' = b := by
    cases b <;> cases b' <;> simp_all
  unfold skiarearef01_At.f fixed_At.f
  rw [hb, hb', e]
  simp only [refAt_l0]
end Go.Proofs.YtnoacoppinkloaaDoor.Pr
