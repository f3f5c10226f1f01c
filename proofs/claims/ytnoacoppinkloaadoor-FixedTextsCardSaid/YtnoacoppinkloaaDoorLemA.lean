/- Plain lemmas on piecewise linear functions. -/
import Derived.Test.YtnoacoppinkloaaDoorPr2
namespace Go.Proofs.YtnoacoppinkloaaDoor.Pr
open Go.RowKit Go.Proofs.YtnoacoppinkloaaDoorW.PrintWords Go.Proofs.YtnoacoppinkloaaDoorW.PrintLast Go.Proofs.YtnoacoppinkloaaDoorW.PrintMore
set_option linter.unusedVariables false
set_option linter.unusedSimpArgs false
/-! ### Words on numbers -/
theorem w64 {x : Int} (h0 : -9223372036854775808 ≤ x) (h1 : x ≤ 9223372036854775807) : wrap64 x = x := by unfold wrap64; omega

theorem tdiv_pos (N : Int) {D : Int} (hD : 0 < D) : (if Int.tmod N D < 0 then Int.tdiv N D - 1 else Int.tdiv N D) = N / D := by
  rcases Int.le_total 0 N with h | h
  · rw [Int.tdiv_eq_ediv_of_nonneg h, Int.tmod_eq_emod_of_nonneg h]
    have := Int.emod_nonneg N (by omega : D ≠ 0)
    rw [if_neg (by omega)]
  · obtain ⟨M, rfl⟩ : ∃ M, N = -M := ⟨-N, by omega⟩
    have hM : 0 ≤ M := by omega
    rw [Int.neg_tdiv, Int.neg_tmod, Int.tdiv_eq_ediv_of_nonneg hM, Int.tmod_eq_emod_of_nonneg hM]
    have h1 := Int.emod_nonneg M (by omega : D ≠ 0)
    have h2 := Int.emod_lt_of_pos M hD
    have h3 := Int.emod_add_mul_ediv M D
    split
    · exact ((Int.ediv_emod_unique hD (r := D - M % D) (q := -(M / D) - 1)).2 ⟨by rw [Int.mul_sub, Int.mul_neg]; omega, by omega, by omega⟩).1.symm
    · exact ((Int.ediv_emod_unique hD (r := 0) (q := -(M / D))).2 ⟨by rw [Int.mul_neg]; omega, by omega, by omega⟩).1.symm

theorem ediv_bound {N D B : Int} (hD : 0 < D) (hB : 0 ≤ B) (h0 : -B ≤ N) (h1 : N ≤ B) : -B ≤ N / D ∧ N / D ≤ B := by
  constructor
  · rw [Int.le_ediv_iff_mul_le hD]
    have : B * 1 ≤ B * D := Int.mul_le_mul_of_nonneg_left (by omega) hB
    rw [Int.neg_mul]; omega
  · have h2 : N / D < B + 1 := by
      apply Int.ediv_lt_of_lt_mul hD
      have : (B + 1) * 1 ≤ (B + 1) * D := Int.mul_le_mul_of_nonneg_left (by omega) (by omega)
      omega
    omega

/-- floor divides, rounded down. -/
theorem floor_eq {N D : Int} (hD : 0 < D) (h0 : -9223372036854775000 ≤ N) (h1 : N ≤ 9223372036854775000) : fixed_floor.f N D = some (N / D) := by
  unfold fixed_floor.f
  rw [if_neg (by omega)]
  obtain ⟨b0, b1⟩ := ediv_bound hD (by omega) h0 h1
  have e := tdiv_pos N hD
  split
  · rw [if_pos (by assumption)] at e
    rw [w64 (x := Int.tdiv N D) (by omega) (by omega), w64 (by omega) (by omega), e]
  · rw [if_neg (by assumption)] at e
    rw [e, w64 (by omega) (by omega)]

/-! ### Points -/
def goodAt (l : List S28) (j : Int) : Prop :=
  -1000000000 ≤ (rd_T28 l j).f0 ∧ (rd_T28 l j).f0 ≤ 1000000000 ∧ -1000000000 ≤ (rd_T28 l j).f1 ∧ (rd_T28 l j).f1 ≤ 1000000000 ∧ (0 < j → (rd_T28 l (j - 1)).f0 < (rd_T28 l j).f0)
def goodFrom (l : List S28) (i : Int) : Prop := ∀ j, i ≤ j → j < (l.length : Int) → goodAt l j
def POk (l : List S28) : Prop := 1 ≤ l.length ∧ l.length ≤ 64 ∧ goodFrom l 0

theorem goodFrom_step {l : List S28} {i : Int} (h : i < (l.length : Int)) : goodFrom l i ↔ goodAt l i ∧ goodFrom l (i + 1) := by
  constructor
  · intro g; exact ⟨g i (Int.le_refl _) h, fun j h1 h2 => g j (by omega) h2⟩
  · rintro ⟨a, g⟩ j h1 h2
    by_cases e : j = i
    · subst e; exact a
    · exact g j (by omega) h2

theorem goodFrom_end {l : List S28} {i : Int} (h : (l.length : Int) ≤ i) : goodFrom l i := fun j h1 h2 => by omega

theorem points_l0 (l : List S28) (hn : l.length ≤ 64) : ∀ (d : Nat) (i : Int) (k : Nat), 0 ≤ i → i + d = l.length → d < k →
    ∃ b, fixed_points.l0 k l l (l.length : Int) i = some b ∧ (b = true ↔ goodFrom l i) := by
  intro d
  induction d with
  | zero =>
    intro i k h0 hi hk
    obtain ⟨k, rfl⟩ : ∃ m, k = m + 1 := ⟨k - 1, by omega⟩
    refine ⟨true, ?_, by simp; exact goodFrom_end (by omega)⟩
    simp only [fixed_points.l0]
    rw [if_neg (by omega)]
  | succ d ih =>
    intro i k h0 hi hk
    obtain ⟨k, rfl⟩ : ∃ m, k = m + 1 := ⟨k - 1, by omega⟩
    obtain ⟨b, hb, hbg⟩ := ih (i + 1) k (by omega) (by omega) (by omega)
    have hlt : i < (l.length : Int) := by omega
    have hs := goodFrom_step (l := l) hlt
    simp only [fixed_points.l0]
    rw [if_pos hlt, if_pos h0, if_pos hlt, w64 (by omega) (by omega), w64 (by omega) (by omega)]
    have no : ∀ (p : ¬ goodAt l i), (false = true ↔ goodFrom l i) := fun p => by rw [hs]; simp [p]
    by_cases c1 : (rd_T28 l i).f0 < -1000000000
    · exact ⟨false, by rw [if_pos c1], no fun g => by have := g.1; omega⟩
    by_cases c2 : (rd_T28 l i).f0 > 1000000000
    · exact ⟨false, by rw [if_neg c1, if_pos c2], no fun g => by have := g.2.1; omega⟩
    by_cases c3 : (rd_T28 l i).f1 < -1000000000
    · exact ⟨false, by rw [if_neg c1, if_neg c2, if_pos c3], no fun g => by have := g.2.2.1; omega⟩
    by_cases c4 : (rd_T28 l i).f1 > 1000000000
    · exact ⟨false, by rw [if_neg c1, if_neg c2, if_neg c3, if_pos c4], no fun g => by have := g.2.2.2.1; omega⟩
    by_cases c5 : i > 0
    · by_cases c6 : (rd_T28 l i).f0 ≤ (rd_T28 l (i - 1)).f0
      · exact ⟨false, by rw [if_neg c1, if_neg c2, if_neg c3, if_neg c4, if_pos c5, if_pos (by omega), if_pos (by omega), if_pos c6], no fun g => by have := g.2.2.2.2 c5; omega⟩
      · refine ⟨b, by rw [if_neg c1, if_neg c2, if_neg c3, if_neg c4, if_pos c5, if_pos (by omega), if_pos (by omega), if_neg c6]; exact hb, ?_⟩
        rw [hs, hbg]
        exact ⟨fun g => ⟨⟨by omega, by omega, by omega, by omega, fun _ => by omega⟩, g⟩, fun g => g.2⟩
    · refine ⟨b, by rw [if_neg c1, if_neg c2, if_neg c3, if_neg c4, if_neg c5]; exact hb, ?_⟩
      rw [hs, hbg]
      exact ⟨fun g => ⟨⟨by omega, by omega, by omega, by omega, fun _ => by omega⟩, g⟩, fun g => g.2⟩

theorem points_eq (l : List S28) (k : Nat) (hk : 70 ≤ k) : ∃ b, fixed_points.f k l = some b ∧ (b = true ↔ POk l) := by
  obtain ⟨k, rfl⟩ : ∃ m, k = m + 1 := ⟨k - 1, by omega⟩
  unfold fixed_points.f POk
  by_cases h1 : (l.length : Int) < 1
  · refine ⟨false, by rw [if_pos h1]; simp only [fixed_points.j0]; rw [if_pos trivial], by simp; omega⟩
  rw [if_neg h1]
  by_cases h2 : (l.length : Int) > 64
  · refine ⟨false, by rw [decide_eq_true h2]; simp only [fixed_points.j0]; rw [if_pos trivial], by simp; omega⟩
  obtain ⟨b, hb, hbg⟩ := points_l0 l (by omega) l.length 0 k (by omega) (by omega) (by omega)
  refine ⟨b, ?_, ?_⟩
  · rw [decide_eq_false h2]; simp only [fixed_points.j0]; rw [if_neg (by decide)]; exact hb
  · rw [hbg]; exact ⟨fun g => ⟨by omega, by omega, g⟩, fun g => g.2.2⟩

/-! ### The value of a function -/
/-- v is the value at x. -/
def IsAt (l : List S28) (x v : Int) : Prop :=
  (x ≤ (rd_T28 l 0).f0 ∧ v = (rd_T28 l 0).f1) ∨
  ((rd_T28 l 0).f0 < x ∧ (rd_T28 l ((l.length : Int) - 1)).f0 ≤ x ∧ v = (rd_T28 l ((l.length : Int) - 1)).f1) ∨
  ∃ i : Int, 0 ≤ i ∧ i + 1 < (l.length : Int) ∧ (rd_T28 l i).f0 ≤ x ∧ x < (rd_T28 l (i + 1)).f0 ∧
    v = (rd_T28 l i).f1 + (((rd_T28 l (i + 1)).f1 - (rd_T28 l i).f1) * (x - (rd_T28 l i).f0)) / ((rd_T28 l (i + 1)).f0 - (rd_T28 l i).f0)

theorem mul_bound {a b A B : Int} (ha0 : -A ≤ a) (ha1 : a ≤ A) (hb0 : 0 ≤ b) (hb : b ≤ B) (hA : 0 ≤ A) : -(A * B) ≤ a * b ∧ a * b ≤ A * B := by
  have h1 : a * b ≤ A * b := Int.mul_le_mul_of_nonneg_right ha1 hb0
  have h2 : -A * b ≤ a * b := Int.mul_le_mul_of_nonneg_right ha0 hb0
  have h3 : A * b ≤ A * B := Int.mul_le_mul_of_nonneg_left hb hA
  rw [Int.neg_mul] at h2
  omega

theorem at_l0 (l : List S28) (x : Int) (hp : POk l) (hx : x < (rd_T28 l ((l.length : Int) - 1)).f0) : ∀ (d : Nat) (i : Int) (k : Nat), 0 ≤ i → i + 1 + d = l.length → (rd_T28 l i).f0 ≤ x → d < k →
    ∃ v, fixed_At.l0 k l x i = some (v, 0) ∧ IsAt l x v := by
  obtain ⟨n1, n2, hg⟩ := hp
  intro d
  induction d with
  | zero =>
    intro i k h0 hi hxi hk
    have : (l.length : Int) - 1 = i := by omega
    rw [this] at hx; omega
  | succ d ih =>
    intro i k h0 hi hxi hk
    obtain ⟨k, rfl⟩ : ∃ m, k = m + 1 := ⟨k - 1, by omega⟩
    have a := hg i (by omega) (by omega)
    have b := hg (i + 1) (by omega) (by omega)
    have b5 := b.2.2.2.2 (by omega)
    rw [show i + 1 - 1 = i by omega] at b5
    obtain ⟨a1, a2, a3, a4, _⟩ := a
    obtain ⟨b1, b2, b3, b4, _⟩ := b
    simp only [fixed_At.l0]
    rw [w64 (x := i + 1) (by omega) (by omega), if_pos (by omega), if_pos (by omega)]
    by_cases c : (rd_T28 l (i + 1)).f0 ≤ x
    · rw [if_pos c]
      exact ih (i + 1) k (by omega) (by omega) c (by omega)
    · rw [if_neg c, if_pos h0, if_pos (by omega)]
      have m := mul_bound (a := (rd_T28 l (i + 1)).f1 - (rd_T28 l i).f1) (b := x - (rd_T28 l i).f0) (A := 2000000000) (B := 2000000000) (by omega) (by omega) (by omega) (by omega) (by omega)
      rw [w64 (x := (rd_T28 l (i + 1)).f1 - (rd_T28 l i).f1) (by omega) (by omega), w64 (x := x - (rd_T28 l i).f0) (by omega) (by omega), w64 (x := ((rd_T28 l (i + 1)).f1 - (rd_T28 l i).f1) * (x - (rd_T28 l i).f0)) (by omega) (by omega), w64 (x := (rd_T28 l (i + 1)).f0 - (rd_T28 l i).f0) (by omega) (by omega)]
      obtain ⟨q0, q1⟩ := ediv_bound (N := ((rd_T28 l (i + 1)).f1 - (rd_T28 l i).f1) * (x - (rd_T28 l i).f0)) (D := (rd_T28 l (i + 1)).f0 - (rd_T28 l i).f0) (B := 2000000000 * 2000000000) (by omega) (by omega) m.1 m.2
      rw [floor_eq (by omega) (by omega) (by omega)]
      simp only [Option.bind_some]
      rw [w64 (by omega) (by omega)]
      exact ⟨_, rfl, .inr (.inr ⟨i, h0, by omega, hxi, by omega, rfl⟩)⟩

theorem at_yes (l : List S28) (x : Int) (hp : POk l) (k : Nat) (hk : 70 ≤ k) : ∃ v, fixed_At.f k l x = some (v, 0) ∧ IsAt l x v := by
  obtain ⟨b, hb, hbp⟩ := points_eq l k hk
  obtain rfl : b = true := hbp.2 hp
  have hp' := hp
  obtain ⟨n1, n2, hg⟩ := hp
  unfold fixed_At.f
  rw [hb]
  simp only [Option.bind_some]
  rw [if_pos trivial, w64 (x := (l.length : Int) - 1) (by omega) (by omega), if_pos (by omega), if_pos (by omega), if_pos (by omega)]
  by_cases c1 : x ≤ (rd_T28 l 0).f0
  · exact ⟨_, by rw [if_pos c1], .inl ⟨c1, rfl⟩⟩
  by_cases c2 : x ≥ (rd_T28 l ((l.length : Int) - 1)).f0
  · exact ⟨_, by rw [if_neg c1, if_pos c2], .inr (.inl ⟨by omega, c2, rfl⟩)⟩
  rw [if_neg c1, if_neg c2]
  exact at_l0 l x hp' (by omega) (l.length - 1) 0 k (by omega) (by omega) (by omega) (by omega)

theorem at_no (l : List S28) (x : Int) (hp : ¬ POk l) (k : Nat) (hk : 70 ≤ k) : fixed_At.f k l x = some (0, 1) := by
  obtain ⟨b, hb, hbp⟩ := points_eq l k hk
  obtain rfl : b = false := by cases b with | false => rfl | true => exact absurd (hbp.1 rfl) hp
  unfold fixed_At.f
  rw [hb]; rfl

theorem interp_bound {y0 y1 a D lo hi : Int} (hD : 0 < D) (ha0 : 0 ≤ a) (ha : a ≤ D) (h0 : lo ≤ y0) (h0' : y0 ≤ hi) (h1 : lo ≤ y1) (h1' : y1 ≤ hi) :
    lo ≤ y0 + (y1 - y0) * a / D ∧ y0 + (y1 - y0) * a / D ≤ hi := by
  rcases Int.le_total y0 y1 with h | h
  · have q0 : 0 ≤ (y1 - y0) * a / D := Int.ediv_nonneg (Int.mul_nonneg (by omega) ha0) (by omega)
    have q1 : (y1 - y0) * a / D < (y1 - y0) + 1 := by
      apply Int.ediv_lt_of_lt_mul hD
      have : (y1 - y0) * a ≤ (y1 - y0) * D := Int.mul_le_mul_of_nonneg_left ha (by omega)
      rw [Int.add_mul]; omega
    omega
  · have q1 : (y1 - y0) * a / D < 1 := by
      apply Int.ediv_lt_of_lt_mul hD
      have : 0 ≤ (y0 - y1) * a := Int.mul_nonneg (by omega) ha0
      have e : (y1 - y0) * a = -((y0 - y1) * a) := by rw [← Int.neg_mul]; congr 1; omega
      omega
    have q0 : (y1 - y0) ≤ (y1 - y0) * a / D := by
      rw [Int.le_ediv_iff_mul_le hD]
      have h2 : (y0 - y1) * a ≤ (y0 - y1) * D := Int.mul_le_mul_of_nonneg_left ha (by omega)
      have e : (y1 - y0) * a = -((y0 - y1) * a) := by rw [← Int.neg_mul]; congr 1; omega
      have e2 : (y1 - y0) * D = -((y0 - y1) * D) := by rw [← Int.neg_mul]; congr 1; omega
      omega
    omega

theorem isAt_bound {l : List S28} {x v lo hi : Int} (hp : POk l) (hb : ∀ j : Int, 0 ≤ j → j < (l.length : Int) → lo ≤ (rd_T28 l j).f1 ∧ (rd_T28 l j).f1 ≤ hi) (h : IsAt l x v) : lo ≤ v ∧ v ≤ hi := by
  obtain ⟨n1, n2, hg⟩ := hp
  rcases h with ⟨_, rfl⟩ | ⟨_, _, rfl⟩ | ⟨i, i0, i1, x0, x1, rfl⟩
  · exact hb 0 (by omega) (by omega)
  · exact hb _ (by omega) (by omega)
  · have a := hb i (by omega) (by omega)
    have b := hb (i + 1) (by omega) (by omega)
    exact interp_bound (by omega) (by omega) (by omega) a.1 a.2 b.1 b.2

/-- The X increase. -/
theorem xs_lt {l : List S28} (hp : POk l) : ∀ (d : Nat) (i : Int), 0 ≤ i → i + d + 1 < (l.length : Int) → (rd_T28 l i).f0 < (rd_T28 l (i + d + 1)).f0 := by
  obtain ⟨n1, n2, hg⟩ := hp
  intro d
  induction d with
  | zero =>
    intro i h0 h1
    have := (hg (i + 1) (by omega) (by omega)).2.2.2.2 (by omega)
    rw [show i + 1 - 1 = i by omega] at this
    simpa using this
  | succ d ih =>
    intro i h0 h1
    have a := ih i h0 (by omega)
    have := (hg (i + d + 1 + 1) (by omega) (by omega)).2.2.2.2 (by omega)
    rw [show i + d + 1 + 1 - 1 = i + d + 1 by omega] at this
    rw [show i + (d + 1 : Nat) + 1 = i + d + 1 + 1 by omega]
    omega
theorem xs_le {l : List S28} (hp : POk l) {i j : Int} (h0 : 0 ≤ i) (hij : i ≤ j) (hj : j < (l.length : Int)) : (rd_T28 l i).f0 ≤ (rd_T28 l j).f0 := by
  by_cases e : i = j
  · rw [e]; exact Int.le_refl _
  · have := xs_lt hp (j - i - 1).toNat i h0 (by omega)
    rw [show i + ((j - i - 1).toNat : Int) + 1 = j by omega] at this
    omega

/-- The value is the only one. -/
theorem isAt_unique {l : List S28} {x v v' : Int} (hp : POk l) (h : IsAt l x v) (h' : IsAt l x v') : v = v' := by
  have n1 := hp.1
  have e1 := @xs_le l hp
  rcases h with ⟨c, rfl⟩ | ⟨c, c2, rfl⟩ | ⟨i, i0, i1, x0, x1, rfl⟩ <;> rcases h' with ⟨d, rfl⟩ | ⟨d, d2, rfl⟩ | ⟨j, j0, j1, y0, y1, rfl⟩
  · rfl
  · omega
  · have := e1 (Int.le_refl 0) j0 (by omega)
    have e : x = (rd_T28 l j).f0 := by omega
    have e2 : j = 0 := by
      apply Int.le_antisymm _ j0
      apply Int.not_lt.mp; intro hlt
      have := xs_lt hp (j - 1).toNat 0 (by omega) (by omega)
      rw [show (0 : Int) + ((j - 1).toNat : Int) + 1 = j by omega] at this
      omega
    subst e2
    rw [show x - (rd_T28 l 0).f0 = 0 by omega]; simp
  · omega
  · rfl
  · have := e1 (i := j + 1) (j := (l.length : Int) - 1) (by omega) (by omega) (by omega); omega
  · have := e1 (Int.le_refl 0) i0 (by omega)
    have e : x = (rd_T28 l i).f0 := by omega
    have e2 : i = 0 := by
      apply Int.le_antisymm _ i0
      apply Int.not_lt.mp; intro hlt
      have := xs_lt hp (i - 1).toNat 0 (by omega) (by omega)
      rw [show (0 : Int) + ((i - 1).toNat : Int) + 1 = i by omega] at this
      omega
    subst e2
    rw [show x - (rd_T28 l 0).f0 = 0 by omega]; simp
  · have := e1 (i := i + 1) (j := (l.length : Int) - 1) (by omega) (by omega) (by omega); omega
  · have e : i = j := by
      rcases Int.lt_trichotomy i j with h | h | h
      · have := e1 (i := i + 1) (j := j) (by omega) (by omega) (by omega); omega
      · exact h
      · have := e1 (i := j + 1) (j := i) (by omega) (by omega) (by omega); omega
    subst e; rfl
/-! ### A function that rises, or falls -/
theorem adj_up {l : List S28} (h : ∀ j : Int, 1 ≤ j → j < (l.length : Int) → (rd_T28 l (j - 1)).f1 ≤ (rd_T28 l j).f1) : ∀ (d : Nat) (i : Int), 0 ≤ i → i + d < (l.length : Int) → (rd_T28 l i).f1 ≤ (rd_T28 l (i + d)).f1 := by
  intro d
  induction d with
  | zero => intro i h0 h1; simp
  | succ d ih =>
    intro i h0 h1
    have a := ih i h0 (by omega)
    have b := h (i + d + 1) (by omega) (by omega)
    rw [show i + d + 1 - 1 = i + d by omega] at b
    rw [show i + (d + 1 : Nat) = i + d + 1 by omega]
    omega
theorem adj_down {l : List S28} (h : ∀ j : Int, 1 ≤ j → j < (l.length : Int) → (rd_T28 l j).f1 ≤ (rd_T28 l (j - 1)).f1) : ∀ (d : Nat) (i : Int), 0 ≤ i → i + d < (l.length : Int) → (rd_T28 l (i + d)).f1 ≤ (rd_T28 l i).f1 := by
  intro d
  induction d with
  | zero => intro i h0 h1; simp
  | succ d ih =>
    intro i h0 h1
    have a := ih i h0 (by omega)
    have b := h (i + d + 1) (by omega) (by omega)
    rw [show i + d + 1 - 1 = i + d by omega] at b
    rw [show i + (d + 1 : Nat) = i + d + 1 by omega]
    omega

theorem isAt_up {l : List S28} {x y v u : Int} (hp : POk l) (hr : ∀ j : Int, 1 ≤ j → j < (l.length : Int) → (rd_T28 l (j - 1)).f1 ≤ (rd_T28 l j).f1) (hxy : x ≤ y) (hv : IsAt l x v) (hu : IsAt l y u) : v ≤ u := by
  have n1 := hp.1
  have up : ∀ i j : Int, 0 ≤ i → i ≤ j → j < (l.length : Int) → (rd_T28 l i).f1 ≤ (rd_T28 l j).f1 := fun i j h0 hij hj => by
    have := adj_up hr (j - i).toNat i h0 (by omega)
    rwa [show i + ((j - i).toNat : Int) = j by omega] at this
  have hi : ∀ w z, IsAt l w z → z ≤ (rd_T28 l ((l.length : Int) - 1)).f1 := fun w z h => (isAt_bound hp (lo := (rd_T28 l 0).f1) (hi := (rd_T28 l ((l.length : Int) - 1)).f1) (fun j j0 j1 => ⟨up 0 j (by omega) j0 j1, up j _ j0 (by omega) (by omega)⟩) h).2
  have lo : ∀ w z, IsAt l w z → (rd_T28 l 0).f1 ≤ z := fun w z h => (isAt_bound hp (lo := (rd_T28 l 0).f1) (hi := (rd_T28 l ((l.length : Int) - 1)).f1) (fun j j0 j1 => ⟨up 0 j (by omega) j0 j1, up j _ j0 (by omega) (by omega)⟩) h).1
  have hv' := hv
  have hu' := hu
  rcases hv with ⟨c, rfl⟩ | ⟨c, c2, rfl⟩ | ⟨i, i0, i1, x0, x1, rfl⟩
  · exact lo _ _ hu
  · rcases hu with ⟨d, rfl⟩ | ⟨d, d2, rfl⟩ | ⟨j, j0, j1, y0, y1, rfl⟩
    · omega
    · exact Int.le_refl _
    · have := xs_le hp (i := j + 1) (j := (l.length : Int) - 1) (by omega) (by omega) (by omega); omega
  · rcases hu with ⟨d, rfl⟩ | ⟨d, d2, rfl⟩ | ⟨j, j0, j1, y0, y1, rfl⟩
    · have := xs_le hp (i := 0) (j := i) (by omega) (by omega) (by omega)
      have e : x = y := by omega
      subst e
      exact Int.le_of_eq (isAt_unique hp hv' hu')
    · exact hi _ _ hv'
    · rcases Int.lt_trichotomy i j with h | h | h
      · have a := interp_bound (y0 := (rd_T28 l i).f1) (y1 := (rd_T28 l (i + 1)).f1) (a := x - (rd_T28 l i).f0) (D := (rd_T28 l (i + 1)).f0 - (rd_T28 l i).f0) (lo := (rd_T28 l i).f1) (hi := (rd_T28 l (i + 1)).f1) (by omega) (by omega) (by omega) (by omega) (up i (i + 1) i0 (by omega) (by omega)) (up i (i + 1) i0 (by omega) (by omega)) (by omega)
        have b := interp_bound (y0 := (rd_T28 l j).f1) (y1 := (rd_T28 l (j + 1)).f1) (a := y - (rd_T28 l j).f0) (D := (rd_T28 l (j + 1)).f0 - (rd_T28 l j).f0) (lo := (rd_T28 l j).f1) (hi := (rd_T28 l (j + 1)).f1) (by omega) (by omega) (by omega) (by omega) (up j (j + 1) j0 (by omega) (by omega)) (up j (j + 1) j0 (by omega) (by omega)) (by omega)
        have c := up (i + 1) j (by omega) (by omega) (by omega)
        omega
      · subst h
        have d := up i (i + 1) i0 (by omega) (by omega)
        have := Int.ediv_le_ediv (c := (rd_T28 l (i + 1)).f0 - (rd_T28 l i).f0) (by omega) (Int.mul_le_mul_of_nonneg_left (show x - (rd_T28 l i).f0 ≤ y - (rd_T28 l i).f0 by omega) (show 0 ≤ (rd_T28 l (i + 1)).f1 - (rd_T28 l i).f1 by omega))
        omega
      · have := xs_le hp (i := j + 1) (j := i) (by omega) (by omega) (by omega); omega

theorem isAt_down {l : List S28} {x y v u : Int} (hp : POk l) (hr : ∀ j : Int, 1 ≤ j → j < (l.length : Int) → (rd_T28 l j).f1 ≤ (rd_T28 l (j - 1)).f1) (hxy : x ≤ y) (hv : IsAt l x v) (hu : IsAt l y u) : u ≤ v := by
  have n1 := hp.1
  have up : ∀ i j : Int, 0 ≤ i → i ≤ j → j < (l.length : Int) → (rd_T28 l j).f1 ≤ (rd_T28 l i).f1 := fun i j h0 hij hj => by
    have := adj_down hr (j - i).toNat i h0 (by omega)
    rwa [show i + ((j - i).toNat : Int) = j by omega] at this
  have hi : ∀ w z, IsAt l w z → (rd_T28 l ((l.length : Int) - 1)).f1 ≤ z := fun w z h => (isAt_bound hp (hi := (rd_T28 l 0).f1) (lo := (rd_T28 l ((l.length : Int) - 1)).f1) (fun j j0 j1 => ⟨up j _ j0 (by omega) (by omega), up 0 j (by omega) j0 j1⟩) h).1
  have lo : ∀ w z, IsAt l w z → z ≤ (rd_T28 l 0).f1 := fun w z h => (isAt_bound hp (hi := (rd_T28 l 0).f1) (lo := (rd_T28 l ((l.length : Int) - 1)).f1) (fun j j0 j1 => ⟨up j _ j0 (by omega) (by omega), up 0 j (by omega) j0 j1⟩) h).2
  have hv' := hv
  have hu' := hu
  rcases hv with ⟨c, rfl⟩ | ⟨c, c2, rfl⟩ | ⟨i, i0, i1, x0, x1, rfl⟩
  · exact lo _ _ hu
  · rcases hu with ⟨d, rfl⟩ | ⟨d, d2, rfl⟩ | ⟨j, j0, j1, y0, y1, rfl⟩
    · omega
    · exact Int.le_refl _
    · have := xs_le hp (i := j + 1) (j := (l.length : Int) - 1) (by omega) (by omega) (by omega); omega
  · rcases hu with ⟨d, rfl⟩ | ⟨d, d2, rfl⟩ | ⟨j, j0, j1, y0, y1, rfl⟩
    · have := xs_le hp (i := 0) (j := i) (by omega) (by omega) (by omega)
      have e : x = y := by omega
      subst e
      exact Int.le_of_eq (isAt_unique hp hu' hv')
    · exact hi _ _ hv'
    · rcases Int.lt_trichotomy i j with h | h | h
      · have a := interp_bound (y0 := (rd_T28 l i).f1) (y1 := (rd_T28 l (i + 1)).f1) (a := x - (rd_T28 l i).f0) (D := (rd_T28 l (i + 1)).f0 - (rd_T28 l i).f0) (lo := (rd_T28 l (i + 1)).f1) (hi := (rd_T28 l i).f1) (by omega) (by omega) (by omega) (up i (i + 1) i0 (by omega) (by omega)) (by omega) (by omega) (up i (i + 1) i0 (by omega) (by omega))
        have b := interp_bound (y0 := (rd_T28 l j).f1) (y1 := (rd_T28 l (j + 1)).f1) (a := y - (rd_T28 l j).f0) (D := (rd_T28 l (j + 1)).f0 - (rd_T28 l j).f0) (lo := (rd_T28 l (j + 1)).f1) (hi := (rd_T28 l j).f1) (by omega) (by omega) (by omega) (up j (j + 1) j0 (by omega) (by omega)) (by omega) (by omega) (up j (j + 1) j0 (by omega) (by omega))
        have c := up (i + 1) j (by omega) (by omega) (by omega)
        omega
      · subst h
        have d := up i (i + 1) i0 (by omega) (by omega)
        have e1 : ((rd_T28 l (i + 1)).f1 - (rd_T28 l i).f1) * (y - (rd_T28 l i).f0) ≤ ((rd_T28 l (i + 1)).f1 - (rd_T28 l i).f1) * (x - (rd_T28 l i).f0) := by
          have := Int.mul_le_mul_of_nonneg_left (show x - (rd_T28 l i).f0 ≤ y - (rd_T28 l i).f0 by omega) (show 0 ≤ (rd_T28 l i).f1 - (rd_T28 l (i + 1)).f1 by omega)
          have f1 : ∀ z : Int, ((rd_T28 l (i + 1)).f1 - (rd_T28 l i).f1) * z = -(((rd_T28 l i).f1 - (rd_T28 l (i + 1)).f1) * z) := fun z => by rw [← Int.neg_mul]; congr 1; omega
          rw [f1, f1]; omega
        have := Int.ediv_le_ediv (c := (rd_T28 l (i + 1)).f0 - (rd_T28 l i).f0) (by omega) e1
        omega
      · have := xs_le hp (i := j + 1) (j := i) (by omega) (by omega) (by omega); omega
end Go.Proofs.YtnoacoppinkloaaDoor.Pr
