/- The plain law of FixedRises: it answers true for any list of points and any two numbers. -/
import Derived.Test.YtnoacoppinkloaaDoorLemA
import Derived.Test.YtnoacoppinkloaaDoorPr9
namespace Go.Proofs.YtnoacoppinkloaaDoor.Pr
open Go.RowKit Go.Proofs.YtnoacoppinkloaaDoorW.PrintWords Go.Proofs.YtnoacoppinkloaaDoorW.PrintLast Go.Proofs.YtnoacoppinkloaaDoorW.PrintMore
set_option linter.unusedVariables false
set_option linter.unusedSimpArgs false
namespace Pure
theorem rises_l0 (l : List S28) (hp : POk l) (x y v u : Int) (hxy : x ≤ y) (hv : IsAt l x v) (hu : IsAt l y u) : ∀ (d : Nat) (i lo hi : Int) (b : Bool) (k : Nat), 1 ≤ i → i + d = l.length → d < k →
    (∀ j : Int, 0 ≤ j → j < i → lo ≤ (rd_T28 l j).f1 ∧ (rd_T28 l j).f1 ≤ hi) → (b = true → ∀ j : Int, 1 ≤ j → j < i → (rd_T28 l (j - 1)).f1 ≤ (rd_T28 l j).f1) →
    skiarealaw01_FixedRises.l0 k l v u lo hi b i = some true := by
  have n2 := hp.2.1
  intro d
  induction d with
  | zero =>
    intro i lo hi b k h1 he hk hb hm
    obtain ⟨k, rfl⟩ : ∃ m, k = m + 1 := ⟨k - 1, by omega⟩
    obtain ⟨v0, v1⟩ := isAt_bound hp (lo := lo) (hi := hi) (fun j j0 j1 => hb j j0 (by omega)) hv
    obtain ⟨u0, u1⟩ := isAt_bound hp (lo := lo) (hi := hi) (fun j j0 j1 => hb j j0 (by omega)) hu
    simp only [skiarealaw01_FixedRises.l0]
    rw [if_neg (by omega), if_pos v0, if_pos v1, if_pos u0, if_pos u1]
    by_cases c : b = true
    · rw [if_pos c, decide_eq_true (isAt_up hp (fun j j0 j1 => hm c j j0 (by omega)) hxy hv hu)]
    · rw [if_neg c]
  | succ d ih =>
    intro i lo hi b k h1 he hk hb hm
    obtain ⟨k, rfl⟩ : ∃ m, k = m + 1 := ⟨k - 1, by omega⟩
    have hlt : i < (l.length : Int) := by omega
    have hb' : ∀ j : Int, 0 ≤ j → j < i + 1 → mn lo (rd_T28 l i).f1 ≤ (rd_T28 l j).f1 ∧ (rd_T28 l j).f1 ≤ mx hi (rd_T28 l i).f1 := fun j j0 j1 => by
      unfold mn mx
      by_cases e : j = i
      · subst e; constructor <;> split <;> omega
      · obtain ⟨p, q⟩ := hb j j0 (by omega)
        constructor <;> split <;> omega
    simp only [skiarealaw01_FixedRises.l0]
    rw [if_pos hlt, if_pos (by omega), w64 (x := i - 1) (by omega) (by omega), w64 (x := i + 1) (by omega) (by omega)]
    by_cases c : b = true
    · rw [if_pos c, if_pos (by omega), if_pos (by omega)]
      refine ih (i + 1) _ _ _ k (by omega) (by omega) (by omega) hb' (fun hd j j1 j2 => ?_)
      by_cases e : j = i
      · subst e; exact of_decide_eq_true hd
      · exact hm c j j1 (by omega)
    · rw [if_neg c]
      exact ih (i + 1) _ _ _ k (by omega) (by omega) (by omega) hb' (fun hd => absurd hd (by decide))
theorem FixedRises (l : List S28) (x y : Int) : skiarealaw01_FixedRises.f 80 l x y = some true := by
  have skip : skiarealaw01_FixedRises.j0 80 l x y true = some true := by
    rw [show (80 : Nat) = 79 + 1 from rfl]
    simp only [skiarealaw01_FixedRises.j0]
    rw [if_pos trivial]
  have main : x ≤ y → 1 ≤ l.length → skiarealaw01_FixedRises.j0 80 l x y false = some true := fun hxy hl => by
    rw [show (80 : Nat) = 79 + 1 from rfl]
    simp only [skiarealaw01_FixedRises.j0]
    rw [if_neg (by decide)]
    by_cases hp : POk l
    · obtain ⟨v, hv, iv⟩ := at_yes l x hp 79 (by omega)
      obtain ⟨u, hu, iu⟩ := at_yes l y hp 79 (by omega)
      rw [hv, Option.bind_some, hu, Option.bind_some, if_pos rfl]
      show skiarealaw01_FixedRises.j1 79 l v 0 u 0 ((0 : Int) != 0) = some true
      rw [show (79 : Nat) = 78 + 1 from rfl]
      simp only [skiarealaw01_FixedRises.j1]
      rw [if_neg (by decide), if_pos (by omega)]
      refine rises_l0 l hp x y v u hxy iv iu (l.length - 1) 1 _ _ true 78 (by omega) (by omega) (by have := hp.2.1; omega) (fun j j0 j1 => ?_) (fun _ j j1 j2 => by omega)
      obtain rfl : j = 0 := by omega
      omega
    · rw [at_no l x hp 79 (by omega), Option.bind_some, at_no l y hp 79 (by omega), Option.bind_some, if_neg (by decide)]
      show skiarealaw01_FixedRises.j1 79 l 0 1 0 1 true = some true
      rw [show (79 : Nat) = 78 + 1 from rfl]
      simp only [skiarealaw01_FixedRises.j1]
      rw [if_pos trivial, if_pos trivial, if_pos trivial]; rfl
  unfold skiarealaw01_FixedRises.f skiarealaw01_alive.f
  rw [Option.bind_some, if_pos rfl]
  by_cases c1 : (l.length : Int) > 100
  · rw [if_pos c1]; exact skip
  · rw [if_neg c1]
    by_cases c2 : (l.length : Int) = 0
    · rw [if_pos c2]; exact skip
    · rw [if_neg c2]
      by_cases c3 : x > y
      · rw [decide_eq_true c3]; exact skip
      · rw [decide_eq_false c3]; exact main (by omega) (by omega)
end Pure
end Go.Proofs.YtnoacoppinkloaaDoor.Pr
