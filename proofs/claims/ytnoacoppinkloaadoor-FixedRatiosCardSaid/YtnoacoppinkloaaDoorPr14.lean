-- Printed for this claim by wip/tools/prt.py of this repo
import Derived.Test.YtnoacoppinkloaaDoorPr0
namespace Go.Proofs.YtnoacoppinkloaaDoor.Pr
open Go.RowKit Go.Proofs.YtnoacoppinkloaaDoorW.PrintWords Go.Proofs.YtnoacoppinkloaaDoorW.PrintLast Go.Proofs.YtnoacoppinkloaaDoorW.PrintMore
attribute [local go_sem] max2_int min2_int max_two min_two max_three min_three max_four min_four   -- for this text's walks alone
set_option linter.unusedVariables false
set_option linter.unusedSimpArgs false

/-! ### skiarearef01_Ratio: function 24 -/
mutual
def skiarearef01_Ratio.j0 : Nat → Int → Int → Int → Bool → Option (Int × Int)
  | 0, _, _, _, _ => none
  | k + 1, x0, x1, x2, x32 => if x32 = true then (some (0, 1)) else (skiarearef01_Ratio.l0 k x0 x1 x2 0 0 1125899906842624)
def skiarearef01_Ratio.l0 : Nat → Int → Int → Int → Int → Int → Int → Option (Int × Int)
  | 0, _, _, _, _, _, _ => none
  | k + 1, x0, x1, x2, x8, x9, x10 => if x10 > 0 then (if x10 = 0 then (none) else (if (Int.tmod (wrap64 (Int.tdiv x0 x10)) 2) = 1 then (if x2 = 0 then (none) else (if (wrap64 ((wrap64 ((wrap64 (2 * x8)) + (wrap64 (Int.tdiv x1 x2)))) + (wrap64 (Int.tdiv (wrap64 ((wrap64 (2 * x9)) + (Int.tmod x1 x2))) x2)))) > 1125899906842624 then (some (0, 12)) else (skiarearef01_Ratio.l0 k x0 x1 x2 (wrap64 ((wrap64 ((wrap64 (2 * x8)) + (wrap64 (Int.tdiv x1 x2)))) + (wrap64 (Int.tdiv (wrap64 ((wrap64 (2 * x9)) + (Int.tmod x1 x2))) x2)))) (Int.tmod (wrap64 ((wrap64 (2 * x9)) + (Int.tmod x1 x2))) x2) (wrap64 (Int.tdiv x10 2))))) else (if x2 = 0 then (none) else (if (wrap64 ((wrap64 (2 * x8)) + (wrap64 (Int.tdiv (wrap64 (2 * x9)) x2)))) > 1125899906842624 then (some (0, 12)) else (skiarearef01_Ratio.l0 k x0 x1 x2 (wrap64 ((wrap64 (2 * x8)) + (wrap64 (Int.tdiv (wrap64 (2 * x9)) x2)))) (Int.tmod (wrap64 (2 * x9)) x2) (wrap64 (Int.tdiv x10 2))))))) else (some (x8, 0))
end
def skiarearef01_Ratio.f (k : Nat) (a0 : Int) (a1 : Int) (a2 : Int) : Option (Int × Int) := if a0 < 0 then (skiarearef01_Ratio.j0 k a0 a1 a2 true) else (if a1 < 0 then (skiarearef01_Ratio.j0 k a0 a1 a2 true) else (if a2 < 1 then (skiarearef01_Ratio.j0 k a0 a1 a2 true) else (if a0 > 1125899906842624 then (skiarearef01_Ratio.j0 k a0 a1 a2 true) else (if a1 > 1125899906842624 then (skiarearef01_Ratio.j0 k a0 a1 a2 true) else (skiarearef01_Ratio.j0 k a0 a1 a2 (decide (a2 > 1125899906842624)))))))
theorem skiarearef01_Ratio.mono_l : ∀ k, (∀ y0 y1 y2 y3, LeO (skiarearef01_Ratio.j0 k y0 y1 y2 y3) (skiarearef01_Ratio.j0 (k + 1) y0 y1 y2 y3)) ∧ (∀ y0 y1 y2 y3 y4 y5, LeO (skiarearef01_Ratio.l0 k y0 y1 y2 y3 y4 y5) (skiarearef01_Ratio.l0 (k + 1) y0 y1 y2 y3 y4 y5))
  | 0 => ⟨fun _ _ _ _ r h => by simp [skiarearef01_Ratio.j0] at h, fun _ _ _ _ _ _ r h => by simp [skiarearef01_Ratio.l0] at h⟩
  | k + 1 => by
    obtain ⟨ih0, ih1⟩ := skiarearef01_Ratio.mono_l k
    refine ⟨?_, ?_⟩
    · intro y0 y1 y2 y3
      unfold skiarearef01_Ratio.j0
      repeat' first
      | (with_reducible exact ih0 _ _ _ _)
      | (with_reducible exact ih1 _ _ _ _ _ _)
      | (with_reducible exact LeO.refl _)
      | (with_reducible exact LeO.none _)
      | (with_reducible refine LeO.ite ?_ ?_)
      | (with_reducible refine LeO.bind ?_ (fun _ => ?_))
      | exact ih0 _ _ _ _
      | exact ih1 _ _ _ _ _ _
      | exact LeO.none _
      | refine LeO.ite ?_ ?_
      | refine LeO.bind ?_ (fun _ => ?_)
    · intro y0 y1 y2 y3 y4 y5
      unfold skiarearef01_Ratio.l0
      repeat' first
      | (with_reducible exact ih0 _ _ _ _)
      | (with_reducible exact ih1 _ _ _ _ _ _)
      | (with_reducible exact LeO.refl _)
      | (with_reducible exact LeO.none _)
      | (with_reducible refine LeO.ite ?_ ?_)
      | (with_reducible refine LeO.bind ?_ (fun _ => ?_))
      | exact ih0 _ _ _ _
      | exact ih1 _ _ _ _ _ _
      | exact LeO.none _
      | refine LeO.ite ?_ ?_
      | refine LeO.bind ?_ (fun _ => ?_)
theorem skiarearef01_Ratio.mono : ∀ a0 a1 a2 k, LeO (skiarearef01_Ratio.f k a0 a1 a2) (skiarearef01_Ratio.f (k + 1) a0 a1 a2) := by
  intro a0 a1 a2 k
  obtain ⟨ih0, ih1⟩ := skiarearef01_Ratio.mono_l k
  unfold skiarearef01_Ratio.f
  repeat' first
      | (with_reducible exact ih0 _ _ _ _)
      | (with_reducible exact ih1 _ _ _ _ _ _)
      | (with_reducible exact LeO.refl _)
      | (with_reducible exact LeO.none _)
      | (with_reducible refine LeO.ite ?_ ?_)
      | (with_reducible refine LeO.bind ?_ (fun _ => ?_))
      | exact ih0 _ _ _ _
      | exact ih1 _ _ _ _ _ _
      | exact LeO.none _
      | refine LeO.ite ?_ ?_
      | refine LeO.bind ?_ (fun _ => ?_)
set_option maxHeartbeats 8000000 in
set_option maxRecDepth 100000 in
theorem skiarearef01_Ratio.calls (k : Nat) (a0 : Int) (a1 : Int) (a2 : Int) (r1 : Int) (r2 : Int) (w : World) (h : skiarearef01_Ratio.f k a0 a1 a2 = some (r1, r2)) :
    Calls Tryd.prog 24 #[.int .i64 a0, .int .i64 a1, .int .i64 a2] w fun e w' => e = .returned (.tuple #[.int .i64 r1, .int .i64 r2]) ∧ Drawn0 w w' := by
  have H : (if a0 < 0 then (skiarearef01_Ratio.j0 k a0 a1 a2 true) else (if a1 < 0 then (skiarearef01_Ratio.j0 k a0 a1 a2 true) else (if a2 < 1 then (skiarearef01_Ratio.j0 k a0 a1 a2 true) else (if a0 > 1125899906842624 then (skiarearef01_Ratio.j0 k a0 a1 a2 true) else (if a1 > 1125899906842624 then (skiarearef01_Ratio.j0 k a0 a1 a2 true) else (skiarearef01_Ratio.j0 k a0 a1 a2 (decide (a2 > 1125899906842624)))))))) = some (r1, r2) := h
  clear h
  have HC4 := Aside0.mk H
  clear H
  go_enter Tryd.func24, Tryd.ntmps24
  go_upto_region 1 with (fail)
  repeat (go_quiet (fail); go_upto_region 1 with (fail))
  go_cut [32] (fun v32 wc => ∃ (kq : Nat) (x32_3 : Bool), v32 = .bool x32_3 ∧ Aside0 (skiarearef01_Ratio.j0 kq a0 a1 a2 x32_3 = some (r1, r2)) ∧ Aside0 (kq ≤ k) ∧ Drawn0 w wc)
  case first =>
    have H := HC4.out
    clear HC4
    by_cases c5 : a0 < 0
    · rw [if_pos c5] at H
      have c5b0 : decide (a0 < 0) = true := decide_eq_true c5
      clear c5
      (first | rw [c5b0] | (simp only [i64_w, i32_w]; rw [c5b0]) | skip)
      have H' := Aside0.mk H
      clear H
      go_wp2
      repeat (go_quiet (fail); try go_wp2)
      go_meet
      case rel => exact ⟨_, (true), (by first | rfl | (simp; done) | (simp [*]; done)), H', ⟨by first | omega | exact Nat.le_refl _⟩, by repeat (first | exact Drawn0.refl _ | apply Drawn0.step)⟩
    · rw [if_neg c5] at H
      have c5b0 : decide (a0 < 0) = false := decide_eq_false c5
      clear c5
      (first | rw [c5b0] | (simp only [i64_w, i32_w]; rw [c5b0]) | skip)
      by_cases c6 : a1 < 0
      · rw [if_pos c6] at H
        have c6b0 : decide (a1 < 0) = true := decide_eq_true c6
        clear c6
        have H' := Aside0.mk H
        clear H
        go_wp2
        repeat (go_quiet (fail); try go_wp2)
        go_meet
        case rel => exact ⟨_, (true), (by first | rfl | (simp; done) | (simp [*]; done)), H', ⟨by first | omega | exact Nat.le_refl _⟩, by repeat (first | exact Drawn0.refl _ | apply Drawn0.step)⟩
      · rw [if_neg c6] at H
        have c6b0 : decide (a1 < 0) = false := decide_eq_false c6
        clear c6
        by_cases c7 : a2 < 1
        · rw [if_pos c7] at H
          have c7b0 : decide (a2 < 1) = true := decide_eq_true c7
          clear c7
          have H' := Aside0.mk H
          clear H
          go_wp2
          repeat (go_quiet (fail); try go_wp2)
          go_meet
          case rel => exact ⟨_, (true), (by first | rfl | (simp; done) | (simp [*]; done)), H', ⟨by first | omega | exact Nat.le_refl _⟩, by repeat (first | exact Drawn0.refl _ | apply Drawn0.step)⟩
        · rw [if_neg c7] at H
          have c7b0 : decide (a2 < 1) = false := decide_eq_false c7
          clear c7
          by_cases c8 : a0 > 1125899906842624
          · rw [if_pos c8] at H
            have c8b0 : decide (1125899906842624 < a0) = true := decide_eq_true c8
            clear c8
            have H' := Aside0.mk H
            clear H
            go_wp2
            repeat (go_quiet (fail); try go_wp2)
            go_meet
            case rel => exact ⟨_, (true), (by first | rfl | (simp; done) | (simp [*]; done)), H', ⟨by first | omega | exact Nat.le_refl _⟩, by repeat (first | exact Drawn0.refl _ | apply Drawn0.step)⟩
          · rw [if_neg c8] at H
            have c8b0 : decide (1125899906842624 < a0) = false := decide_eq_false c8
            clear c8
            by_cases c9 : a1 > 1125899906842624
            · rw [if_pos c9] at H
              have c9b0 : decide (1125899906842624 < a1) = true := decide_eq_true c9
              clear c9
              have H' := Aside0.mk H
              clear H
              go_wp2
              repeat (go_quiet (fail); try go_wp2)
              go_meet
              case rel => exact ⟨_, (true), (by first | rfl | (simp; done) | (simp [*]; done)), H', ⟨by first | omega | exact Nat.le_refl _⟩, by repeat (first | exact Drawn0.refl _ | apply Drawn0.step)⟩
            · rw [if_neg c9] at H
              have c9b0 : decide (1125899906842624 < a1) = false := decide_eq_false c9
              clear c9
              have H' := Aside0.mk H
              clear H
              go_wp2
              repeat (go_quiet (fail); try go_wp2)
              go_meet
              case rel => exact ⟨_, (decide (a2 > 1125899906842624)), (by first | rfl | (simp; done) | (simp [*]; done)), H', ⟨by first | omega | exact Nat.le_refl _⟩, by repeat (first | exact Drawn0.refl _ | apply Drawn0.step)⟩
  case rest =>
    clear HC4
    try clear c2
    try clear p2
    try clear c5
    try clear c5b0
    try clear c6
    try clear c6b0
    try clear c7
    try clear c7b0
    try clear c8
    try clear c8b0
    try clear c9
    try clear c9b0
    obtain ⟨kq, x32_3, rfl, HA, HJ3, ⟨mc3, rfl⟩⟩ := hcut
    cases kq with
    | zero => exact absurd HA.out (by simp [skiarearef01_Ratio.j0])
    | succ kj3 =>
      have H := HA.out
      clear HA
      simp only [skiarearef01_Ratio.j0] at H
      by_cases c10 : x32_3 = true
      · subst c10
        have H1 : (some (0, 1)) = some (r1, r2) := by rw [if_pos rfl] at H; exact H
        clear H
        have H := H1
        clear H1
        simp only [Option.some.injEq, Prod.mk.injEq] at H
        obtain ⟨rfl, rfl⟩ := H
        go_wp2
        repeat (go_quiet (fail); try go_wp2)
        go_ret2
        exact ⟨by first | rfl | (simp; done) | (simp [*]; done), by repeat (first | exact Drawn0.refl _ | apply Drawn0.step)⟩
      · replace c10 := Bool.eq_false_iff.mpr c10
        subst c10
        have H1 : (skiarearef01_Ratio.l0 kj3 a0 a1 a2 0 0 1125899906842624) = some (r1, r2) := by rw [if_neg (show ¬ (false = true) by decide)] at H; exact H
        clear H
        have H := H1
        clear H1
        have H' := Aside0.mk H
        clear H
        go_wp2
        repeat (go_quiet (fail); try go_wp2)
        go_loopg [8, 9, 10] kj3 (fun kq v8 v9 v10 w' => ∃ (x8_2 : Int) (x9_2 : Int) (x10_2 : Int), v8 = .int .i64 x8_2 ∧ v9 = .int .i64 x9_2 ∧ v10 = .int .i64 x10_2 ∧ Aside0 (skiarearef01_Ratio.l0 kq a0 a1 a2 x8_2 x9_2 x10_2 = some (r1, r2)) ∧ Aside0 (kq ≤ kj3) ∧ Drawn0 w w')
        case atStart => exact ⟨(0), (0), (1125899906842624), (by first | rfl | (simp; done) | (simp [*]; done)), (by first | rfl | (simp; done) | (simp [*]; done)), (by first | rfl | (simp; done) | (simp [*]; done)), H', ⟨Nat.le_refl _⟩, by repeat (first | exact Drawn0.refl _ | apply Drawn0.step)⟩
        case round =>
          clear H'
          try clear c1
          try clear c2
          try clear p2
          try clear c3
          try clear c5
          try clear c5b0
          try clear c6
          try clear c6b0
          try clear c7
          try clear c7b0
          try clear c8
          try clear c8b0
          try clear c9
          try clear c9b0
          try clear c10
          try clear p2
          obtain ⟨x8_2, x9_2, x10_2, rfl, rfl, rfl, HA, HK2, ⟨m2, rfl⟩⟩ := hrel
          cases gk with
          | zero => exact absurd HA.out (by simp [skiarearef01_Ratio.l0])
          | succ k2 =>
            have H := HA.out
            clear HA
            simp only [skiarearef01_Ratio.l0] at H
            by_cases c11 : x10_2 > 0
            · rw [if_pos c11] at H
              have c11b0 : decide (0 < x10_2) = true := decide_eq_true c11
              clear c11
              by_cases c12 : x10_2 = 0
              · rw [if_pos c12] at H
                exact absurd H (by simp)
              · rw [if_neg c12] at H
                have c12b0 : (x10_2 == 0) = false := beq_eq_false_iff_ne.mpr c12
                have c12b1 : (x10_2 != 0) = true := bne_iff_ne.mpr c12
                by_cases c13 : (Int.tmod (wrap64 (Int.tdiv a0 x10_2)) 2) = 1
                · rw [if_pos c13] at H
                  have c13b0 : ((Int.tmod (wrap64 (Int.tdiv a0 x10_2)) 2) == 1) = true := beq_iff_eq.mpr c13
                  have c13b1 : ((Int.tmod (wrap64 (Int.tdiv a0 x10_2)) 2) != 1) = false := bne_eq_false_iff_eq.mpr c13
                  clear c13
                  by_cases c14 : a2 = 0
                  · rw [if_pos c14] at H
                    exact absurd H (by simp)
                  · rw [if_neg c14] at H
                    have c14b0 : (a2 == 0) = false := beq_eq_false_iff_ne.mpr c14
                    have c14b1 : (a2 != 0) = true := bne_iff_ne.mpr c14
                    by_cases c15 : (wrap64 ((wrap64 ((wrap64 (2 * x8_2)) + (wrap64 (Int.tdiv a1 a2)))) + (wrap64 (Int.tdiv (wrap64 ((wrap64 (2 * x9_2)) + (Int.tmod a1 a2))) a2)))) > 1125899906842624
                    · rw [if_pos c15] at H
                      have c15b0 : decide (1125899906842624 < (wrap64 ((wrap64 ((wrap64 (2 * x8_2)) + (wrap64 (Int.tdiv a1 a2)))) + (wrap64 (Int.tdiv (wrap64 ((wrap64 (2 * x9_2)) + (Int.tmod a1 a2))) a2))))) = true := decide_eq_true c15
                      clear c15
                      simp only [Option.some.injEq, Prod.mk.injEq] at H
                      obtain ⟨rfl, rfl⟩ := H
                      go_wp2
                      repeat (go_quiet (fail); try go_wp2)
                      go_ret2
                      exact ⟨by first | rfl | (simp; done) | (simp [*]; done), by repeat (first | exact Drawn0.refl _ | apply Drawn0.step)⟩
                    · rw [if_neg c15] at H
                      have c15b0 : decide (1125899906842624 < (wrap64 ((wrap64 ((wrap64 (2 * x8_2)) + (wrap64 (Int.tdiv a1 a2)))) + (wrap64 (Int.tdiv (wrap64 ((wrap64 (2 * x9_2)) + (Int.tmod a1 a2))) a2))))) = false := decide_eq_false c15
                      clear c15
                      have H' := Aside0.mk H
                      clear H
                      go_wp2
                      repeat (go_quiet (fail); try go_wp2)
                      go_roundg k2
                      case measure => have := HJ3.out; have := HK2.out; omega
                      case rel => exact ⟨(wrap64 ((wrap64 ((wrap64 (2 * x8_2)) + (wrap64 (Int.tdiv a1 a2)))) + (wrap64 (Int.tdiv (wrap64 ((wrap64 (2 * x9_2)) + (Int.tmod a1 a2))) a2)))), (Int.tmod (wrap64 ((wrap64 (2 * x9_2)) + (Int.tmod a1 a2))) a2), (wrap64 (Int.tdiv x10_2 2)), (by first | rfl | (simp; done) | (simp [*]; done)), (by first | rfl | (simp; done) | (simp [*]; done)), (by first | rfl | (simp; done) | (simp [*]; done)), H', ⟨by have := HJ3.out; have := HK2.out; omega⟩, by repeat (first | exact Drawn0.refl _ | apply Drawn0.step)⟩
                · rw [if_neg c13] at H
                  have c13b0 : ((Int.tmod (wrap64 (Int.tdiv a0 x10_2)) 2) == 1) = false := beq_eq_false_iff_ne.mpr c13
                  have c13b1 : ((Int.tmod (wrap64 (Int.tdiv a0 x10_2)) 2) != 1) = true := bne_iff_ne.mpr c13
                  by_cases c16 : a2 = 0
                  · rw [if_pos c16] at H
                    exact absurd H (by simp)
                  · rw [if_neg c16] at H
                    have c16b0 : (a2 == 0) = false := beq_eq_false_iff_ne.mpr c16
                    have c16b1 : (a2 != 0) = true := bne_iff_ne.mpr c16
                    by_cases c17 : (wrap64 ((wrap64 (2 * x8_2)) + (wrap64 (Int.tdiv (wrap64 (2 * x9_2)) a2)))) > 1125899906842624
                    · rw [if_pos c17] at H
                      have c17b0 : decide (1125899906842624 < (wrap64 ((wrap64 (2 * x8_2)) + (wrap64 (Int.tdiv (wrap64 (2 * x9_2)) a2))))) = true := decide_eq_true c17
                      clear c17
                      simp only [Option.some.injEq, Prod.mk.injEq] at H
                      obtain ⟨rfl, rfl⟩ := H
                      go_wp2
                      repeat (go_quiet (fail); try go_wp2)
                      go_ret2
                      exact ⟨by first | rfl | (simp; done) | (simp [*]; done), by repeat (first | exact Drawn0.refl _ | apply Drawn0.step)⟩
                    · rw [if_neg c17] at H
                      have c17b0 : decide (1125899906842624 < (wrap64 ((wrap64 (2 * x8_2)) + (wrap64 (Int.tdiv (wrap64 (2 * x9_2)) a2))))) = false := decide_eq_false c17
                      clear c17
                      have H' := Aside0.mk H
                      clear H
                      go_wp2
                      repeat (go_quiet (fail); try go_wp2)
                      go_roundg k2
                      case measure => have := HJ3.out; have := HK2.out; omega
                      case rel => exact ⟨(wrap64 ((wrap64 (2 * x8_2)) + (wrap64 (Int.tdiv (wrap64 (2 * x9_2)) a2)))), (Int.tmod (wrap64 (2 * x9_2)) a2), (wrap64 (Int.tdiv x10_2 2)), (by first | rfl | (simp; done) | (simp [*]; done)), (by first | rfl | (simp; done) | (simp [*]; done)), (by first | rfl | (simp; done) | (simp [*]; done)), H', ⟨by have := HJ3.out; have := HK2.out; omega⟩, by repeat (first | exact Drawn0.refl _ | apply Drawn0.step)⟩
            · rw [if_neg c11] at H
              have c11b0 : decide (0 < x10_2) = false := decide_eq_false c11
              clear c11
              simp only [Option.some.injEq, Prod.mk.injEq] at H
              obtain ⟨rfl, rfl⟩ := H
              go_wp2
              repeat (go_quiet (fail); try go_wp2)
              go_ret2
              exact ⟨by first | rfl | (simp; done) | (simp [*]; done), by repeat (first | exact Drawn0.refl _ | apply Drawn0.step)⟩

end Go.Proofs.YtnoacoppinkloaaDoor.Pr
