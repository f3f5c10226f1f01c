-- Printed for this claim by wip/tools/prt.py of this repo
import Derived.Test.YtnoacoppinkloaaDoorPr0
import Derived.Test.YtnoacoppinkloaaDoorPr21
namespace Go.Proofs.YtnoacoppinkloaaDoor.Pr
open Go.RowKit Go.Proofs.YtnoacoppinkloaaDoorW.PrintWords Go.Proofs.YtnoacoppinkloaaDoorW.PrintLast Go.Proofs.YtnoacoppinkloaaDoorW.PrintMore
attribute [local go_sem] max2_int min2_int max_two min_two max_three min_three max_four min_four   -- for this text's walks alone
set_option linter.unusedVariables false
set_option linter.unusedSimpArgs false

/-! ### skiarearef01_Parse: function 28 -/
mutual
def skiarearef01_Parse.j0 : Nat → ByteArray → Bool → Option (Int × Int)
  | 0, _, _ => none
  | k + 1, x0, x4 => if x4 = true then (if 1 ≤ (x0.size : Int) then (skiarearef01_Parse.j1 k (x0.extract 1 x0.size) x4) else (none)) else (skiarearef01_Parse.j1 k x0 x4)
def skiarearef01_Parse.j1 : Nat → ByteArray → Bool → Option (Int × Int)
  | 0, _, _ => none
  | k + 1, x0, x4 => (skiarearef01_digits.f k x0).bind fun t237 => (if t237 < 1 then (skiarearef01_Parse.j2 k x0 x4 t237 true) else (if t237 > 10 then (skiarearef01_Parse.j2 k x0 x4 t237 true) else (if t237 > 1 then (if 0 < (x0.size : Int) then (skiarearef01_Parse.j2 k x0 x4 t237 ((bt x0 0) == 48)) else (none)) else (skiarearef01_Parse.j2 k x0 x4 t237 false))))
def skiarearef01_Parse.j2 : Nat → ByteArray → Bool → Int → Bool → Option (Int × Int)
  | 0, _, _, _, _ => none
  | k + 1, x0, x4, x5, x35 => if x35 = true then (some (0, 3)) else (if 0 ≤ x5 then (if x5 ≤ (x0.size : Int) then ((skiarearef01_value.f k (x0.extract 0 (x5 : Int).toNat)).bind fun t238 => (if ((x0.extract (x5 : Int).toNat x0.size).size : Int) > 0 then (if 0 < ((x0.extract (x5 : Int).toNat x0.size).size : Int) then (if (bt (x0.extract (x5 : Int).toNat x0.size) 0) = 46 then (if ((x0.extract (x5 : Int).toNat x0.size).size : Int) < 2 then (some (0, 3)) else (if ((x0.extract (x5 : Int).toNat x0.size).size : Int) > 4 then (some (0, 3)) else (if 1 ≤ ((x0.extract (x5 : Int).toNat x0.size).size : Int) then ((skiarearef01_digits.f k ((x0.extract (x5 : Int).toNat x0.size).extract 1 (x0.extract (x5 : Int).toNat x0.size).size)).bind fun t239 => (if t239 = (wrap64 (((x0.extract (x5 : Int).toNat x0.size).size : Int) - 1)) then (if ((x0.extract (x5 : Int).toNat x0.size).extract 1 (x0.extract (x5 : Int).toNat x0.size).size).size + 2 ≤ 9223372036854775807 then (if 0 ≤ 3 then (if 3 ≤ ((((x0.extract (x5 : Int).toNat x0.size).extract 1 (x0.extract (x5 : Int).toNat x0.size).size) ++ (⟨#[48, 48]⟩ : ByteArray)).size : Int) then ((skiarearef01_value.f k ((((x0.extract (x5 : Int).toNat x0.size).extract 1 (x0.extract (x5 : Int).toNat x0.size).size) ++ (⟨#[48, 48]⟩ : ByteArray)).extract 0 3)).bind fun t240 => (skiarearef01_Parse.j3 k x4 (wrap64 ((wrap64 (1000 * t238)) + t240)))) else (none)) else (none)) else (none)) else (some (0, 3)))) else (none)))) else (some (0, 3))) else (none)) else (skiarearef01_Parse.j3 k x4 (wrap64 (1000 * t238))))) else (none)) else (none))
def skiarearef01_Parse.j3 : Nat → Bool → Int → Option (Int × Int)
  | 0, _, _ => none
  | k + 1, x4, x6 => if x4 = true then (if x6 = 0 then (some (0, 3)) else (some (wrap64 (-x6), 0))) else (some (x6, 0))
end
def skiarearef01_Parse.f (k : Nat) (a0 : ByteArray) : Option (Int × Int) := if (a0.size : Int) > 0 then (if 0 < (a0.size : Int) then (skiarearef01_Parse.j0 k a0 ((bt a0 0) == 45)) else (none)) else (skiarearef01_Parse.j0 k a0 false)
theorem skiarearef01_Parse.mono_l : ∀ k, (∀ y0 y1, LeO (skiarearef01_Parse.j0 k y0 y1) (skiarearef01_Parse.j0 (k + 1) y0 y1)) ∧ (∀ y0 y1, LeO (skiarearef01_Parse.j1 k y0 y1) (skiarearef01_Parse.j1 (k + 1) y0 y1)) ∧ (∀ y0 y1 y2 y3, LeO (skiarearef01_Parse.j2 k y0 y1 y2 y3) (skiarearef01_Parse.j2 (k + 1) y0 y1 y2 y3)) ∧ (∀ y0 y1, LeO (skiarearef01_Parse.j3 k y0 y1) (skiarearef01_Parse.j3 (k + 1) y0 y1))
  | 0 => ⟨fun _ _ r h => by simp [skiarearef01_Parse.j0] at h, fun _ _ r h => by simp [skiarearef01_Parse.j1] at h, fun _ _ _ _ r h => by simp [skiarearef01_Parse.j2] at h, fun _ _ r h => by simp [skiarearef01_Parse.j3] at h⟩
  | k + 1 => by
    obtain ⟨ih0, ih1, ih2, ih3⟩ := skiarearef01_Parse.mono_l k
    refine ⟨?_, ?_, ?_, ?_⟩
    · intro y0 y1
      unfold skiarearef01_Parse.j0
      repeat' first
      | (with_reducible exact ih0 _ _)
      | (with_reducible exact ih1 _ _)
      | (with_reducible exact ih2 _ _ _ _)
      | (with_reducible exact ih3 _ _)
      | (with_reducible exact skiarearef01_digits.mono _ _)
      | (with_reducible exact skiarearef01_value.mono _ _)
      | (with_reducible exact LeO.refl _)
      | (with_reducible exact LeO.none _)
      | (with_reducible refine LeO.ite ?_ ?_)
      | (with_reducible refine LeO.bind ?_ (fun _ => ?_))
      | exact ih0 _ _
      | exact ih1 _ _
      | exact ih2 _ _ _ _
      | exact ih3 _ _
      | exact skiarearef01_digits.mono _ _
      | exact skiarearef01_value.mono _ _
      | exact LeO.none _
      | refine LeO.ite ?_ ?_
      | refine LeO.bind ?_ (fun _ => ?_)
    · intro y0 y1
      unfold skiarearef01_Parse.j1
      repeat' first
      | (with_reducible exact ih0 _ _)
      | (with_reducible exact ih1 _ _)
      | (with_reducible exact ih2 _ _ _ _)
      | (with_reducible exact ih3 _ _)
      | (with_reducible exact skiarearef01_digits.mono _ _)
      | (with_reducible exact skiarearef01_value.mono _ _)
      | (with_reducible exact LeO.refl _)
      | (with_reducible exact LeO.none _)
      | (with_reducible refine LeO.ite ?_ ?_)
      | (with_reducible refine LeO.bind ?_ (fun _ => ?_))
      | exact ih0 _ _
      | exact ih1 _ _
      | exact ih2 _ _ _ _
      | exact ih3 _ _
      | exact skiarearef01_digits.mono _ _
      | exact skiarearef01_value.mono _ _
      | exact LeO.none _
      | refine LeO.ite ?_ ?_
      | refine LeO.bind ?_ (fun _ => ?_)
    · intro y0 y1 y2 y3
      unfold skiarearef01_Parse.j2
      repeat' first
      | (with_reducible exact ih0 _ _)
      | (with_reducible exact ih1 _ _)
      | (with_reducible exact ih2 _ _ _ _)
      | (with_reducible exact ih3 _ _)
      | (with_reducible exact skiarearef01_digits.mono _ _)
      | (with_reducible exact skiarearef01_value.mono _ _)
      | (with_reducible exact LeO.refl _)
      | (with_reducible exact LeO.none _)
      | (with_reducible refine LeO.ite ?_ ?_)
      | (with_reducible refine LeO.bind ?_ (fun _ => ?_))
      | exact ih0 _ _
      | exact ih1 _ _
      | exact ih2 _ _ _ _
      | exact ih3 _ _
      | exact skiarearef01_digits.mono _ _
      | exact skiarearef01_value.mono _ _
      | exact LeO.none _
      | refine LeO.ite ?_ ?_
      | refine LeO.bind ?_ (fun _ => ?_)
    · intro y0 y1
      unfold skiarearef01_Parse.j3
      repeat' first
      | (with_reducible exact ih0 _ _)
      | (with_reducible exact ih1 _ _)
      | (with_reducible exact ih2 _ _ _ _)
      | (with_reducible exact ih3 _ _)
      | (with_reducible exact skiarearef01_digits.mono _ _)
      | (with_reducible exact skiarearef01_value.mono _ _)
      | (with_reducible exact LeO.refl _)
      | (with_reducible exact LeO.none _)
      | (with_reducible refine LeO.ite ?_ ?_)
      | (with_reducible refine LeO.bind ?_ (fun _ => ?_))
      | exact ih0 _ _
      | exact ih1 _ _
      | exact ih2 _ _ _ _
      | exact ih3 _ _
      | exact skiarearef01_digits.mono _ _
      | exact skiarearef01_value.mono _ _
      | exact LeO.none _
      | refine LeO.ite ?_ ?_
      | refine LeO.bind ?_ (fun _ => ?_)
theorem skiarearef01_Parse.mono : ∀ a0 k, LeO (skiarearef01_Parse.f k a0) (skiarearef01_Parse.f (k + 1) a0) := by
  intro a0 k
  obtain ⟨ih0, ih1, ih2, ih3⟩ := skiarearef01_Parse.mono_l k
  unfold skiarearef01_Parse.f
  repeat' first
      | (with_reducible exact ih0 _ _)
      | (with_reducible exact ih1 _ _)
      | (with_reducible exact ih2 _ _ _ _)
      | (with_reducible exact ih3 _ _)
      | (with_reducible exact skiarearef01_digits.mono _ _)
      | (with_reducible exact skiarearef01_value.mono _ _)
      | (with_reducible exact LeO.refl _)
      | (with_reducible exact LeO.none _)
      | (with_reducible refine LeO.ite ?_ ?_)
      | (with_reducible refine LeO.bind ?_ (fun _ => ?_))
      | exact ih0 _ _
      | exact ih1 _ _
      | exact ih2 _ _ _ _
      | exact ih3 _ _
      | exact skiarearef01_digits.mono _ _
      | exact skiarearef01_value.mono _ _
      | exact LeO.none _
      | refine LeO.ite ?_ ?_
      | refine LeO.bind ?_ (fun _ => ?_)
set_option maxHeartbeats 8000000 in
set_option maxRecDepth 100000 in
theorem skiarearef01_Parse.calls (k : Nat) (a0 : ByteArray) (r1 : Int) (r2 : Int) (w : World) (h : skiarearef01_Parse.f k a0 = some (r1, r2)) :
    Calls Tryd.prog 28 #[.string a0] w fun e w' => e = .returned (.tuple #[.int .i64 r1, .int .i64 r2]) ∧ Drawn0 w w' := by
  have H : (if (a0.size : Int) > 0 then (if 0 < (a0.size : Int) then (skiarearef01_Parse.j0 k a0 ((bt a0 0) == 45)) else (none)) else (skiarearef01_Parse.j0 k a0 false)) = some (r1, r2) := h
  clear h
  have HC2 := Aside0.mk H
  clear H
  go_enter Tryd.func28, Tryd.ntmps28
  go_upto_region 1 with (fail)
  go_cut [4] (fun v4 wc => ∃ (kq : Nat) (x4_1 : Bool), v4 = .bool x4_1 ∧ Aside0 (skiarearef01_Parse.j0 kq a0 x4_1 = some (r1, r2)) ∧ Aside0 (kq ≤ k) ∧ Drawn0 w wc)
  case first =>
    have H := HC2.out
    clear HC2
    by_cases c3 : (a0.size : Int) > 0
    · rw [if_pos c3] at H
      have c3b0 : decide (0 < (a0.size : Int)) = true := decide_eq_true c3
      have c3b1 : decide (0 < a0.size) = true := decide_eq_true (by omega)
      clear c3
      (first | rw [c3b0] | (simp only [i64_w, i32_w]; rw [c3b0]) | skip)
      by_cases c4 : 0 < (a0.size : Int)
      · rw [if_pos c4] at H
        have c4b0 : decide (0 < (a0.size : Int)) = true := decide_eq_true c4
        have c4b1 : decide (0 < a0.size) = true := decide_eq_true (by omega)
        clear c4
        have H' := Aside0.mk H
        clear H
        have p5 : 0 ≤ (0 : Int) := (by omega)
        have q5 : 0 < a0.size := (by have : (0 : Int) < (a0.size : Int) := of_decide_eq_true (by first | (with_reducible assumption) | assumption); omega)
        have hx5 : ∀ h : 0 < a0.size, ((a0[0]'h).toNat : Int) = bt a0 0 := bt_at a0 0
        clear p5
        have qi5 : (0 < (a0.size : Int)) = True := eq_true (of_decide_eq_true (by first | (with_reducible assumption) | assumption))
        replace q5 := eq_true q5
        go_wp2
        go_meet
        case rel => exact ⟨_, (((bt a0 0) == 45)), (by first | rfl | (simp; done) | (simp [*]; done)), H', ⟨by first | omega | exact Nat.le_refl _⟩, by repeat (first | exact Drawn0.refl _ | apply Drawn0.step)⟩
      · rw [if_neg c4] at H
        exact absurd H (by simp)
    · rw [if_neg c3] at H
      have c3b0 : decide (0 < (a0.size : Int)) = false := decide_eq_false c3
      have c3b1 : decide (0 < a0.size) = false := decide_eq_false (by omega)
      clear c3
      (first | rw [c3b0] | (simp only [i64_w, i32_w]; rw [c3b0]) | skip)
      have H' := Aside0.mk H
      clear H
      go_wp2
      go_meet
      case rel => exact ⟨_, (false), (by first | rfl | (simp; done) | (simp [*]; done)), H', ⟨by first | omega | exact Nat.le_refl _⟩, by repeat (first | exact Drawn0.refl _ | apply Drawn0.step)⟩
  case rest =>
    clear HC2
    try clear c2
    try clear p2
    try clear c3
    try clear c3b0
    try clear c3b1
    try clear c4
    try clear c4b0
    try clear c4b1
    try clear p5
    try clear q5
    try clear hx5
    try clear qi5
    try clear p5
    try clear q5
    obtain ⟨kq, x4_1, rfl, HA, HJ1, ⟨mc1, rfl⟩⟩ := hcut
    cases kq with
    | zero => exact absurd HA.out (by simp [skiarearef01_Parse.j0])
    | succ kj1 =>
      have H := HA.out
      clear HA
      simp only [skiarearef01_Parse.j0] at H
      have HC6 := Aside0.mk H
      clear H
      go_upto_if 16 with (fail)
      go_cut [0] (fun v0 wc => ∃ (kq : Nat) (x0_5 : ByteArray), v0 = .string x0_5 ∧ Aside0 (skiarearef01_Parse.j1 kq x0_5 x4_1 = some (r1, r2)) ∧ Aside0 (kq ≤ kj1) ∧ Drawn0 w wc)
      case first =>
        have H := HC6.out
        clear HC6
        by_cases c7 : x4_1 = true
        · subst c7
          have H1 : (if 1 ≤ (a0.size : Int) then (skiarearef01_Parse.j1 kj1 (a0.extract 1 a0.size) true) else (none)) = some (r1, r2) := by rw [if_pos rfl] at H; exact H
          clear H
          have H := H1
          clear H1
          by_cases c8 : 1 ≤ (a0.size : Int)
          · rw [if_pos c8] at H
            have c8b0 := eq_true c8
            have c8b1 : decide (1 ≤ (a0.size : Int)) = true := decide_eq_true c8
            clear c8
            have H' := Aside0.mk H
            clear H
            go_wp2
            go_meet
            case rel => exact ⟨_, (a0.extract 1 a0.size), (by first | rfl | (simp; done) | (simp [*]; done)), H', ⟨by have := HJ1.out; first | omega | exact Nat.le_refl _⟩, by repeat (first | exact Drawn0.refl _ | apply Drawn0.step)⟩
          · rw [if_neg c8] at H
            exact absurd H (by simp)
        · replace c7 := Bool.eq_false_iff.mpr c7
          subst c7
          have H1 : (skiarearef01_Parse.j1 kj1 a0 false) = some (r1, r2) := by rw [if_neg (show ¬ (false = true) by decide)] at H; exact H
          clear H
          have H := H1
          clear H1
          have H' := Aside0.mk H
          clear H
          go_wp2
          go_meet
          case rel => exact ⟨_, (a0), (by first | rfl | (simp; done) | (simp [*]; done)), H', ⟨by have := HJ1.out; first | omega | exact Nat.le_refl _⟩, by repeat (first | exact Drawn0.refl _ | apply Drawn0.step)⟩
      case rest =>
        clear HC6
        try clear c1
        try clear c2
        try clear p2
        try clear c3
        try clear c3b0
        try clear c3b1
        try clear c4
        try clear c4b0
        try clear c4b1
        try clear p5
        try clear q5
        try clear hx5
        try clear qi5
        try clear c7
        try clear c8
        try clear c8b0
        try clear c8b1
        try clear p2
        try clear p5
        try clear q5
        obtain ⟨kq, x0_5, rfl, HA, HJ5, ⟨mc5, rfl⟩⟩ := hcut
        cases kq with
        | zero => exact absurd HA.out (by simp [skiarearef01_Parse.j1])
        | succ kj5 =>
          have H := HA.out
          clear HA
          simp only [skiarearef01_Parse.j1] at H
          replace H := Option.bind_eq_some_iff.mp H
          obtain ⟨t237, A90, H⟩ := H
          replace H : (if t237 < 1 then (skiarearef01_Parse.j2 kj5 x0_5 x4_1 t237 true) else (if t237 > 10 then (skiarearef01_Parse.j2 kj5 x0_5 x4_1 t237 true) else (if t237 > 1 then (if 0 < (x0_5.size : Int) then (skiarearef01_Parse.j2 kj5 x0_5 x4_1 t237 ((bt x0_5 0) == 48)) else (none)) else (skiarearef01_Parse.j2 kj5 x0_5 x4_1 t237 false)))) = some (r1, r2) := H
          have A9 := Aside0.mk A90
          clear A90
          have HC10 := Aside0.mk H
          clear H
          go_upto_region 5 with (first | ((with_reducible refine gate_callee (f := 48) rfl ?_); refine goesL_ (some 20) rfl rfl Tryd.func48 (by kernel_rfl) rfl #[.string x0_5] rfl (by (try simp only [List.map_toArray, List.map_cons, List.map_nil]); first | done | rfl | (simp only [List.length_drop, List.length_take]; rfl)) ?_; (with_reducible refine (skiarearef01_digits.calls kj5 x0_5 t237 _ A9.out).mono ?_); rintro e w' ⟨rfl, ⟨nd, rfl⟩⟩; refine ⟨_, rfl, ?_⟩))
          (try simp only [Act.put, List.setIfInBounds_toArray, List.set_cons_zero, List.set_cons_succ])
          go_cut [35] (fun v35 wc => ∃ (kq : Nat) (x35_9 : Bool), v35 = .bool x35_9 ∧ Aside0 (skiarearef01_Parse.j2 kq x0_5 x4_1 t237 x35_9 = some (r1, r2)) ∧ Aside0 (kq ≤ kj5) ∧ Drawn0 w wc)
          case first =>
            have H := HC10.out
            clear HC10
            by_cases c11 : t237 < 1
            · rw [if_pos c11] at H
              have c11b0 : decide (t237 < 1) = true := decide_eq_true c11
              clear c11
              (first | rw [c11b0] | (simp only [i64_w, i32_w]; rw [c11b0]) | skip)
              have H' := Aside0.mk H
              clear H
              go_wp2
              go_meet
              case rel => exact ⟨_, (true), (by first | rfl | (simp; done) | (simp [*]; done)), H', ⟨by have := HJ1.out; have := HJ5.out; first | omega | exact Nat.le_refl _⟩, by repeat (first | exact Drawn0.refl _ | apply Drawn0.step)⟩
            · rw [if_neg c11] at H
              have c11b0 : decide (t237 < 1) = false := decide_eq_false c11
              clear c11
              (first | rw [c11b0] | (simp only [i64_w, i32_w]; rw [c11b0]) | skip)
              by_cases c12 : t237 > 10
              · rw [if_pos c12] at H
                have c12b0 : decide (10 < t237) = true := decide_eq_true c12
                clear c12
                have H' := Aside0.mk H
                clear H
                go_wp2
                go_meet
                case rel => exact ⟨_, (true), (by first | rfl | (simp; done) | (simp [*]; done)), H', ⟨by have := HJ1.out; have := HJ5.out; first | omega | exact Nat.le_refl _⟩, by repeat (first | exact Drawn0.refl _ | apply Drawn0.step)⟩
              · rw [if_neg c12] at H
                have c12b0 : decide (10 < t237) = false := decide_eq_false c12
                clear c12
                by_cases c13 : t237 > 1
                · rw [if_pos c13] at H
                  have c13b0 : decide (1 < t237) = true := decide_eq_true c13
                  clear c13
                  by_cases c14 : 0 < (x0_5.size : Int)
                  · rw [if_pos c14] at H
                    have c14b0 : decide (0 < (x0_5.size : Int)) = true := decide_eq_true c14
                    have c14b1 : decide (0 < x0_5.size) = true := decide_eq_true (by omega)
                    clear c14
                    have H' := Aside0.mk H
                    clear H
                    have p15 : 0 ≤ (0 : Int) := (by omega)
                    have q15 : 0 < x0_5.size := (by have : (0 : Int) < (x0_5.size : Int) := of_decide_eq_true (by first | (with_reducible assumption) | assumption); omega)
                    have hx15 : ∀ h : 0 < x0_5.size, ((x0_5[0]'h).toNat : Int) = bt x0_5 0 := bt_at x0_5 0
                    clear p15
                    have qi15 : (0 < (x0_5.size : Int)) = True := eq_true (of_decide_eq_true (by first | (with_reducible assumption) | assumption))
                    replace q15 := eq_true q15
                    go_wp2
                    go_meet
                    case rel => exact ⟨_, (((bt x0_5 0) == 48)), (by first | rfl | (simp; done) | (simp [*]; done)), H', ⟨by have := HJ1.out; have := HJ5.out; first | omega | exact Nat.le_refl _⟩, by repeat (first | exact Drawn0.refl _ | apply Drawn0.step)⟩
                  · rw [if_neg c14] at H
                    exact absurd H (by simp)
                · rw [if_neg c13] at H
                  have c13b0 : decide (1 < t237) = false := decide_eq_false c13
                  clear c13
                  have H' := Aside0.mk H
                  clear H
                  go_wp2
                  go_meet
                  case rel => exact ⟨_, (false), (by first | rfl | (simp; done) | (simp [*]; done)), H', ⟨by have := HJ1.out; have := HJ5.out; first | omega | exact Nat.le_refl _⟩, by repeat (first | exact Drawn0.refl _ | apply Drawn0.step)⟩
          case rest =>
            clear HC10
            try clear c1
            try clear p1
            try clear q1
            try clear hx1
            try clear qi1
            try clear c2
            try clear p2
            try clear c3
            try clear c3b0
            try clear c3b1
            try clear c4
            try clear c4b0
            try clear c4b1
            try clear c5
            try clear p5
            try clear q5
            try clear hx5
            try clear qi5
            try clear c7
            try clear c8
            try clear c8b0
            try clear c8b1
            try clear c11
            try clear c11b0
            try clear c12
            try clear c12b0
            try clear c13
            try clear c13b0
            try clear c14
            try clear c14b0
            try clear c14b1
            try clear p15
            try clear q15
            try clear hx15
            try clear qi15
            try clear p15
            try clear p2
            try clear p5
            try clear q15
            try clear q5
            obtain ⟨kq, x35_9, rfl, HA, HJ9, ⟨mc9, rfl⟩⟩ := hcut
            cases kq with
            | zero => exact absurd HA.out (by simp [skiarearef01_Parse.j2])
            | succ kj9 =>
              have H := HA.out
              clear HA
              simp only [skiarearef01_Parse.j2] at H
              by_cases c16 : x35_9 = true
              · subst c16
                have H1 : (some (0, 3)) = some (r1, r2) := by rw [if_pos rfl] at H; exact H
                clear H
                have H := H1
                clear H1
                simp only [Option.some.injEq, Prod.mk.injEq] at H
                obtain ⟨rfl, rfl⟩ := H
                go_wp2
                go_ret2
                exact ⟨by first | rfl | (simp; done) | (simp [*]; done), by repeat (first | exact Drawn0.refl _ | apply Drawn0.step)⟩
              · replace c16 := Bool.eq_false_iff.mpr c16
                subst c16
                have H1 : (if 0 ≤ t237 then (if t237 ≤ (x0_5.size : Int) then ((skiarearef01_value.f kj9 (x0_5.extract 0 (t237 : Int).toNat)).bind fun t238 => (if ((x0_5.extract (t237 : Int).toNat x0_5.size).size : Int) > 0 then (if 0 < ((x0_5.extract (t237 : Int).toNat x0_5.size).size : Int) then (if (bt (x0_5.extract (t237 : Int).toNat x0_5.size) 0) = 46 then (if ((x0_5.extract (t237 : Int).toNat x0_5.size).size : Int) < 2 then (some (0, 3)) else (if ((x0_5.extract (t237 : Int).toNat x0_5.size).size : Int) > 4 then (some (0, 3)) else (if 1 ≤ ((x0_5.extract (t237 : Int).toNat x0_5.size).size : Int) then ((skiarearef01_digits.f kj9 ((x0_5.extract (t237 : Int).toNat x0_5.size).extract 1 (x0_5.extract (t237 : Int).toNat x0_5.size).size)).bind fun t239 => (if t239 = (wrap64 (((x0_5.extract (t237 : Int).toNat x0_5.size).size : Int) - 1)) then (if ((x0_5.extract (t237 : Int).toNat x0_5.size).extract 1 (x0_5.extract (t237 : Int).toNat x0_5.size).size).size + 2 ≤ 9223372036854775807 then (if 0 ≤ 3 then (if 3 ≤ ((((x0_5.extract (t237 : Int).toNat x0_5.size).extract 1 (x0_5.extract (t237 : Int).toNat x0_5.size).size) ++ (⟨#[48, 48]⟩ : ByteArray)).size : Int) then ((skiarearef01_value.f kj9 ((((x0_5.extract (t237 : Int).toNat x0_5.size).extract 1 (x0_5.extract (t237 : Int).toNat x0_5.size).size) ++ (⟨#[48, 48]⟩ : ByteArray)).extract 0 3)).bind fun t240 => (skiarearef01_Parse.j3 kj9 x4_1 (wrap64 ((wrap64 (1000 * t238)) + t240)))) else (none)) else (none)) else (none)) else (some (0, 3)))) else (none)))) else (some (0, 3))) else (none)) else (skiarearef01_Parse.j3 kj9 x4_1 (wrap64 (1000 * t238))))) else (none)) else (none)) = some (r1, r2) := by rw [if_neg (show ¬ (false = true) by decide)] at H; exact H
                clear H
                have H := H1
                clear H1
                by_cases c17 : 0 ≤ t237
                · rw [if_pos c17] at H
                  have c17b0 := eq_true c17
                  have c17b1 : decide (0 ≤ t237) = true := decide_eq_true c17
                  clear c17
                  by_cases c18 : t237 ≤ (x0_5.size : Int)
                  · rw [if_pos c18] at H
                    have c18b0 := eq_true c18
                    have c18b1 : decide (t237 ≤ (x0_5.size : Int)) = true := decide_eq_true c18
                    clear c18
                    replace H := Option.bind_eq_some_iff.mp H
                    obtain ⟨t238, A190, H⟩ := H
                    replace H : (if ((x0_5.extract (t237 : Int).toNat x0_5.size).size : Int) > 0 then (if 0 < ((x0_5.extract (t237 : Int).toNat x0_5.size).size : Int) then (if (bt (x0_5.extract (t237 : Int).toNat x0_5.size) 0) = 46 then (if ((x0_5.extract (t237 : Int).toNat x0_5.size).size : Int) < 2 then (some (0, 3)) else (if ((x0_5.extract (t237 : Int).toNat x0_5.size).size : Int) > 4 then (some (0, 3)) else (if 1 ≤ ((x0_5.extract (t237 : Int).toNat x0_5.size).size : Int) then ((skiarearef01_digits.f kj9 ((x0_5.extract (t237 : Int).toNat x0_5.size).extract 1 (x0_5.extract (t237 : Int).toNat x0_5.size).size)).bind fun t239 => (if t239 = (wrap64 (((x0_5.extract (t237 : Int).toNat x0_5.size).size : Int) - 1)) then (if ((x0_5.extract (t237 : Int).toNat x0_5.size).extract 1 (x0_5.extract (t237 : Int).toNat x0_5.size).size).size + 2 ≤ 9223372036854775807 then (if 0 ≤ 3 then (if 3 ≤ ((((x0_5.extract (t237 : Int).toNat x0_5.size).extract 1 (x0_5.extract (t237 : Int).toNat x0_5.size).size) ++ (⟨#[48, 48]⟩ : ByteArray)).size : Int) then ((skiarearef01_value.f kj9 ((((x0_5.extract (t237 : Int).toNat x0_5.size).extract 1 (x0_5.extract (t237 : Int).toNat x0_5.size).size) ++ (⟨#[48, 48]⟩ : ByteArray)).extract 0 3)).bind fun t240 => (skiarearef01_Parse.j3 kj9 x4_1 (wrap64 ((wrap64 (1000 * t238)) + t240)))) else (none)) else (none)) else (none)) else (some (0, 3)))) else (none)))) else (some (0, 3))) else (none)) else (skiarearef01_Parse.j3 kj9 x4_1 (wrap64 (1000 * t238)))) = some (r1, r2) := H
                    have A19 := Aside0.mk A190
                    clear A190
                    have c20b0 := eq_true (of_decide_eq_true (by first | (with_reducible assumption) | assumption) : 0 ≤ t237)
                    have c21b0 := eq_true (of_decide_eq_true (by first | (with_reducible assumption) | assumption) : t237 ≤ (x0_5.size : Int))
                    have HC22 := Aside0.mk H
                    clear H
                    go_upto_if 46 with (first | ((with_reducible refine gate_callee (f := 49) rfl ?_); refine goesL_ (some 39) rfl rfl Tryd.func49 (by kernel_rfl) rfl #[.string (x0_5.extract 0 (t237 : Int).toNat)] rfl (by (try simp only [List.map_toArray, List.map_cons, List.map_nil]); first | done | rfl | (simp only [List.length_drop, List.length_take]; rfl)) ?_; (with_reducible refine (skiarearef01_value.calls kj9 (x0_5.extract 0 (t237 : Int).toNat) t238 _ A19.out).mono ?_); rintro e w' ⟨rfl, ⟨nd, rfl⟩⟩; refine ⟨_, rfl, ?_⟩))
                    (try simp only [Act.put, List.setIfInBounds_toArray, List.set_cons_zero, List.set_cons_succ])
                    have HD := HC22.out
                    clear HC22
                    generalize hE : x0_5.extract (t237 : Int).toNat x0_5.size = E at HD ⊢
                    have hsz : x0_5.size - t237.toNat = E.size := by rw [← hE, ByteArray.size_extract, Nat.min_self]
                    rw [hsz]
                    have HC22 := Aside0.mk HD
                    clear HD
                    go_cut [6] (fun v6 wc => ∃ (kq : Nat) (x6_21 : Int), v6 = .int .i64 x6_21 ∧ Aside0 (skiarearef01_Parse.j3 kq x4_1 x6_21 = some (r1, r2)) ∧ Aside0 (kq ≤ kj9) ∧ Drawn0 w wc)
                    case first =>
                      have H := HC22.out
                      clear HC22
                      by_cases c23 : (E.size : Int) > 0
                      · rw [if_pos c23] at H
                        have c23b0 : decide (0 < (E.size : Int)) = true := decide_eq_true c23
                        have c23b1 : decide (0 < E.size) = true := decide_eq_true (by omega)
                        clear c23
                        (first | rw [c23b1] | rw [c23b0] | (simp only [i64_w, i32_w]; rw [c23b0]) | skip)
                        by_cases c24 : 0 < (E.size : Int)
                        · rw [if_pos c24] at H
                          have c24b0 : decide (0 < (E.size : Int)) = true := decide_eq_true c24
                          have c24b1 : decide (0 < E.size) = true := decide_eq_true (by omega)
                          clear c24
                          by_cases c26 : (bt E 0) = 46
                          · rw [if_pos c26] at H
                            have c26b0 : ((bt E 0) == 46) = true := beq_iff_eq.mpr c26
                            have c26b1 : ((bt E 0) != 46) = false := bne_eq_false_iff_eq.mpr c26
                            clear c26
                            by_cases c27 : (E.size : Int) < 2
                            · rw [if_pos c27] at H
                              have c27b0 : decide ((E.size : Int) < 2) = true := decide_eq_true c27
                              have c27b1 : decide (E.size < 2) = true := decide_eq_true (by omega)
                              clear c27
                              simp only [Option.some.injEq, Prod.mk.injEq] at H
                              obtain ⟨rfl, rfl⟩ := H
                              have p25 : 0 ≤ (0 : Int) := (by omega)
                              have q25 : 0 < E.size := (by have : (0 : Int) < (E.size : Int) := of_decide_eq_true (by first | (with_reducible assumption) | assumption); omega)
                              have hx25 : ∀ h : 0 < E.size, ((E[0]'h).toNat : Int) = bt E 0 := bt_at E 0
                              clear p25
                              have qi25 : (0 < (E.size : Int)) = True := eq_true (of_decide_eq_true (by first | (with_reducible assumption) | assumption))
                              replace q25 := eq_true q25
                              go_wp2
                              go_ret2
                              exact ⟨by first | rfl | (simp; done) | (simp [*]; done), by repeat (first | exact Drawn0.refl _ | apply Drawn0.step)⟩
                            · rw [if_neg c27] at H
                              have c27b0 : decide ((E.size : Int) < 2) = false := decide_eq_false c27
                              have c27b1 : decide (E.size < 2) = false := decide_eq_false (by omega)
                              clear c27
                              by_cases c28 : (E.size : Int) > 4
                              · rw [if_pos c28] at H
                                have c28b0 : decide (4 < (E.size : Int)) = true := decide_eq_true c28
                                have c28b1 : decide (4 < E.size) = true := decide_eq_true (by omega)
                                clear c28
                                simp only [Option.some.injEq, Prod.mk.injEq] at H
                                obtain ⟨rfl, rfl⟩ := H
                                have p25 : 0 ≤ (0 : Int) := (by omega)
                                have q25 : 0 < E.size := (by have : (0 : Int) < (E.size : Int) := of_decide_eq_true (by first | (with_reducible assumption) | assumption); omega)
                                have hx25 : ∀ h : 0 < E.size, ((E[0]'h).toNat : Int) = bt E 0 := bt_at E 0
                                clear p25
                                have qi25 : (0 < (E.size : Int)) = True := eq_true (of_decide_eq_true (by first | (with_reducible assumption) | assumption))
                                replace q25 := eq_true q25
                                go_wp2
                                go_ret2
                                exact ⟨by first | rfl | (simp; done) | (simp [*]; done), by repeat (first | exact Drawn0.refl _ | apply Drawn0.step)⟩
                              · rw [if_neg c28] at H
                                have c28b0 : decide (4 < (E.size : Int)) = false := decide_eq_false c28
                                have c28b1 : decide (4 < E.size) = false := decide_eq_false (by omega)
                                clear c28
                                by_cases c29 : 1 ≤ (E.size : Int)
                                · rw [if_pos c29] at H
                                  have c29b0 := eq_true c29
                                  have c29b1 : decide (1 ≤ (E.size : Int)) = true := decide_eq_true c29
                                  clear c29
                                  replace H := Option.bind_eq_some_iff.mp H
                                  obtain ⟨t239, A300, H⟩ := H
                                  replace H : (if t239 = (wrap64 ((E.size : Int) - 1)) then (if (E.extract 1 E.size).size + 2 ≤ 9223372036854775807 then (if 0 ≤ 3 then (if 3 ≤ (((E.extract 1 E.size) ++ (⟨#[48, 48]⟩ : ByteArray)).size : Int) then ((skiarearef01_value.f kj9 (((E.extract 1 E.size) ++ (⟨#[48, 48]⟩ : ByteArray)).extract 0 3)).bind fun t240 => (skiarearef01_Parse.j3 kj9 x4_1 (wrap64 ((wrap64 (1000 * t238)) + t240)))) else (none)) else (none)) else (none)) else (some (0, 3))) = some (r1, r2) := H
                                  have A30 := Aside0.mk A300
                                  clear A300
                                  by_cases c31 : t239 = (wrap64 ((E.size : Int) - 1))
                                  · rw [if_pos c31] at H
                                    have c31b0 : (t239 == (wrap64 ((E.size : Int) - 1))) = true := beq_iff_eq.mpr c31
                                    have c31b1 : (t239 != (wrap64 ((E.size : Int) - 1))) = false := bne_eq_false_iff_eq.mpr c31
                                    have z31 : ¬ (4 < E.size) := of_decide_eq_false c28b1
                                    have e31 : wrap64 ((E.size : Int) - 1) = (E.size : Int) - 1 := by unfold wrap64; omega
                                    have d31b1 : (t239 != ((E.size : Int) - 1)) = false := by rw [e31] at c31b1; exact c31b1
                                    have d31b0 : (t239 == ((E.size : Int) - 1)) = true := by rw [e31] at c31b0; exact c31b0
                                    clear z31 e31
                                    clear c31
                                    have c32b0 := eq_true (of_decide_eq_true (by first | (with_reducible assumption) | assumption) : 1 ≤ (E.size : Int))
                                    by_cases c33 : (E.extract 1 E.size).size + 2 ≤ 9223372036854775807
                                    · rw [if_pos c33] at H
                                      have c33b0 := eq_true c33
                                      have c33b1 : decide ((E.extract 1 E.size).size + 2 ≤ 9223372036854775807) = true := decide_eq_true c33
                                      try have c33b2 : (9223372036854775807 < (E.extract 1 E.size).size + 2) = False := eq_false (Nat.not_lt.2 c33)
                                      have hs1 : (E.extract 1 E.size).size = E.size - 1 := by rw [ByteArray.size_extract, Nat.min_self]
                                      have d33b2 : (9223372036854775807 < E.size - 1 + 2) = False := eq_false (by omega)
                                      have d33b0 : (E.size - 1 + 2 ≤ 9223372036854775807) = True := eq_true (by omega)
                                      have d33b1 : decide (E.size - 1 + 2 ≤ 9223372036854775807) = true := decide_eq_true (by omega)
                                      by_cases c34 : 0 ≤ 3
                                      · rw [if_pos c34] at H
                                        have c34b0 := eq_true c34
                                        have c34b1 : decide (0 ≤ 3) = true := decide_eq_true c34
                                        clear c34
                                        by_cases c35 : 3 ≤ (((E.extract 1 E.size) ++ (⟨#[48, 48]⟩ : ByteArray)).size : Int)
                                        · rw [if_pos c35] at H
                                          have c35b0 := eq_true c35
                                          have c35b1 : decide (3 ≤ (((E.extract 1 E.size) ++ (⟨#[48, 48]⟩ : ByteArray)).size : Int)) = true := decide_eq_true c35
                                          have hs2 : ((E.extract 1 E.size) ++ (⟨#[48, 48]⟩ : ByteArray)).size = E.size - 1 + 2 := by rw [ByteArray.size_append, hs1]; rfl
                                          have d35b0 : (3 ≤ ((E.size - 1 + 2 : Nat) : Int)) = True := eq_true (by omega)
                                          have d35b1 : decide (3 ≤ ((E.size - 1 + 2 : Nat) : Int)) = true := decide_eq_true (by omega)
                                          have d35b2 : (3 ≤ E.size - 1 + 2) = True := eq_true (by omega)
                                          have d35b3 : (3 ≤ (((E.size - 1 : Nat) : Int) + 2)) = True := eq_true (by omega)
                                          have d35b4 : (1 ≤ E.size - 1) = True := eq_true (by omega)
                                          replace H := Option.bind_eq_some_iff.mp H
                                          obtain ⟨t240, A360, H⟩ := H
                                          replace H : (skiarearef01_Parse.j3 kj9 x4_1 (wrap64 ((wrap64 (1000 * t238)) + t240))) = some (r1, r2) := H
                                          have A36 := Aside0.mk A360
                                          clear A360
                                          have H' := Aside0.mk H
                                          clear H
                                          have p25 : 0 ≤ (0 : Int) := (by omega)
                                          have q25 : 0 < E.size := (by have : (0 : Int) < (E.size : Int) := of_decide_eq_true (by first | (with_reducible assumption) | assumption); omega)
                                          have hx25 : ∀ h : 0 < E.size, ((E[0]'h).toNat : Int) = bt E 0 := bt_at E 0
                                          clear p25
                                          have qi25 : (0 < (E.size : Int)) = True := eq_true (of_decide_eq_true (by first | (with_reducible assumption) | assumption))
                                          replace q25 := eq_true q25
                                          go_wp2_with (first | (go_at_call 48; (with_reducible refine (skiarearef01_digits.calls kj9 (E.extract 1 E.size) t239 _ A30.out).mono ?_); rintro e w' ⟨rfl, ⟨nd, rfl⟩⟩) | ((with_reducible refine gate_callee (f := 49) rfl ?_); refine goesL_ (some 74) rfl rfl Tryd.func49 (by kernel_rfl) rfl #[.string (((E.extract 1 E.size) ++ (⟨#[48, 48]⟩ : ByteArray)).extract 0 3)] rfl (by (try simp only [List.map_toArray, List.map_cons, List.map_nil]); first | done | rfl | (simp only [List.length_drop, List.length_take]; rfl)) ?_; (with_reducible refine (skiarearef01_value.calls kj9 (((E.extract 1 E.size) ++ (⟨#[48, 48]⟩ : ByteArray)).extract 0 3) t240 _ A36.out).mono ?_); rintro e w' ⟨rfl, ⟨nd, rfl⟩⟩; refine ⟨_, rfl, ?_⟩))
                                          go_meet
                                          case rel => exact ⟨_, (wrap64 ((wrap64 (1000 * t238)) + t240)), (by first | rfl | (simp; done) | (simp [*]; done)), H', ⟨by have := HJ1.out; have := HJ5.out; have := HJ9.out; first | omega | exact Nat.le_refl _⟩, by repeat (first | exact Drawn0.refl _ | apply Drawn0.step)⟩
                                        · rw [if_neg c35] at H
                                          exact absurd H (by simp)
                                      · rw [if_neg c34] at H
                                        exact absurd H (by simp)
                                    · rw [if_neg c33] at H
                                      exact absurd H (by simp)
                                  · rw [if_neg c31] at H
                                    have c31b0 : (t239 == (wrap64 ((E.size : Int) - 1))) = false := beq_eq_false_iff_ne.mpr c31
                                    have c31b1 : (t239 != (wrap64 ((E.size : Int) - 1))) = true := bne_iff_ne.mpr c31
                                    simp only [Option.some.injEq, Prod.mk.injEq] at H
                                    obtain ⟨rfl, rfl⟩ := H
                                    have p25 : 0 ≤ (0 : Int) := (by omega)
                                    have q25 : 0 < E.size := (by have : (0 : Int) < (E.size : Int) := of_decide_eq_true (by first | (with_reducible assumption) | assumption); omega)
                                    have hx25 : ∀ h : 0 < E.size, ((E[0]'h).toNat : Int) = bt E 0 := bt_at E 0
                                    clear p25
                                    have qi25 : (0 < (E.size : Int)) = True := eq_true (of_decide_eq_true (by first | (with_reducible assumption) | assumption))
                                    replace q25 := eq_true q25
                                    go_wp2_with (first | (go_at_call 48; (with_reducible refine (skiarearef01_digits.calls kj9 (E.extract 1 E.size) t239 _ A30.out).mono ?_); rintro e w' ⟨rfl, ⟨nd, rfl⟩⟩))
                                    go_ret2
                                    exact ⟨by first | rfl | (simp; done) | (simp [*]; done), by repeat (first | exact Drawn0.refl _ | apply Drawn0.step)⟩
                                · rw [if_neg c29] at H
                                  exact absurd H (by simp)
                          · rw [if_neg c26] at H
                            have c26b0 : ((bt E 0) == 46) = false := beq_eq_false_iff_ne.mpr c26
                            have c26b1 : ((bt E 0) != 46) = true := bne_iff_ne.mpr c26
                            simp only [Option.some.injEq, Prod.mk.injEq] at H
                            obtain ⟨rfl, rfl⟩ := H
                            have p25 : 0 ≤ (0 : Int) := (by omega)
                            have q25 : 0 < E.size := (by have : (0 : Int) < (E.size : Int) := of_decide_eq_true (by first | (with_reducible assumption) | assumption); omega)
                            have hx25 : ∀ h : 0 < E.size, ((E[0]'h).toNat : Int) = bt E 0 := bt_at E 0
                            clear p25
                            have qi25 : (0 < (E.size : Int)) = True := eq_true (of_decide_eq_true (by first | (with_reducible assumption) | assumption))
                            replace q25 := eq_true q25
                            go_wp2
                            go_ret2
                            exact ⟨by first | rfl | (simp; done) | (simp [*]; done), by repeat (first | exact Drawn0.refl _ | apply Drawn0.step)⟩
                        · rw [if_neg c24] at H
                          exact absurd H (by simp)
                      · rw [if_neg c23] at H
                        have c23b0 : decide (0 < (E.size : Int)) = false := decide_eq_false c23
                        have c23b1 : decide (0 < E.size) = false := decide_eq_false (by omega)
                        clear c23
                        (first | rw [c23b1] | rw [c23b0] | (simp only [i64_w, i32_w]; rw [c23b0]) | skip)
                        have H' := Aside0.mk H
                        clear H
                        go_wp2
                        go_meet
                        case rel => exact ⟨_, (wrap64 (1000 * t238)), (by first | rfl | (simp; done) | (simp [*]; done)), H', ⟨by have := HJ1.out; have := HJ5.out; have := HJ9.out; first | omega | exact Nat.le_refl _⟩, by repeat (first | exact Drawn0.refl _ | apply Drawn0.step)⟩
                    case rest =>
                      clear HC22
                      try clear c1
                      try clear p1
                      try clear q1
                      try clear hx1
                      try clear qi1
                      try clear c2
                      try clear p2
                      try clear q2
                      try clear hx2
                      try clear qi2
                      try clear c3
                      try clear c3b0
                      try clear c3b1
                      try clear c4
                      try clear c4b0
                      try clear c4b1
                      try clear c5
                      try clear p5
                      try clear q5
                      try clear hx5
                      try clear qi5
                      try clear p6
                      try clear c7
                      try clear c8
                      try clear c8b0
                      try clear c8b1
                      try clear c9
                      try clear c11
                      try clear c11b0
                      try clear c12
                      try clear c12b0
                      try clear c13
                      try clear c13b0
                      try clear c14
                      try clear c14b0
                      try clear c14b1
                      try clear p15
                      try clear q15
                      try clear hx15
                      try clear qi15
                      try clear c16
                      try clear c17
                      try clear c17b0
                      try clear c17b1
                      try clear c18
                      try clear c18b0
                      try clear c18b1
                      try clear c20
                      try clear c20b0
                      try clear c21
                      try clear c21b0
                      try clear c23
                      try clear c23b0
                      try clear c23b1
                      try clear c24
                      try clear c24b0
                      try clear c24b1
                      try clear p25
                      try clear q25
                      try clear hx25
                      try clear qi25
                      try clear c26
                      try clear c26b0
                      try clear c26b1
                      try clear c27
                      try clear c27b0
                      try clear c27b1
                      try clear c28
                      try clear c28b0
                      try clear c28b1
                      try clear c29
                      try clear c29b0
                      try clear c29b1
                      try clear c31
                      try clear c31b0
                      try clear c31b1
                      try clear c32
                      try clear c32b0
                      try clear c33
                      try clear c33b0
                      try clear c33b1
                      try clear c33b2
                      try clear c34
                      try clear c34b0
                      try clear c34b1
                      try clear c35
                      try clear c35b0
                      try clear c35b1
                      try clear p1
                      try clear p15
                      try clear p2
                      try clear p25
                      try clear p5
                      try clear q1
                      try clear q15
                      try clear q25
                      try clear q5
                      obtain ⟨kq, x6_21, rfl, HA, HJ21, ⟨mc21, rfl⟩⟩ := hcut
                      cases kq with
                      | zero => exact absurd HA.out (by simp [skiarearef01_Parse.j3])
                      | succ kj21 =>
                        have H := HA.out
                        clear HA
                        simp only [skiarearef01_Parse.j3] at H
                        by_cases c37 : x4_1 = true
                        · subst c37
                          have H1 : (if x6_21 = 0 then (some (0, 3)) else (some (wrap64 (-x6_21), 0))) = some (r1, r2) := by rw [if_pos rfl] at H; exact H
                          clear H
                          have H := H1
                          clear H1
                          by_cases c38 : x6_21 = 0
                          · rw [if_pos c38] at H
                            have c38b0 : (x6_21 == 0) = true := beq_iff_eq.mpr c38
                            have c38b1 : (x6_21 != 0) = false := bne_eq_false_iff_eq.mpr c38
                            clear c38
                            simp only [Option.some.injEq, Prod.mk.injEq] at H
                            obtain ⟨rfl, rfl⟩ := H
                            go_wp2
                            go_ret2
                            exact ⟨by first | rfl | (simp; done) | (simp [*]; done), by repeat (first | exact Drawn0.refl _ | apply Drawn0.step)⟩
                          · rw [if_neg c38] at H
                            have c38b0 : (x6_21 == 0) = false := beq_eq_false_iff_ne.mpr c38
                            have c38b1 : (x6_21 != 0) = true := bne_iff_ne.mpr c38
                            simp only [Option.some.injEq, Prod.mk.injEq] at H
                            obtain ⟨rfl, rfl⟩ := H
                            go_wp2
                            go_ret2
                            exact ⟨by first | rfl | (simp; done) | (simp [*]; done), by repeat (first | exact Drawn0.refl _ | apply Drawn0.step)⟩
                        · replace c37 := Bool.eq_false_iff.mpr c37
                          subst c37
                          have H1 : (some (x6_21, 0)) = some (r1, r2) := by rw [if_neg (show ¬ (false = true) by decide)] at H; exact H
                          clear H
                          have H := H1
                          clear H1
                          simp only [Option.some.injEq, Prod.mk.injEq] at H
                          obtain ⟨rfl, rfl⟩ := H
                          go_wp2
                          go_ret2
                          exact ⟨by first | rfl | (simp; done) | (simp [*]; done), by repeat (first | exact Drawn0.refl _ | apply Drawn0.step)⟩
                  · rw [if_neg c18] at H
                    exact absurd H (by simp)
                · rw [if_neg c17] at H
                  exact absurd H (by simp)

end Go.Proofs.YtnoacoppinkloaaDoor.Pr
