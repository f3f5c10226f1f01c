-- Printed for this claim by wip/tools/prt.py of this repo
import Derived.Test.YtnoacoppinkloaaDoorPr0
import Derived.Test.YtnoacoppinkloaaDoorPr7
namespace Go.Proofs.YtnoacoppinkloaaDoor.Pr
open Go.RowKit Go.Proofs.YtnoacoppinkloaaDoorW.PrintWords Go.Proofs.YtnoacoppinkloaaDoorW.PrintLast Go.Proofs.YtnoacoppinkloaaDoorW.PrintMore
attribute [local go_sem] max2_int min2_int max_two min_two max_three min_three max_four min_four   -- for this text's walks alone
set_option linter.unusedVariables false
set_option linter.unusedSimpArgs false

/-! ### skiarearef01_abs: function 44 -/
def skiarearef01_abs.f (a0 : Int) : Option (Int) := some (mx a0 (wrap64 (-a0)))
set_option maxHeartbeats 8000000 in
set_option maxRecDepth 100000 in
theorem skiarearef01_abs.calls (a0 : Int) (r : Int) (w : World) (h : skiarearef01_abs.f a0 = some r) :
    Calls Tryd.prog 44 #[.int .i64 a0] w fun e w' => e = .returned (.int .i64 r) ∧ Below w.heap.size w w' := by
  have HB := Aside0.mk (Below.refl w.heap.size w)
  have H : (some (mx a0 (wrap64 (-a0)))) = some r := h
  clear h
  obtain ⟨ji2, hji2⟩ : ∃ j_ : Int, (mx a0 (wrap64 (-a0))) = j_ := ⟨_, rfl⟩
  replace H : (some ji2) = some r := by first | (rw [hji2] at H; exact H) | (simp only [hji2] at H ⊢; exact H)
  have hji2_ : (if a0 < (wrap64 (-a0)) then (wrap64 (-a0)) else a0) = ji2 := hji2
  obtain rfl := Option.some.inj H
  go_enter Tryd.func44, Tryd.ntmps44
  go_wp2
  go_ret
  exact ⟨by first | rfl | (simp [errW_none, errW_some] <;> rfl) | (simp only [← hji2]; first | rfl | (simp [errW_none, errW_some] <;> rfl)) | (simp [*, errW_none, errW_some] <;> rfl), by repeat (first | (with_reducible first | exact HB.out | apply below_alloc | apply pw_below_drewN | apply below_drew1) | exact HB.out)⟩

/-! ### skiarearef01_signed: function 45 -/
def skiarearef01_signed.f (a0 : Int) (a1 : Int) (a2 : Int) : Option (Int) := if ((decide (a1 < 0)) != (decide (a2 < 0))) = true then (some (wrap64 (-a0))) else (some a0)
set_option maxHeartbeats 8000000 in
set_option maxRecDepth 100000 in
theorem skiarearef01_signed.calls (a0 : Int) (a1 : Int) (a2 : Int) (r : Int) (w : World) (h : skiarearef01_signed.f a0 a1 a2 = some r) :
    Calls Tryd.prog 45 #[.int .i64 a0, .int .i64 a1, .int .i64 a2] w fun e w' => e = .returned (.int .i64 r) ∧ Drawn0 w w' := by
  have H : (if ((decide (a1 < 0)) != (decide (a2 < 0))) = true then (some (wrap64 (-a0))) else (some a0)) = some r := h
  clear h
  by_cases c4 : ((decide (a1 < 0)) != (decide (a2 < 0))) = true
  · rw [if_pos c4] at H
    have c4b0 : ((decide (a1 < 0)) != (decide (a2 < 0))) = true := c4
    (try (have c4b1 : decide ((decide (a1 < 0)) = (decide (a2 < 0))) = false := by simpa using c4))
    (try (have c4b2 : ((decide (a1 < 0)) == (decide (a2 < 0))) = false := by simpa using c4))
    (try (have c4b3 : ¬ ((decide (a1 < 0)) = (decide (a2 < 0))) := by simpa using c4))
    clear c4
    obtain rfl := Option.some.inj H
    go_enter Tryd.func45, Tryd.ntmps45
    go_wp2
    go_ret
    exact ⟨by first | rfl | (simp; done) | (simp [*]; done), by repeat (first | exact Drawn0.refl _ | apply Drawn0.step)⟩
  · rw [if_neg c4] at H
    have c4b0 : ((decide (a1 < 0)) != (decide (a2 < 0))) = false := by simpa using c4
    (try (have c4b1 : decide ((decide (a1 < 0)) = (decide (a2 < 0))) = true := by simpa using c4))
    (try (have c4b2 : ((decide (a1 < 0)) == (decide (a2 < 0))) = true := by simpa using c4))
    clear c4
    obtain rfl := Option.some.inj H
    go_enter Tryd.func45, Tryd.ntmps45
    go_wp2
    go_ret
    exact ⟨by first | rfl | (simp; done) | (simp [*]; done), by repeat (first | exact Drawn0.refl _ | apply Drawn0.step)⟩

/-! ### skiarearef01_Mul: function 21 -/
mutual
def skiarearef01_Mul.j0 : Nat → Int → Int → Bool → Option (Int × Int)
  | 0, _, _, _ => none
  | k + 1, x0, x1, x16 => if x16 = true then (some (0, 12)) else ((skiarearef01_abs.f x0).bind fun t172 => ((skiarearef01_abs.f x0).bind fun t173 => ((skiarearef01_abs.f x1).bind fun t174 => (if (wrap64 (Int.tdiv t172 1000)) > 0 then (if (wrap64 (Int.tdiv t172 1000)) = 0 then (none) else (skiarearef01_Mul.j1 k x0 x1 (wrap64 (Int.tdiv t172 1000)) (Int.tmod t173 1000) t174 (decide (t174 > (wrap64 (Int.tdiv 1125899906842624 (wrap64 (Int.tdiv t172 1000)))))))) else (skiarearef01_Mul.j1 k x0 x1 (wrap64 (Int.tdiv t172 1000)) (Int.tmod t173 1000) t174 false)))))
def skiarearef01_Mul.j1 : Nat → Int → Int → Int → Int → Int → Bool → Option (Int × Int)
  | 0, _, _, _, _, _, _ => none
  | k + 1, x0, x1, x6, x7, x8, x32 => if x32 = true then (some (0, 12)) else (if (wrap64 ((wrap64 (x6 * x8)) + (wrap64 (Int.tdiv (wrap64 ((wrap64 ((wrap64 (2 * x7)) * x8)) + 1000)) 2000)))) > 1125899906842624 then (some (0, 12)) else ((skiarearef01_signed.f (wrap64 ((wrap64 (x6 * x8)) + (wrap64 (Int.tdiv (wrap64 ((wrap64 ((wrap64 (2 * x7)) * x8)) + 1000)) 2000)))) x0 x1).bind fun t175 => (some (t175, 0))))
end
def skiarearef01_Mul.f (k : Nat) (a0 : Int) (a1 : Int) : Option (Int × Int) := (skiarearef01_Within.f a0 1125899906842624).bind fun t170 => (if t170 = true then ((skiarearef01_Within.f a1 1125899906842624).bind fun t171 => (skiarearef01_Mul.j0 k a0 a1 (!t171))) else (skiarearef01_Mul.j0 k a0 a1 true))
theorem skiarearef01_Mul.mono_l : ∀ k, (∀ y0 y1 y2, LeO (skiarearef01_Mul.j0 k y0 y1 y2) (skiarearef01_Mul.j0 (k + 1) y0 y1 y2)) ∧ (∀ y0 y1 y2 y3 y4 y5, LeO (skiarearef01_Mul.j1 k y0 y1 y2 y3 y4 y5) (skiarearef01_Mul.j1 (k + 1) y0 y1 y2 y3 y4 y5))
  | 0 => ⟨fun _ _ _ r h => by simp [skiarearef01_Mul.j0] at h, fun _ _ _ _ _ _ r h => by simp [skiarearef01_Mul.j1] at h⟩
  | k + 1 => by
    obtain ⟨ih0, ih1⟩ := skiarearef01_Mul.mono_l k
    refine ⟨?_, ?_⟩
    · intro y0 y1 y2
      unfold skiarearef01_Mul.j0
      repeat' first
      | (with_reducible exact ih0 _ _ _)
      | (with_reducible exact ih1 _ _ _ _ _ _)
      | (with_reducible exact LeO.refl _)
      | (with_reducible exact LeO.none _)
      | (with_reducible refine LeO.ite ?_ ?_)
      | (with_reducible refine LeO.bind ?_ (fun _ => ?_))
      | exact ih0 _ _ _
      | exact ih1 _ _ _ _ _ _
      | exact LeO.none _
      | refine LeO.ite ?_ ?_
      | refine LeO.bind ?_ (fun _ => ?_)
    · intro y0 y1 y2 y3 y4 y5
      unfold skiarearef01_Mul.j1
      repeat' first
      | (with_reducible exact ih0 _ _ _)
      | (with_reducible exact ih1 _ _ _ _ _ _)
      | (with_reducible exact LeO.refl _)
      | (with_reducible exact LeO.none _)
      | (with_reducible refine LeO.ite ?_ ?_)
      | (with_reducible refine LeO.bind ?_ (fun _ => ?_))
      | exact ih0 _ _ _
      | exact ih1 _ _ _ _ _ _
      | exact LeO.none _
      | refine LeO.ite ?_ ?_
      | refine LeO.bind ?_ (fun _ => ?_)
theorem skiarearef01_Mul.mono : ∀ a0 a1 k, LeO (skiarearef01_Mul.f k a0 a1) (skiarearef01_Mul.f (k + 1) a0 a1) := by
  intro a0 a1 k
  obtain ⟨ih0, ih1⟩ := skiarearef01_Mul.mono_l k
  unfold skiarearef01_Mul.f
  repeat' first
      | (with_reducible exact ih0 _ _ _)
      | (with_reducible exact ih1 _ _ _ _ _ _)
      | (with_reducible exact LeO.refl _)
      | (with_reducible exact LeO.none _)
      | (with_reducible refine LeO.ite ?_ ?_)
      | (with_reducible refine LeO.bind ?_ (fun _ => ?_))
      | exact ih0 _ _ _
      | exact ih1 _ _ _ _ _ _
      | exact LeO.none _
      | refine LeO.ite ?_ ?_
      | refine LeO.bind ?_ (fun _ => ?_)
set_option maxHeartbeats 8000000 in
set_option maxRecDepth 100000 in
theorem skiarearef01_Mul.calls (k : Nat) (a0 : Int) (a1 : Int) (r1 : Int) (r2 : Int) (w : World) (h : skiarearef01_Mul.f k a0 a1 = some (r1, r2)) :
    Calls Tryd.prog 21 #[.int .i64 a0, .int .i64 a1] w fun e w' => e = .returned (.tuple #[.int .i64 r1, .int .i64 r2]) ∧ Below w.heap.size w w' := by
  have HB := Aside0.mk (Below.refl w.heap.size w)
  have H : ((skiarearef01_Within.f a0 1125899906842624).bind fun t170 => (if t170 = true then ((skiarearef01_Within.f a1 1125899906842624).bind fun t171 => (skiarearef01_Mul.j0 k a0 a1 (!t171))) else (skiarearef01_Mul.j0 k a0 a1 true))) = some (r1, r2) := h
  clear h
  have HC3 := Aside0.mk H
  clear H
  go_enter Tryd.func21, Tryd.ntmps21
  go_upto_region 1 with (fail)
  go_cut [16] (fun v16 wc => ∃ (kq : Nat) (x16_2 : Bool), v16 = .bool x16_2 ∧ Aside0 (skiarearef01_Mul.j0 kq a0 a1 x16_2 = some (r1, r2)) ∧ Aside0 (kq ≤ k) ∧ Aside0 (Below w.heap.size w wc))
  case first =>
    have H := HC3.out
    clear HC3
    replace H := Option.bind_eq_some_iff.mp H
    obtain ⟨t170, A40, H⟩ := H
    replace H : (if t170 = true then ((skiarearef01_Within.f a1 1125899906842624).bind fun t171 => (skiarearef01_Mul.j0 k a0 a1 (!t171))) else (skiarearef01_Mul.j0 k a0 a1 true)) = some (r1, r2) := H
    have A4 := Aside0.mk A40
    clear A40
    by_cases c5 : t170 = true
    · subst c5
      have H1 : ((skiarearef01_Within.f a1 1125899906842624).bind fun t171 => (skiarearef01_Mul.j0 k a0 a1 (!t171))) = some (r1, r2) := by rw [if_pos rfl] at H; exact H
      clear H
      have H := H1
      clear H1
      replace H := Option.bind_eq_some_iff.mp H
      obtain ⟨t171, A60, H⟩ := H
      replace H : (skiarearef01_Mul.j0 k a0 a1 (!t171)) = some (r1, r2) := H
      have A6 := Aside0.mk A60
      clear A60
      have H' := Aside0.mk H
      clear H
      go_wp2_with (first | ((with_reducible refine gate_callee (f := 42) rfl ?_); refine goesL_ (some 10) rfl rfl Tryd.func42 (by kernel_rfl) rfl #[.int .i64 a0, .int .i64 1125899906842624] rfl (by (try simp only [List.map_toArray, List.map_cons, List.map_nil]); first | done | rfl | (simp only [List.length_drop, List.length_take]; rfl)) ?_; (with_reducible refine (skiarearef01_Within.calls a0 1125899906842624 true _ A4.out).mono ?_); rintro e w' ⟨rfl, ⟨nd, rfl⟩⟩; refine ⟨_, rfl, ?_⟩) | (go_at_call 42; (with_reducible refine (skiarearef01_Within.calls a1 1125899906842624 t171 _ A6.out).mono ?_); rintro e w' ⟨rfl, ⟨nd, rfl⟩⟩))
      go_meet
      case rel => exact ⟨_, (!t171), (by first | rfl | (simp; done) | (simp [*]; done)), H', ⟨by first | omega | exact Nat.le_refl _⟩, ⟨by repeat (first | (with_reducible first | exact HB.out | apply below_alloc | apply pw_below_drewN | apply below_drew1) | exact HB.out)⟩⟩
    · replace c5 := Bool.eq_false_iff.mpr c5
      subst c5
      have H1 : (skiarearef01_Mul.j0 k a0 a1 true) = some (r1, r2) := by rw [if_neg (show ¬ (false = true) by decide)] at H; exact H
      clear H
      have H := H1
      clear H1
      have H' := Aside0.mk H
      clear H
      go_wp2_with (first | ((with_reducible refine gate_callee (f := 42) rfl ?_); refine goesL_ (some 10) rfl rfl Tryd.func42 (by kernel_rfl) rfl #[.int .i64 a0, .int .i64 1125899906842624] rfl (by (try simp only [List.map_toArray, List.map_cons, List.map_nil]); first | done | rfl | (simp only [List.length_drop, List.length_take]; rfl)) ?_; (with_reducible refine (skiarearef01_Within.calls a0 1125899906842624 false _ A4.out).mono ?_); rintro e w' ⟨rfl, ⟨nd, rfl⟩⟩; refine ⟨_, rfl, ?_⟩))
      go_meet
      case rel => exact ⟨_, (true), (by first | rfl | (simp; done) | (simp [*]; done)), H', ⟨by first | omega | exact Nat.le_refl _⟩, ⟨by repeat (first | (with_reducible first | exact HB.out | apply below_alloc | apply pw_below_drewN | apply below_drew1) | exact HB.out)⟩⟩
  case rest =>
    clear HC3
    try clear c2
    try clear p2
    try clear c4
    try clear c5
    obtain ⟨kq, x16_2, rfl, HA, HJ2, HB⟩ := hcut
    cases kq with
    | zero => exact absurd HA.out (by simp [skiarearef01_Mul.j0])
    | succ kj2 =>
      have H := HA.out
      clear HA
      simp only [skiarearef01_Mul.j0] at H
      by_cases c7 : x16_2 = true
      · subst c7
        have H1 : (some (0, 12)) = some (r1, r2) := by rw [if_pos rfl] at H; exact H
        clear H
        have H := H1
        clear H1
        simp only [Option.some.injEq, Prod.mk.injEq] at H
        obtain ⟨rfl, rfl⟩ := H
        go_wp2
        go_ret2
        exact ⟨by first | rfl | (simp [errW_none, errW_some] <;> rfl) | (simp [*, errW_none, errW_some] <;> rfl), by repeat (first | (with_reducible first | exact HB.out | apply below_alloc | apply pw_below_drewN | apply below_drew1) | exact HB.out)⟩
      · replace c7 := Bool.eq_false_iff.mpr c7
        subst c7
        have H1 : ((skiarearef01_abs.f a0).bind fun t172 => ((skiarearef01_abs.f a0).bind fun t173 => ((skiarearef01_abs.f a1).bind fun t174 => (if (wrap64 (Int.tdiv t172 1000)) > 0 then (if (wrap64 (Int.tdiv t172 1000)) = 0 then (none) else (skiarearef01_Mul.j1 kj2 a0 a1 (wrap64 (Int.tdiv t172 1000)) (Int.tmod t173 1000) t174 (decide (t174 > (wrap64 (Int.tdiv 1125899906842624 (wrap64 (Int.tdiv t172 1000)))))))) else (skiarearef01_Mul.j1 kj2 a0 a1 (wrap64 (Int.tdiv t172 1000)) (Int.tmod t173 1000) t174 false))))) = some (r1, r2) := by rw [if_neg (show ¬ (false = true) by decide)] at H; exact H
        clear H
        have H := H1
        clear H1
        replace H := Option.bind_eq_some_iff.mp H
        obtain ⟨t172, A80, H⟩ := H
        replace H : ((skiarearef01_abs.f a0).bind fun t173 => ((skiarearef01_abs.f a1).bind fun t174 => (if (wrap64 (Int.tdiv t172 1000)) > 0 then (if (wrap64 (Int.tdiv t172 1000)) = 0 then (none) else (skiarearef01_Mul.j1 kj2 a0 a1 (wrap64 (Int.tdiv t172 1000)) (Int.tmod t173 1000) t174 (decide (t174 > (wrap64 (Int.tdiv 1125899906842624 (wrap64 (Int.tdiv t172 1000)))))))) else (skiarearef01_Mul.j1 kj2 a0 a1 (wrap64 (Int.tdiv t172 1000)) (Int.tmod t173 1000) t174 false)))) = some (r1, r2) := H
        have A8 := Aside0.mk A80
        clear A80
        replace H := Option.bind_eq_some_iff.mp H
        obtain ⟨t173, A90, H⟩ := H
        replace H : ((skiarearef01_abs.f a1).bind fun t174 => (if (wrap64 (Int.tdiv t172 1000)) > 0 then (if (wrap64 (Int.tdiv t172 1000)) = 0 then (none) else (skiarearef01_Mul.j1 kj2 a0 a1 (wrap64 (Int.tdiv t172 1000)) (Int.tmod t173 1000) t174 (decide (t174 > (wrap64 (Int.tdiv 1125899906842624 (wrap64 (Int.tdiv t172 1000)))))))) else (skiarearef01_Mul.j1 kj2 a0 a1 (wrap64 (Int.tdiv t172 1000)) (Int.tmod t173 1000) t174 false))) = some (r1, r2) := H
        have A9 := Aside0.mk A90
        clear A90
        replace H := Option.bind_eq_some_iff.mp H
        obtain ⟨t174, A100, H⟩ := H
        replace H : (if (wrap64 (Int.tdiv t172 1000)) > 0 then (if (wrap64 (Int.tdiv t172 1000)) = 0 then (none) else (skiarearef01_Mul.j1 kj2 a0 a1 (wrap64 (Int.tdiv t172 1000)) (Int.tmod t173 1000) t174 (decide (t174 > (wrap64 (Int.tdiv 1125899906842624 (wrap64 (Int.tdiv t172 1000)))))))) else (skiarearef01_Mul.j1 kj2 a0 a1 (wrap64 (Int.tdiv t172 1000)) (Int.tmod t173 1000) t174 false)) = some (r1, r2) := H
        have A10 := Aside0.mk A100
        clear A100
        have HC11 := Aside0.mk H
        clear H
        go_upto_region 4 with (first | ((with_reducible refine gate_callee (f := 44) rfl ?_); refine goesL_ (some 18) rfl rfl Tryd.func44 (by kernel_rfl) rfl #[.int .i64 a0] rfl (by (try simp only [List.map_toArray, List.map_cons, List.map_nil]); first | done | rfl | (simp only [List.length_drop, List.length_take]; rfl)) ?_; (with_reducible refine (skiarearef01_abs.calls a0 t172 _ A8.out).mono ?_); rintro e w12 ⟨rfl, hb⟩; refine ⟨_, rfl, ?_⟩; have n0_ := Aside0.mk (below_step (by repeat (first | (with_reducible first | exact HB.out | apply below_alloc | apply pw_below_drewN | apply below_drew1) | exact HB.out)) hb); clear HB; have HB := n0_; clear n0_; (try clear hb); (try clear hb2); (try clear hk); (try clear hi)) | ((with_reducible refine gate_callee (f := 44) rfl ?_); refine goesL_ (some 21) rfl rfl Tryd.func44 (by kernel_rfl) rfl #[.int .i64 a0] rfl (by (try simp only [List.map_toArray, List.map_cons, List.map_nil]); first | done | rfl | (simp only [List.length_drop, List.length_take]; rfl)) ?_; (with_reducible refine (skiarearef01_abs.calls a0 t173 _ A9.out).mono ?_); rintro e w13 ⟨rfl, hb⟩; refine ⟨_, rfl, ?_⟩; have n0_ := Aside0.mk (below_step (by repeat (first | (with_reducible first | exact HB.out | apply below_alloc | apply pw_below_drewN | apply below_drew1) | exact HB.out)) hb); clear HB; have HB := n0_; clear n0_; (try clear hb); (try clear hb2); (try clear hk); (try clear hi)) | ((with_reducible refine gate_callee (f := 44) rfl ?_); refine goesL_ (some 24) rfl rfl Tryd.func44 (by kernel_rfl) rfl #[.int .i64 a1] rfl (by (try simp only [List.map_toArray, List.map_cons, List.map_nil]); first | done | rfl | (simp only [List.length_drop, List.length_take]; rfl)) ?_; (with_reducible refine (skiarearef01_abs.calls a1 t174 _ A10.out).mono ?_); rintro e w14 ⟨rfl, hb⟩; refine ⟨_, rfl, ?_⟩; have n0_ := Aside0.mk (below_step (by repeat (first | (with_reducible first | exact HB.out | apply below_alloc | apply pw_below_drewN | apply below_drew1) | exact HB.out)) hb); clear HB; have HB := n0_; clear n0_; (try clear hb); (try clear hb2); (try clear hk); (try clear hi)))
        (try simp only [Act.put, List.setIfInBounds_toArray, List.set_cons_zero, List.set_cons_succ])
        go_cut [32] (fun v32 wc => ∃ (kq : Nat) (x32_10 : Bool), v32 = .bool x32_10 ∧ Aside0 (skiarearef01_Mul.j1 kq a0 a1 (wrap64 (Int.tdiv t172 1000)) (Int.tmod t173 1000) t174 x32_10 = some (r1, r2)) ∧ Aside0 (kq ≤ kj2) ∧ Aside0 (Below w.heap.size w wc))
        case first =>
          have H := HC11.out
          clear HC11
          by_cases c15 : (wrap64 (Int.tdiv t172 1000)) > 0
          · rw [if_pos c15] at H
            have c15b0 : decide (0 < (wrap64 (Int.tdiv t172 1000))) = true := decide_eq_true c15
            clear c15
            (first | rw [c15b0] | (simp only [i64_w, i32_w]; rw [c15b0]) | skip)
            by_cases c16 : (wrap64 (Int.tdiv t172 1000)) = 0
            · rw [if_pos c16] at H
              exact absurd H (by simp)
            · rw [if_neg c16] at H
              have c16b0 : ((wrap64 (Int.tdiv t172 1000)) == 0) = false := beq_eq_false_iff_ne.mpr c16
              have c16b1 : ((wrap64 (Int.tdiv t172 1000)) != 0) = true := bne_iff_ne.mpr c16
              have H' := Aside0.mk H
              clear H
              go_wp2
              go_meet
              case rel => exact ⟨_, (decide (t174 > (wrap64 (Int.tdiv 1125899906842624 (wrap64 (Int.tdiv t172 1000)))))), (by first | rfl | (simp; done) | (simp [*]; done)), H', ⟨by have := HJ2.out; first | omega | exact Nat.le_refl _⟩, ⟨by repeat (first | (with_reducible first | exact HB.out | apply below_alloc | apply pw_below_drewN | apply below_drew1) | exact HB.out)⟩⟩
          · rw [if_neg c15] at H
            have c15b0 : decide (0 < (wrap64 (Int.tdiv t172 1000))) = false := decide_eq_false c15
            clear c15
            (first | rw [c15b0] | (simp only [i64_w, i32_w]; rw [c15b0]) | skip)
            have H' := Aside0.mk H
            clear H
            go_wp2
            go_meet
            case rel => exact ⟨_, (false), (by first | rfl | (simp; done) | (simp [*]; done)), H', ⟨by have := HJ2.out; first | omega | exact Nat.le_refl _⟩, ⟨by repeat (first | (with_reducible first | exact HB.out | apply below_alloc | apply pw_below_drewN | apply below_drew1) | exact HB.out)⟩⟩
        case rest =>
          clear HC11
          try clear c1
          try clear c2
          try clear p2
          try clear c4
          try clear c5
          try clear p6
          try clear c7
          try clear c15
          try clear c15b0
          try clear c16
          try clear c16b0
          try clear c16b1
          try clear p2
          obtain ⟨kq, x32_10, rfl, HA, HJ10, HB⟩ := hcut
          cases kq with
          | zero => exact absurd HA.out (by simp [skiarearef01_Mul.j1])
          | succ kj10 =>
            have H := HA.out
            clear HA
            simp only [skiarearef01_Mul.j1] at H
            by_cases c17 : x32_10 = true
            · subst c17
              have H1 : (some (0, 12)) = some (r1, r2) := by rw [if_pos rfl] at H; exact H
              clear H
              have H := H1
              clear H1
              simp only [Option.some.injEq, Prod.mk.injEq] at H
              obtain ⟨rfl, rfl⟩ := H
              go_wp2
              go_ret2
              exact ⟨by first | rfl | (simp [errW_none, errW_some] <;> rfl) | (simp [*, errW_none, errW_some] <;> rfl), by repeat (first | (with_reducible first | exact HB.out | apply below_alloc | apply pw_below_drewN | apply below_drew1) | exact HB.out)⟩
            · replace c17 := Bool.eq_false_iff.mpr c17
              subst c17
              have H1 : (if (wrap64 ((wrap64 ((wrap64 (Int.tdiv t172 1000)) * t174)) + (wrap64 (Int.tdiv (wrap64 ((wrap64 ((wrap64 (2 * (Int.tmod t173 1000))) * t174)) + 1000)) 2000)))) > 1125899906842624 then (some (0, 12)) else ((skiarearef01_signed.f (wrap64 ((wrap64 ((wrap64 (Int.tdiv t172 1000)) * t174)) + (wrap64 (Int.tdiv (wrap64 ((wrap64 ((wrap64 (2 * (Int.tmod t173 1000))) * t174)) + 1000)) 2000)))) a0 a1).bind fun t175 => (some (t175, 0)))) = some (r1, r2) := by rw [if_neg (show ¬ (false = true) by decide)] at H; exact H
              clear H
              have H := H1
              clear H1
              by_cases c18 : (wrap64 ((wrap64 ((wrap64 (Int.tdiv t172 1000)) * t174)) + (wrap64 (Int.tdiv (wrap64 ((wrap64 ((wrap64 (2 * (Int.tmod t173 1000))) * t174)) + 1000)) 2000)))) > 1125899906842624
              · rw [if_pos c18] at H
                have c18b0 : decide (1125899906842624 < (wrap64 ((wrap64 ((wrap64 (Int.tdiv t172 1000)) * t174)) + (wrap64 (Int.tdiv (wrap64 ((wrap64 ((wrap64 (2 * (Int.tmod t173 1000))) * t174)) + 1000)) 2000))))) = true := decide_eq_true c18
                clear c18
                simp only [Option.some.injEq, Prod.mk.injEq] at H
                obtain ⟨rfl, rfl⟩ := H
                go_wp2
                go_ret2
                exact ⟨by first | rfl | (simp [errW_none, errW_some] <;> rfl) | (simp [*, errW_none, errW_some] <;> rfl), by repeat (first | (with_reducible first | exact HB.out | apply below_alloc | apply pw_below_drewN | apply below_drew1) | exact HB.out)⟩
              · rw [if_neg c18] at H
                have c18b0 : decide (1125899906842624 < (wrap64 ((wrap64 ((wrap64 (Int.tdiv t172 1000)) * t174)) + (wrap64 (Int.tdiv (wrap64 ((wrap64 ((wrap64 (2 * (Int.tmod t173 1000))) * t174)) + 1000)) 2000))))) = false := decide_eq_false c18
                clear c18
                replace H := Option.bind_eq_some_iff.mp H
                obtain ⟨t175, A190, H⟩ := H
                replace H : (some (t175, 0)) = some (r1, r2) := H
                have A19 := Aside0.mk A190
                clear A190
                simp only [Option.some.injEq, Prod.mk.injEq] at H
                obtain ⟨rfl, rfl⟩ := H
                go_wp2_with (first | ((with_reducible refine gate_callee (f := 45) rfl ?_); refine goesL_ (some 48) rfl rfl Tryd.func45 (by kernel_rfl) rfl #[.int .i64 (wrap64 ((wrap64 ((wrap64 (Int.tdiv t172 1000)) * t174)) + (wrap64 (Int.tdiv (wrap64 ((wrap64 ((wrap64 (2 * (Int.tmod t173 1000))) * t174)) + 1000)) 2000)))), .int .i64 a0, .int .i64 a1] rfl (by (try simp only [List.map_toArray, List.map_cons, List.map_nil]); first | done | rfl | (simp only [List.length_drop, List.length_take]; rfl)) ?_; (with_reducible refine (skiarearef01_signed.calls (wrap64 ((wrap64 ((wrap64 (Int.tdiv t172 1000)) * t174)) + (wrap64 (Int.tdiv (wrap64 ((wrap64 ((wrap64 (2 * (Int.tmod t173 1000))) * t174)) + 1000)) 2000)))) a0 a1 t175 _ A19.out).mono ?_); rintro e w' ⟨rfl, ⟨nd, rfl⟩⟩; refine ⟨_, rfl, ?_⟩))
                go_ret2
                exact ⟨by first | rfl | (simp [errW_none, errW_some] <;> rfl) | (simp [*, errW_none, errW_some] <;> rfl), by repeat (first | (with_reducible first | exact HB.out | apply below_alloc | apply pw_below_drewN | apply below_drew1) | exact HB.out)⟩

end Go.Proofs.YtnoacoppinkloaaDoor.Pr
