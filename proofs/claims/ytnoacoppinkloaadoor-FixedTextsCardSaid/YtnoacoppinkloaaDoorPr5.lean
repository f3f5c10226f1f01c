-- Printed for this claim by wip/tools/prt.py of this repo
import Derived.Test.YtnoacoppinkloaaDoorPr0
import Derived.Test.YtnoacoppinkloaaDoorPr1
import Derived.Test.YtnoacoppinkloaaDoorPr3
import Derived.Test.YtnoacoppinkloaaDoorPr4
namespace Go.Proofs.YtnoacoppinkloaaDoor.Pr
open Go.RowKit Go.Proofs.YtnoacoppinkloaaDoorW.PrintWords Go.Proofs.YtnoacoppinkloaaDoorW.PrintLast Go.Proofs.YtnoacoppinkloaaDoorW.PrintMore
attribute [local go_sem] max2_int min2_int max_two min_two max_three min_three max_four min_four   -- for this text's walks alone
set_option linter.unusedVariables false
set_option linter.unusedSimpArgs false

/-! ### fixed_Add: function 18 -/
def fixed_Add.f (a0 : Int) (a1 : Int) : Option (Int × Int) := (fixed_within.f a0).bind fun t140 => (if t140 = true then ((fixed_within.f a1).bind fun t141 => (if t141 = true then ((fixed_within.f (wrap64 (a0 + a1))).bind fun t142 => (if t142 = true then (some (wrap64 (a0 + a1), 0)) else (some (0, 12)))) else (some (0, 12)))) else (some (0, 12)))
set_option maxHeartbeats 8000000 in
set_option maxRecDepth 100000 in
theorem fixed_Add.calls (a0 : Int) (a1 : Int) (r1 : Int) (r2 : Int) (w : World) (h : fixed_Add.f a0 a1 = some (r1, r2)) :
    Calls Tryd.prog 18 #[.int .i64 a0, .int .i64 a1] w fun e w' => e = .returned (.tuple #[.int .i64 r1, .int .i64 r2]) ∧ Drawn0 w w' := by
  have H : ((fixed_within.f a0).bind fun t140 => (if t140 = true then ((fixed_within.f a1).bind fun t141 => (if t141 = true then ((fixed_within.f (wrap64 (a0 + a1))).bind fun t142 => (if t142 = true then (some (wrap64 (a0 + a1), 0)) else (some (0, 12)))) else (some (0, 12)))) else (some (0, 12)))) = some (r1, r2) := h
  clear h
  replace H := Option.bind_eq_some_iff.mp H
  obtain ⟨t140, A30, H⟩ := H
  replace H : (if t140 = true then ((fixed_within.f a1).bind fun t141 => (if t141 = true then ((fixed_within.f (wrap64 (a0 + a1))).bind fun t142 => (if t142 = true then (some (wrap64 (a0 + a1), 0)) else (some (0, 12)))) else (some (0, 12)))) else (some (0, 12))) = some (r1, r2) := H
  have A3 := Aside0.mk A30
  clear A30
  by_cases c4 : t140 = true
  · subst c4
    have H1 : ((fixed_within.f a1).bind fun t141 => (if t141 = true then ((fixed_within.f (wrap64 (a0 + a1))).bind fun t142 => (if t142 = true then (some (wrap64 (a0 + a1), 0)) else (some (0, 12)))) else (some (0, 12)))) = some (r1, r2) := by rw [if_pos rfl] at H; exact H
    clear H
    have H := H1
    clear H1
    replace H := Option.bind_eq_some_iff.mp H
    obtain ⟨t141, A50, H⟩ := H
    replace H : (if t141 = true then ((fixed_within.f (wrap64 (a0 + a1))).bind fun t142 => (if t142 = true then (some (wrap64 (a0 + a1), 0)) else (some (0, 12)))) else (some (0, 12))) = some (r1, r2) := H
    have A5 := Aside0.mk A50
    clear A50
    by_cases c6 : t141 = true
    · subst c6
      have H1 : ((fixed_within.f (wrap64 (a0 + a1))).bind fun t142 => (if t142 = true then (some (wrap64 (a0 + a1), 0)) else (some (0, 12)))) = some (r1, r2) := by rw [if_pos rfl] at H; exact H
      clear H
      have H := H1
      clear H1
      replace H := Option.bind_eq_some_iff.mp H
      obtain ⟨t142, A70, H⟩ := H
      replace H : (if t142 = true then (some (wrap64 (a0 + a1), 0)) else (some (0, 12))) = some (r1, r2) := H
      have A7 := Aside0.mk A70
      clear A70
      by_cases c8 : t142 = true
      · subst c8
        have H1 : (some (wrap64 (a0 + a1), 0)) = some (r1, r2) := by rw [if_pos rfl] at H; exact H
        clear H
        have H := H1
        clear H1
        simp only [Option.some.injEq, Prod.mk.injEq] at H
        obtain ⟨rfl, rfl⟩ := H
        go_enter Tryd.func18, Tryd.ntmps18
        go_wp2_with (first | ((with_reducible refine gate_callee (f := 38) rfl ?_); refine goesL_ (some 7) rfl rfl Tryd.func38 (by kernel_rfl) rfl #[.int .i64 a0] rfl (by (try simp only [List.map_toArray, List.map_cons, List.map_nil]); first | done | rfl | (simp only [List.length_drop, List.length_take]; rfl)) ?_; (with_reducible refine (fixed_within.calls a0 true _ A3.out).mono ?_); rintro e w' ⟨rfl, ⟨nd, rfl⟩⟩; refine ⟨_, rfl, ?_⟩) | (go_at_call 38; (with_reducible refine (fixed_within.calls a1 true _ A5.out).mono ?_); rintro e w' ⟨rfl, ⟨nd, rfl⟩⟩) | (go_at_call 38; (with_reducible refine (fixed_within.calls (wrap64 (a0 + a1)) true _ A7.out).mono ?_); rintro e w' ⟨rfl, ⟨nd, rfl⟩⟩))
        go_ret2
        exact ⟨by first | rfl | (simp; done) | (simp [*]; done), by repeat (first | exact Drawn0.refl _ | apply Drawn0.step)⟩
      · replace c8 := Bool.eq_false_iff.mpr c8
        subst c8
        have H1 : (some (0, 12)) = some (r1, r2) := by rw [if_neg (show ¬ (false = true) by decide)] at H; exact H
        clear H
        have H := H1
        clear H1
        simp only [Option.some.injEq, Prod.mk.injEq] at H
        obtain ⟨rfl, rfl⟩ := H
        go_enter Tryd.func18, Tryd.ntmps18
        go_wp2_with (first | ((with_reducible refine gate_callee (f := 38) rfl ?_); refine goesL_ (some 7) rfl rfl Tryd.func38 (by kernel_rfl) rfl #[.int .i64 a0] rfl (by (try simp only [List.map_toArray, List.map_cons, List.map_nil]); first | done | rfl | (simp only [List.length_drop, List.length_take]; rfl)) ?_; (with_reducible refine (fixed_within.calls a0 true _ A3.out).mono ?_); rintro e w' ⟨rfl, ⟨nd, rfl⟩⟩; refine ⟨_, rfl, ?_⟩) | (go_at_call 38; (with_reducible refine (fixed_within.calls a1 true _ A5.out).mono ?_); rintro e w' ⟨rfl, ⟨nd, rfl⟩⟩) | (go_at_call 38; (with_reducible refine (fixed_within.calls (wrap64 (a0 + a1)) false _ A7.out).mono ?_); rintro e w' ⟨rfl, ⟨nd, rfl⟩⟩))
        go_ret2
        exact ⟨by first | rfl | (simp; done) | (simp [*]; done), by repeat (first | exact Drawn0.refl _ | apply Drawn0.step)⟩
    · replace c6 := Bool.eq_false_iff.mpr c6
      subst c6
      have H1 : (some (0, 12)) = some (r1, r2) := by rw [if_neg (show ¬ (false = true) by decide)] at H; exact H
      clear H
      have H := H1
      clear H1
      simp only [Option.some.injEq, Prod.mk.injEq] at H
      obtain ⟨rfl, rfl⟩ := H
      go_enter Tryd.func18, Tryd.ntmps18
      go_wp2_with (first | ((with_reducible refine gate_callee (f := 38) rfl ?_); refine goesL_ (some 7) rfl rfl Tryd.func38 (by kernel_rfl) rfl #[.int .i64 a0] rfl (by (try simp only [List.map_toArray, List.map_cons, List.map_nil]); first | done | rfl | (simp only [List.length_drop, List.length_take]; rfl)) ?_; (with_reducible refine (fixed_within.calls a0 true _ A3.out).mono ?_); rintro e w' ⟨rfl, ⟨nd, rfl⟩⟩; refine ⟨_, rfl, ?_⟩) | (go_at_call 38; (with_reducible refine (fixed_within.calls a1 false _ A5.out).mono ?_); rintro e w' ⟨rfl, ⟨nd, rfl⟩⟩))
      go_ret2
      exact ⟨by first | rfl | (simp; done) | (simp [*]; done), by repeat (first | exact Drawn0.refl _ | apply Drawn0.step)⟩
  · replace c4 := Bool.eq_false_iff.mpr c4
    subst c4
    have H1 : (some (0, 12)) = some (r1, r2) := by rw [if_neg (show ¬ (false = true) by decide)] at H; exact H
    clear H
    have H := H1
    clear H1
    simp only [Option.some.injEq, Prod.mk.injEq] at H
    obtain ⟨rfl, rfl⟩ := H
    go_enter Tryd.func18, Tryd.ntmps18
    go_wp2_with (first | ((with_reducible refine gate_callee (f := 38) rfl ?_); refine goesL_ (some 7) rfl rfl Tryd.func38 (by kernel_rfl) rfl #[.int .i64 a0] rfl (by (try simp only [List.map_toArray, List.map_cons, List.map_nil]); first | done | rfl | (simp only [List.length_drop, List.length_take]; rfl)) ?_; (with_reducible refine (fixed_within.calls a0 false _ A3.out).mono ?_); rintro e w' ⟨rfl, ⟨nd, rfl⟩⟩; refine ⟨_, rfl, ?_⟩))
    go_ret2
    exact ⟨by first | rfl | (simp; done) | (simp [*]; done), by repeat (first | exact Drawn0.refl _ | apply Drawn0.step)⟩

-- NOT PRINTED: function 43 (bits_Add64)

/-! ### fixed_Mul: function 20 (by hand) -/
open Go.Proofs.YtnoacoppinkloaaDoor.DivMath in
theorem bits_Div64.l0_to {Y1 Y0 U u1 u0 s : Int} {R : Option (Int × Int)} {K0 : Nat}
    (h1 : 2147483648 ≤ Y1) (h1' : Y1 < 4294967296) (h0 : 0 ≤ Y0) (h0' : Y0 < 4294967296) (hU : 0 ≤ U) (hU' : U < Y1 * 4294967296 + Y0)
    (hu : 0 ≤ u1) (hu' : u1 < 4294967296)
    (hj : ∀ k, K0 ≤ k → bits_Div64.j2 k (Y1 * 4294967296 + Y0) s Y1 Y0 U u1 u0 ((U * 4294967296 + u1) / (Y1 * 4294967296 + Y0)) = R) :
    ∀ (d : Nat) (q r : Int), q = (U * 4294967296 + u1) / (Y1 * 4294967296 + Y0) + d → r = U - q * Y1 → 0 ≤ r → r < 4294967296 → q < 17179869184 →
      ∀ k, K0 + 2 * d + 2 ≤ k → bits_Div64.l0 k (Y1 * 4294967296 + Y0) s Y1 Y0 U u1 u0 q r = R := by
  have hY : 0 < Y1 * 4294967296 + Y0 := by omega
  have hD0 := digit_nonneg hU hu hY
  have hD1 := digit_lt hU' hu' hY
  have ht := fun q : Int => @test_iff Y1 Y0 U u1 q hY
  generalize (U * 4294967296 + u1) / (Y1 * 4294967296 + Y0) = D at *
  intro d
  induction d with
  | zero =>
    intro q r hq hr hr0 hr1 hq1 k hk
    obtain ⟨k, rfl⟩ : ∃ m, k = m + 2 := ⟨k - 2, by omega⟩
    obtain rfl : q = D := by omega
    have hm := mul_lt_sq hD0 hD1 h0 h0'
    have hno : ¬ q * Y0 > 4294967296 * r + u1 := by rw [hr, ht q]; omega
    simp only [bits_Div64.l0]
    rw [if_neg (by omega), wrap_id (q * Y0) hm.1 hm.2, wrap_id (4294967296 * r) (by omega) (by omega), wrap_id (4294967296 * r + u1) (by omega) (by omega), decide_eq_false hno]
    simp only [bits_Div64.j1]
    rw [if_neg (by decide)]
    exact hj k (by omega)
  | succ d ih =>
    intro q r hq hr hr0 hr1 hq1 k hk
    obtain ⟨k, rfl⟩ : ∃ m, k = m + 2 := ⟨k - 2, by omega⟩
    have hstep : bits_Div64.l0 (k + 2) (Y1 * 4294967296 + Y0) s Y1 Y0 U u1 u0 q r = bits_Div64.j1 (k + 1) (Y1 * 4294967296 + Y0) s Y1 Y0 U u1 u0 q r true := by
      simp only [bits_Div64.l0]
      by_cases hb : q ≥ 4294967296
      · rw [if_pos hb]
      · have hm := mul_lt_sq (by omega : 0 ≤ q) (by omega) h0 h0'
        have hyes : q * Y0 > 4294967296 * r + u1 := by rw [hr, ht q]; omega
        rw [if_neg hb, wrap_id (q * Y0) hm.1 hm.2, wrap_id (4294967296 * r) (by omega) (by omega), wrap_id (4294967296 * r + u1) (by omega) (by omega), decide_eq_true hyes]
    rw [hstep]
    simp only [bits_Div64.j1]
    rw [if_pos trivial, wrap_id (r + Y1) (by omega) (by omega), wrap_id (q - 1) (by omega) (by omega)]
    have hr' : r + Y1 = U - (q - 1) * Y1 := by rw [hr, Int.sub_mul]; omega
    by_cases hb : r + Y1 ≥ 4294967296
    · rw [if_pos hb]
      have hlt : q - 1 < 4294967296 := by
        apply Int.not_le.mp; intro hge
        have : 4294967296 * Y1 ≤ (q - 1) * Y1 := Int.mul_le_mul_of_nonneg_right hge (by omega)
        omega
      have hm := mul_lt_sq (by omega : 0 ≤ q - 1) hlt h0 h0'
      have hno : ¬ (q - 1) * Y0 > 4294967296 * (U - (q - 1) * Y1) + u1 := by rw [← hr']; omega
      rw [ht] at hno
      rw [show q - 1 = D by omega]
      exact hj k (by omega)
    · rw [if_neg hb]
      exact ih (q - 1) (r + Y1) (by omega) hr' (by omega) (by omega) (by omega) k (by omega)
open Go.Proofs.YtnoacoppinkloaaDoor.DivMath in
theorem bits_Div64.l1_to {Y1 Y0 U u1 s Q : Int}
    (h1 : 2147483648 ≤ Y1) (h1' : Y1 < 4294967296) (h0 : 0 ≤ Y0) (h0' : Y0 < 4294967296) (hU : 0 ≤ U) (hU' : U < Y1 * 4294967296 + Y0)
    (hu : 0 ≤ u1) (hu' : u1 < 4294967296) (hs : 0 ≤ s) (hQ0 : 0 ≤ Q) (hQ1 : Q < 4294967296) :
    ∀ (d : Nat) (q r : Int), q = (U * 4294967296 + u1) / (Y1 * 4294967296 + Y0) + d → r = U - q * Y1 → 0 ≤ r → r < 4294967296 → q < 17179869184 →
      ∀ k, 2 * d + 2 ≤ k → bits_Div64.l1 k (Y1 * 4294967296 + Y0) s Y1 Y0 u1 Q r U q =
        some (Q * 4294967296 + (U * 4294967296 + u1) / (Y1 * 4294967296 + Y0), shr .u64 ((U * 4294967296 + u1) % (Y1 * 4294967296 + Y0)) s) := by
  have hY : 0 < Y1 * 4294967296 + Y0 := by omega
  have hD0 := digit_nonneg hU hu hY
  have hD1 := digit_lt hU' hu' hY
  have hM0 := Int.emod_nonneg (U * 4294967296 + u1) (by omega : Y1 * 4294967296 + Y0 ≠ 0)
  have hM1 := Int.emod_lt_of_pos (U * 4294967296 + u1) hY
  have hM := Int.emod_add_mul_ediv (U * 4294967296 + u1) (Y1 * 4294967296 + Y0)
  have ht := fun q : Int => @test_iff Y1 Y0 U u1 q hY
  generalize (U * 4294967296 + u1) / (Y1 * 4294967296 + Y0) = D at *
  generalize (U * 4294967296 + u1) % (Y1 * 4294967296 + Y0) = M at *
  have hend : IntKind.u64.wrap ((IntKind.u64.wrap ((IntKind.u64.wrap (U * 4294967296)) + u1)) - (IntKind.u64.wrap (D * (Y1 * 4294967296 + Y0)))) = M := by
    rw [Int.mul_comm D]
    rw [IntKind.wrap_u64, IntKind.wrap_u64, IntKind.wrap_u64, IntKind.wrap_u64]
    generalize (Y1 * 4294967296 + Y0) * D = P at *
    omega
  have hquo : IntKind.u64.wrap ((IntKind.u64.wrap (Q * 4294967296)) + D) = Q * 4294967296 + D := by
    rw [wrap_id (Q * 4294967296) (by omega) (by omega), wrap_id _ (by omega) (by omega)]
  intro d
  induction d with
  | zero =>
    intro q r hq hr hr0 hr1 hq1 k hk
    obtain ⟨k, rfl⟩ : ∃ m, k = m + 2 := ⟨k - 2, by omega⟩
    obtain rfl : q = D := by omega
    have hm := mul_lt_sq hD0 hD1 h0 h0'
    have hno : ¬ q * Y0 > 4294967296 * r + u1 := by rw [hr, ht q]; omega
    simp only [bits_Div64.l1]
    rw [if_neg (by omega), wrap_id (q * Y0) hm.1 hm.2, wrap_id (4294967296 * r) (by omega) (by omega), wrap_id (4294967296 * r + u1) (by omega) (by omega), decide_eq_false hno]
    simp only [bits_Div64.j4]
    rw [if_neg (by decide), if_pos hs, hend, hquo]
  | succ d ih =>
    intro q r hq hr hr0 hr1 hq1 k hk
    obtain ⟨k, rfl⟩ : ∃ m, k = m + 2 := ⟨k - 2, by omega⟩
    have hstep : bits_Div64.l1 (k + 2) (Y1 * 4294967296 + Y0) s Y1 Y0 u1 Q r U q = bits_Div64.j4 (k + 1) (Y1 * 4294967296 + Y0) s Y1 Y0 u1 Q r U q true := by
      simp only [bits_Div64.l1]
      by_cases hb : q ≥ 4294967296
      · rw [if_pos hb]
      · have hm := mul_lt_sq (by omega : 0 ≤ q) (by omega) h0 h0'
        have hyes : q * Y0 > 4294967296 * r + u1 := by rw [hr, ht q]; omega
        rw [if_neg hb, wrap_id (q * Y0) hm.1 hm.2, wrap_id (4294967296 * r) (by omega) (by omega), wrap_id (4294967296 * r + u1) (by omega) (by omega), decide_eq_true hyes]
    rw [hstep]
    simp only [bits_Div64.j4]
    rw [if_pos trivial, wrap_id (r + Y1) (by omega) (by omega), wrap_id (q - 1) (by omega) (by omega)]
    have hr' : r + Y1 = U - (q - 1) * Y1 := by rw [hr, Int.sub_mul]; omega
    by_cases hb : r + Y1 ≥ 4294967296
    · rw [if_pos hb]
      have hlt : q - 1 < 4294967296 := by
        apply Int.not_le.mp; intro hge
        have : 4294967296 * Y1 ≤ (q - 1) * Y1 := Int.mul_le_mul_of_nonneg_right hge (by omega)
        omega
      have hm := mul_lt_sq (by omega : 0 ≤ q - 1) hlt h0 h0'
      have hno : ¬ (q - 1) * Y0 > 4294967296 * (U - (q - 1) * Y1) + u1 := by rw [← hr']; omega
      rw [ht] at hno
      rw [show q - 1 = D by omega, if_pos hs, hend, hquo]
    · rw [if_neg hb]
      exact ih (q - 1) (r + Y1) (by omega) hr' (by omega) (by omega) (by omega) k (by omega)
open Go.Proofs.YtnoacoppinkloaaDoor.DivMath in
/-- The two digits behind the shift. -/
theorem bits_Div64.digits {Y1 Y0 U u1 u0 s : Int}
    (h1 : 2147483648 ≤ Y1) (h1' : Y1 < 4294967296) (h0 : 0 ≤ Y0) (h0' : Y0 < 4294967296) (hU : 0 ≤ U) (hU' : U < Y1 * 4294967296 + Y0)
    (hu : 0 ≤ u1) (hu' : u1 < 4294967296) (hv : 0 ≤ u0) (hv' : u0 < 4294967296) (hs : 0 ≤ s) (k : Nat) (hk : 32 ≤ k) :
    bits_Div64.l0 k (Y1 * 4294967296 + Y0) s Y1 Y0 U u1 u0 (IntKind.u64.wrap (Int.tdiv U Y1)) (IntKind.u64.wrap (U - IntKind.u64.wrap (IntKind.u64.wrap (Int.tdiv U Y1) * Y1))) =
      some (((U * 4294967296 + u1) * 4294967296 + u0) / (Y1 * 4294967296 + Y0), shr .u64 (((U * 4294967296 + u1) * 4294967296 + u0) % (Y1 * 4294967296 + Y0)) s) := by
  have hY : 0 < Y1 * 4294967296 + Y0 := by omega
  obtain ⟨e1, e2⟩ := @join_digits U u0 u1 (Y1 * 4294967296 + Y0) hY
  rw [e1, e2]
  -- a guess: never too small, at most 2 too great
  have guess : ∀ V v : Int, 0 ≤ V → V < Y1 * 4294967296 + Y0 → 0 ≤ v → v < 4294967296 →
      IntKind.u64.wrap (Int.tdiv V Y1) = V / Y1 ∧ IntKind.u64.wrap (V - IntKind.u64.wrap (V / Y1 * Y1)) = V - V / Y1 * Y1 ∧ 0 ≤ V - V / Y1 * Y1 ∧ V - V / Y1 * Y1 < 4294967296 ∧ V / Y1 < 17179869184 ∧
      ∃ d : Nat, d ≤ 6 ∧ V / Y1 = (V * 4294967296 + v) / (Y1 * 4294967296 + Y0) + d := by
    intro V v a b c e
    have ta : Int.tdiv V Y1 = V / Y1 := Int.tdiv_eq_ediv_of_nonneg a
    have h3 : 0 ≤ V / Y1 := Int.ediv_nonneg a (by omega)
    have h4 : V / Y1 < 8589934592 := by apply Int.ediv_lt_of_lt_mul (by omega); omega
    have h5 := Int.ediv_mul_le V (by omega : Y1 ≠ 0)
    have h6 := Int.lt_ediv_add_one_mul_self V (by omega : 0 < Y1)
    have h7 : 0 ≤ V / Y1 * Y1 := Int.mul_nonneg h3 (by omega)
    have h8 := @guess_ge Y1 Y0 V v (by omega) h0 a c e
    have h9 : 0 ≤ (V * 4294967296 + v) / (Y1 * 4294967296 + Y0) := digit_nonneg a c hY
    rw [Int.add_mul] at h6
    rw [ta, wrap_id _ h3 (by omega), wrap_id _ h7 (by omega), wrap_id _ (by omega) (by omega)]
    refine ⟨rfl, rfl, by omega, by omega, by omega, (V / Y1 - (V * 4294967296 + v) / (Y1 * 4294967296 + Y0)).toNat, ?_, by omega⟩
    -- (q - 3) * Y ≤ N
    have h10 : V / Y1 - 3 ≤ (V * 4294967296 + v) / (Y1 * 4294967296 + Y0) := by
      rw [le_digit hY]
      generalize V / Y1 = q at *
      have e1 : (q - 3) * (Y1 * 4294967296 + Y0) = q * Y1 * 4294967296 + q * Y0 - 3 * Y1 * 4294967296 - 3 * Y0 := by
        rw [Int.mul_add, Int.sub_mul, Int.sub_mul, ← Int.mul_assoc]; omega
      have e3 : q ≤ 4294967297 := by
        apply Int.not_lt.mp; intro hge
        have : 4294967298 * Y1 ≤ q * Y1 := Int.mul_le_mul_of_nonneg_right (by omega) (by omega)
        omega
      have e2 : q * Y0 ≤ 4294967297 * Y0 := Int.mul_le_mul_of_nonneg_right e3 h0
      omega
    omega
  obtain ⟨g1, g2, g3, g4, g5, d, hd, g6⟩ := guess U u1 hU hU' hu hu'
  rw [g1, g2]
  refine bits_Div64.l0_to h1 h1' h0 h0' hU hU' hu hu' (K0 := 18) ?_ d (U / Y1) (U - U / Y1 * Y1) g6 rfl g3 g4 g5 k (by omega)
  intro k hk
  have hD0 := digit_nonneg hU hu hY
  have hD1 := digit_lt hU' hu' hY
  have hM0 := Int.emod_nonneg (U * 4294967296 + u1) (by omega : Y1 * 4294967296 + Y0 ≠ 0)
  have hM1 := Int.emod_lt_of_pos (U * 4294967296 + u1) hY
  have hM := Int.emod_add_mul_ediv (U * 4294967296 + u1) (Y1 * 4294967296 + Y0)
  clear g1 g2 g3 g4 g5 g6 hd e1 e2
  generalize (U * 4294967296 + u1) / (Y1 * 4294967296 + Y0) = D at *
  generalize (U * 4294967296 + u1) % (Y1 * 4294967296 + Y0) = M at *
  have hend : IntKind.u64.wrap ((IntKind.u64.wrap ((IntKind.u64.wrap (U * 4294967296)) + u1)) - (IntKind.u64.wrap (D * (Y1 * 4294967296 + Y0)))) = M := by
    rw [Int.mul_comm D]
    rw [IntKind.wrap_u64, IntKind.wrap_u64, IntKind.wrap_u64, IntKind.wrap_u64]
    generalize (Y1 * 4294967296 + Y0) * D = P at *
    omega
  obtain ⟨k, rfl⟩ : ∃ m, k = m + 1 := ⟨k - 1, by omega⟩
  simp only [bits_Div64.j2]
  rw [if_neg (by omega), hend]
  obtain ⟨g1, g2, g3, g4, g5, d, hd, g6⟩ := guess M u0 hM0 hM1 hv hv'
  rw [g1, g2]
  exact bits_Div64.l1_to h1 h1' h0 h0' hM0 hM1 hv hv' hs hD0 hD1 d (M / Y1) (M - M / Y1 * Y1) g6 rfl g3 g4 g5 k (by omega)
open Go.Proofs.YtnoacoppinkloaaDoor.DivMath in
/-- bits.Div64 divides. -/
theorem bits_Div64.divides (hi lo y : Int) (h0 : 0 ≤ hi) (h1 : hi < y) (h2 : y < 18446744073709551616) (l0 : 0 ≤ lo) (l1 : lo < 18446744073709551616) (k : Nat) (hk : 32 ≤ k) :
    bits_Div64.f k hi lo y = some ((hi * 18446744073709551616 + lo) / y, (hi * 18446744073709551616 + lo) % y) := by
  unfold bits_Div64.f
  rw [if_neg (by omega), if_neg (by omega)]
  by_cases hz : hi = 0
  · rw [if_pos hz, Int.tdiv_eq_ediv_of_nonneg l0, Int.tmod_eq_emod_of_nonneg l0]
    subst hz
    have : lo / y ≤ lo := Int.ediv_le_self y l0
    have : 0 ≤ lo / y := Int.ediv_nonneg l0 (by omega)
    rw [wrap_id _ (by omega) (by omega)]; simp
  rw [if_neg hz]
  have hlz : bits_LeadingZeros64.f y = some (64 - (Lib.bitLen y.toNat : Int)) := by
    unfold bits_LeadingZeros64.f; rw [if_pos (by omega)]
  obtain ⟨b1, b2, b3, b4⟩ := bitLen_bounds y.toNat (by omega) (by omega)
  simp only [hlz, Option.bind_some]
  generalize hb : Lib.bitLen y.toNat = b at *
  obtain ⟨s, hs⟩ : ∃ s : Nat, s = 64 - b := ⟨_, rfl⟩
  have es : (64 - (b : Int)) = (s : Int) := by omega
  have es2 : (64 - (s : Int)) = ((64 - s : Nat) : Int) := by omega
  rw [es, wrap_id (s : Int) (by omega) (by omega), if_pos (by omega), wrap_id (64 - (s : Int)) (by omega) (by omega), if_pos (by omega)]
  rw [es2]
  have shl_s : ∀ x : Int, shl .u64 x (s : Int) = IntKind.u64.wrap (x * 2 ^ s) := fun x => by
    unfold shl; rw [Int.toNat_natCast, Nat.min_eq_left (by show s ≤ 64; omega)]
  have shr_s : ∀ x : Int, shr .u64 x ((64 - s : Nat) : Int) = x / 2 ^ (64 - s) := fun x => by
    unfold shr; rw [Int.toNat_natCast, Nat.min_eq_left (by show 64 - s ≤ 64; omega)]
  have hp : (0 : Int) < 2 ^ s := Int.pow_pos (by decide)
  have hby : y < 2 ^ (64 - s) ∧ 2 ^ (63 - s) ≤ y := by
    rw [show 64 - s = b by omega, show 63 - s = b - 1 by omega]
    constructor
    · have : (y.toNat : Int) < ((2 ^ b : Nat) : Int) := by exact_mod_cast b1
      rw [Int.natCast_pow] at this; simp only [Int.cast_ofNat_Int] at this; omega
    · have : ((2 ^ (b - 1) : Nat) : Int) ≤ (y.toNat : Int) := by exact_mod_cast b2
      rw [Int.natCast_pow] at this; simp only [Int.cast_ofNat_Int] at this; omega
  have hpq : (2 : Int) ^ (64 - s) * 2 ^ s = 18446744073709551616 := by
    rw [← Int.pow_add, show 64 - s + s = 64 by omega]; rfl
  have hpq3 : (2 : Int) ^ (63 - s) * 2 ^ s = 9223372036854775808 := by
    rw [← Int.pow_add, show 63 - s + s = 63 by omega]; rfl
  obtain ⟨o1, o2, o3⟩ := or_high hi lo s (by omega) h0 (by omega) l0 l1
  rw [shl_s, shl_s, shl_s, shr_s]
  have hyP : y * 2 ^ s < 18446744073709551616 ∧ 9223372036854775808 ≤ y * 2 ^ s := by
    rw [← hpq, ← hpq3]
    exact ⟨Int.mul_lt_mul_of_pos_right hby.1 hp, Int.mul_le_mul_of_nonneg_right hby.2 (by omega)⟩
  have hhP : hi * 2 ^ s < y * 2 ^ s := Int.mul_lt_mul_of_pos_right h1 hp
  have hhP0 : 0 ≤ hi * 2 ^ s := Int.mul_nonneg h0 (by omega)
  rw [wrap_id (y * 2 ^ s) (by omega) hyP.1, wrap_id (hi * 2 ^ s) hhP0 (by omega)]
  rw [o1, and_low (y * 2 ^ s) (by omega) hyP.1]
  have hlP0 : 0 ≤ lo * 2 ^ s := Int.mul_nonneg l0 (by omega)
  rw [IntKind.wrap_u64 (lo * 2 ^ s), and_low (lo * 2 ^ s % 18446744073709551616) (by omega) (by omega)]
  -- the scaled quotient
  obtain ⟨q1, q2⟩ := @scale (hi * 18446744073709551616 + lo) y (2 ^ s) hp
  rw [o3] at q1 q2
  have hlq : 0 ≤ lo / 2 ^ (64 - s) := Int.ediv_nonneg l0 (by have : (0 : Int) < 2 ^ (64 - s) := Int.pow_pos (by decide); omega)
  -- the high word is below the divisor
  have hUY : hi * 2 ^ s + lo / 2 ^ (64 - s) < y * 2 ^ s := by
    have hq : (0 : Int) < 2 ^ (64 - s) := Int.pow_pos (by decide)
    have a4 : lo / 2 ^ (64 - s) < 2 ^ s := by apply Int.ediv_lt_of_lt_mul hq; rw [Int.mul_comm, hpq]; exact l1
    have a5 : hi * 2 ^ s ≤ (y - 1) * 2 ^ s := Int.mul_le_mul_of_nonneg_right (by omega) (by omega)
    rw [Int.sub_mul] at a5
    omega
  have hv0 : 0 ≤ lo * 2 ^ s % 18446744073709551616 := Int.emod_nonneg _ (by decide)
  have hv1 : lo * 2 ^ s % 18446744073709551616 < 18446744073709551616 := Int.emod_lt_of_pos _ (by decide)
  have hU0 : 0 ≤ hi * 2 ^ s + lo / 2 ^ (64 - s) := by omega
  have eY : y * 2 ^ s / 4294967296 * 4294967296 + y * 2 ^ s % 4294967296 = y * 2 ^ s := by omega
  generalize lo * 2 ^ s % 18446744073709551616 = v at *
  generalize hi * 2 ^ s + lo / 2 ^ (64 - s) = U at *
  rw [if_neg (by omega)]
  have hd := bits_Div64.digits (Y1 := y * 2 ^ s / 4294967296) (Y0 := y * 2 ^ s % 4294967296) (U := U) (u1 := v / 4294967296) (u0 := v % 4294967296) (s := (s : Int)) (by omega) (by omega) (by omega) (by omega) hU0 (by omega) (by omega) (by omega) (by omega) (by omega) (by omega) k hk
  rw [eY] at hd
  rw [hd]
  have ev : (U * 4294967296 + v / 4294967296) * 4294967296 + v % 4294967296 = U * 18446744073709551616 + v := by omega
  rw [ev, q1]
  have hsh : ∀ x : Int, shr .u64 x (s : Int) = x / 2 ^ s := fun x => by
    unfold shr; rw [Int.toNat_natCast, Nat.min_eq_left (by show s ≤ 64; omega)]
  rw [hsh, q2]
/-- bits.Add64 at the one call of Mul: the model's own entry. -/
theorem add64_500 (x : Int) (h0 : 0 ≤ x) (w : World) : (callFunc 43 #[.int .u64 x, .int .u64 500, .int .u64 0]).run Tryd.prog w =
    .ok (.value (.tuple #[.int .u64 ((x + 500) % 18446744073709551616), .int .u64 ((x + 500) / 18446744073709551616)])) w := by
  rw [run_callFunc_extern Tryd.func43 (by kernel_rfl) (by kernel_rfl) (by kernel_rfl) (e := add64Entry) (by kernel_rfl), run_add64 x 500 0 h0 (by omega) (by omega) (by omega)]
  simp only [Result.andThen, Int.add_zero]
set_option maxHeartbeats 1000000 in
theorem fixed_Mul.walk_out1 (a0 a1 : Int) (w : World) (h : fixed_within.f a0 = some false) :
    Calls Tryd.prog 20 #[.int .i64 a0, .int .i64 a1] w fun e w' => e = .returned (.tuple #[.int .i64 0, .int .i64 12]) ∧ Drawn0 w w' := by
  have A0 := Aside0.mk h
  clear h
  go_enter Tryd.func20, Tryd.ntmps20
  go_wp2_with (first | (go_at_call 38; (with_reducible refine (fixed_within.calls a0 false _ A0.out).mono ?_); rintro e w' ⟨rfl, ⟨nd, rfl⟩⟩))
  go_ret2
  exact ⟨rfl, by repeat (first | exact Drawn0.refl _ | apply Drawn0.step)⟩
set_option maxHeartbeats 1000000 in
theorem fixed_Mul.walk_out2 (a0 a1 : Int) (w : World) (h : fixed_within.f a0 = some true) (h1 : fixed_within.f a1 = some false) :
    Calls Tryd.prog 20 #[.int .i64 a0, .int .i64 a1] w fun e w' => e = .returned (.tuple #[.int .i64 0, .int .i64 12]) ∧ Drawn0 w w' := by
  have A0 := Aside0.mk h
  have A1 := Aside0.mk h1
  clear h h1
  go_enter Tryd.func20, Tryd.ntmps20
  go_wp2_with fail
  (with_reducible refine (fixed_within.calls a0 true _ A0.out).mono ?_); rintro e w' ⟨rfl, ⟨nd, rfl⟩⟩
  go_wp2_with fail
  (with_reducible refine (fixed_within.calls a1 false _ A1.out).mono ?_); rintro e w' ⟨rfl, ⟨nd2, rfl⟩⟩
  go_wp2_with fail
  go_ret2
  exact ⟨rfl, by repeat (first | exact Drawn0.refl _ | apply Drawn0.step)⟩
set_option maxHeartbeats 2000000 in
theorem fixed_Mul.walk_over (a0 a1 A B hi lo lo2 c : Int) (w : World) (h : fixed_within.f a0 = some true) (h1 : fixed_within.f a1 = some true)
    (hA : fixed_abs.f a0 = some A) (hB : fixed_abs.f a1 = some B) (hM : bits_Mul64.f A B = some (hi, lo)) (l0 : 0 ≤ lo)
    (e1 : (lo + 500) % 18446744073709551616 = lo2) (e2 : (lo + 500) / 18446744073709551616 = c) (b0 : 0 ≤ hi) (b1 : hi ≤ 1125899906842624) (b2 : 0 ≤ c) (b3 : c ≤ 1) (ho : 1000 ≤ hi + c) :
    Calls Tryd.prog 20 #[.int .i64 a0, .int .i64 a1] w fun e w' => e = .returned (.tuple #[.int .i64 0, .int .i64 12]) ∧ Drawn0 w w' := by
  have A0 := Aside0.mk h
  have A1 := Aside0.mk h1
  have A2 := Aside0.mk hA
  have A3 := Aside0.mk hB
  have A4 := Aside0.mk hM
  have HADD : ∀ w : World, (callFunc 43 #[.int .u64 lo, .int .u64 500, .int .u64 0]).run Tryd.prog w = .ok (.value (.tuple #[.int .u64 lo2, .int .u64 c])) w := fun w => by
    rw [← e1, ← e2]; exact add64_500 lo l0 w
  have HA := Aside0.mk HADD
  have hge : decide (1000 ≤ hi + c) = true := decide_eq_true ho
  clear h h1 hA hB hM HADD e1 e2 l0 ho
  go_enter Tryd.func20, Tryd.ntmps20
  go_wp2_with fail
  (with_reducible refine (fixed_within.calls a0 true _ A0.out).mono ?_); rintro e w' ⟨rfl, ⟨nd, rfl⟩⟩
  go_wp2_with fail
  (with_reducible refine (fixed_within.calls a1 true _ A1.out).mono ?_); rintro e w' ⟨rfl, ⟨nd2, rfl⟩⟩
  go_wp2_with fail
  (with_reducible refine (fixed_abs.calls a0 A _ A2.out).mono ?_); rintro e w' ⟨rfl, ⟨nd3, rfl⟩⟩
  go_wp2_with fail
  (with_reducible refine (fixed_abs.calls a1 B _ A3.out).mono ?_); rintro e w' ⟨rfl, ⟨nd4, rfl⟩⟩
  go_wp2_with fail
  (with_reducible refine (bits_Mul64.calls A B hi lo _ A4.out).mono ?_); rintro e w' ⟨rfl, ⟨nd5, rfl⟩⟩
  go_wp2_with (simp only [HA.out])
  go_ret2
  exact ⟨rfl, by repeat (first | exact Drawn0.refl _ | apply Drawn0.step)⟩
set_option maxHeartbeats 2000000 in
theorem fixed_Mul.walk_yes (a0 a1 A B hi lo lo2 c q rr r1 r2 : Int) (s0 s1 : Bool) (w : World) (k : Nat) (h : fixed_within.f a0 = some true) (h1 : fixed_within.f a1 = some true)
    (hA : fixed_abs.f a0 = some A) (hB : fixed_abs.f a1 = some B) (hM : bits_Mul64.f A B = some (hi, lo)) (l0 : 0 ≤ lo)
    (e1 : (lo + 500) % 18446744073709551616 = lo2) (e2 : (lo + 500) / 18446744073709551616 = c) (b0 : 0 ≤ hi) (b1 : hi ≤ 1125899906842624) (b2 : 0 ≤ c) (b3 : c ≤ 1) (ho : ¬ 1000 ≤ hi + c)
    (hD : bits_Div64.f k (hi + c) lo2 1000 = some (q, rr)) (hs0 : decide (a0 < 0) = s0) (hs1 : decide (a1 < 0) = s1) (hS : fixed_signed.f q (s0 != s1) = some (r1, r2)) :
    Calls Tryd.prog 20 #[.int .i64 a0, .int .i64 a1] w fun e w' => e = .returned (.tuple #[.int .i64 r1, .int .i64 r2]) ∧ Drawn0 w w' := by
  have A0 := Aside0.mk h
  have A1 := Aside0.mk h1
  have A2 := Aside0.mk hA
  have A3 := Aside0.mk hB
  have A4 := Aside0.mk hM
  have A5 := Aside0.mk hD
  have A6 : Aside0 (fixed_signed.f q (!(s0 == s1)) = some (r1, r2)) := Aside0.mk hS
  have HADD : ∀ w : World, (callFunc 43 #[.int .u64 lo, .int .u64 500, .int .u64 0]).run Tryd.prog w = .ok (.value (.tuple #[.int .u64 lo2, .int .u64 c])) w := fun w => by
    rw [← e1, ← e2]; exact add64_500 lo l0 w
  have HA := Aside0.mk HADD
  have hge : decide (1000 ≤ hi + c) = false := decide_eq_false ho
  clear h h1 hA hB hM HADD e1 e2 l0 hD hS ho
  go_enter Tryd.func20, Tryd.ntmps20
  go_wp2_with fail
  (with_reducible refine (fixed_within.calls a0 true _ A0.out).mono ?_); rintro e w' ⟨rfl, ⟨nd, rfl⟩⟩
  go_wp2_with fail
  (with_reducible refine (fixed_within.calls a1 true _ A1.out).mono ?_); rintro e w' ⟨rfl, ⟨nd2, rfl⟩⟩
  go_wp2_with fail
  (with_reducible refine (fixed_abs.calls a0 A _ A2.out).mono ?_); rintro e w' ⟨rfl, ⟨nd3, rfl⟩⟩
  go_wp2_with fail
  (with_reducible refine (fixed_abs.calls a1 B _ A3.out).mono ?_); rintro e w' ⟨rfl, ⟨nd4, rfl⟩⟩
  go_wp2_with fail
  (with_reducible refine (bits_Mul64.calls A B hi lo _ A4.out).mono ?_); rintro e w' ⟨rfl, ⟨nd5, rfl⟩⟩
  go_wp2_with (simp only [HA.out])
  (with_reducible refine (bits_Div64.calls k (hi + c) lo2 1000 q rr _ A5.out).mono ?_); rintro e w' ⟨rfl, ⟨nd6, rfl⟩⟩
  go_wp2_with fail
  (with_reducible refine (fixed_signed.calls q (!(s0 == s1)) r1 r2 _ A6.out).mono ?_); rintro e w' ⟨rfl, ⟨nd7, rfl⟩⟩
  go_wp2_with fail
  go_ret2
  exact ⟨rfl, by repeat (first | exact Drawn0.refl _ | apply Drawn0.step)⟩
/-- What Mul comes to. -/
def mulOf (a b : Int) : Int × Int :=
  if (-1125899906842624 ≤ a ∧ a ≤ 1125899906842624) ∧ -1125899906842624 ≤ b ∧ b ≤ 1125899906842624 then
    (if ((a.natAbs : Int) * b.natAbs + 500) / 1000 > 1125899906842624 then (0, 12)
     else if ((decide (a < 0)) != (decide (b < 0))) = true then (-(((a.natAbs : Int) * b.natAbs + 500) / 1000), 0) else (((a.natAbs : Int) * b.natAbs + 500) / 1000, 0))
  else (0, 12)
def fixed_Mul.f (a0 : Int) (a1 : Int) : Option (Int × Int) := some (mulOf a0 a1)
theorem fixed_within.yes {a : Int} (h : -1125899906842624 ≤ a ∧ a ≤ 1125899906842624) : fixed_within.f a = some true := by
  unfold fixed_within.f; rw [if_pos (by omega), decide_eq_true (by omega)]
theorem fixed_within.no {a : Int} (h : ¬ (-1125899906842624 ≤ a ∧ a ≤ 1125899906842624)) : fixed_within.f a = some false := by
  unfold fixed_within.f
  split
  · rw [decide_eq_false (by omega)]
  · rfl
theorem fixed_abs.eq {a : Int} (h : -1125899906842624 ≤ a ∧ a ≤ 1125899906842624) : fixed_abs.f a = some (a.natAbs : Int) := by
  unfold fixed_abs.f
  rw [IntKind.wrap_u64, IntKind.wrap_u64]
  split <;> (congr 1; omega)
theorem fixed_signed.eq {q : Int} (h : 0 ≤ q) (b : Bool) : fixed_signed.f q b = some (if q > 1125899906842624 then (0, 12) else if b = true then (-q, 0) else (q, 0)) := by
  unfold fixed_signed.f
  by_cases h1 : q > 1125899906842624
  · rw [if_pos h1, if_pos h1]
  · rw [if_neg h1, if_neg h1]
    have e1 : wrap64 q = q := by unfold wrap64; omega
    have e2 : wrap64 (-q) = -q := by unfold wrap64; omega
    rw [e1, e2]
    cases b <;> rfl
open Go.Proofs.YtnoacoppinkloaaDoor.DivMath in
theorem fixed_Mul.calls (a0 : Int) (a1 : Int) (r1 : Int) (r2 : Int) (w : World) (h : fixed_Mul.f a0 a1 = some (r1, r2)) :
    Calls Tryd.prog 20 #[.int .i64 a0, .int .i64 a1] w fun e w' => e = .returned (.tuple #[.int .i64 r1, .int .i64 r2]) ∧ Drawn0 w w' := by
  unfold fixed_Mul.f mulOf at h
  by_cases h0 : -1125899906842624 ≤ a0 ∧ a0 ≤ 1125899906842624
  · by_cases h1 : -1125899906842624 ≤ a1 ∧ a1 ≤ 1125899906842624
    · rw [if_pos ⟨h0, h1⟩] at h
      have hA := fixed_abs.eq h0
      have hB := fixed_abs.eq h1
      have pA : (a0.natAbs : Int) ≤ 1125899906842624 := by omega
      have pB : (a1.natAbs : Int) ≤ 1125899906842624 := by omega
      have qA : (0 : Int) ≤ (a0.natAbs : Int) := by omega
      have qB : (0 : Int) ≤ (a1.natAbs : Int) := by omega
      have hM : bits_Mul64.f (a0.natAbs : Int) (a1.natAbs : Int) = some ((a0.natAbs : Int) * a1.natAbs / 18446744073709551616, (a0.natAbs : Int) * a1.natAbs % 18446744073709551616) := by
        unfold bits_Mul64.f; rw [if_pos (by omega)]
      generalize hAA : (a0.natAbs : Int) = A at *
      generalize hBB : (a1.natAbs : Int) = B at *
      have hP0 : 0 ≤ A * B := Int.mul_nonneg qA qB
      have hP1 : A * B ≤ 1125899906842624 * 1125899906842624 := Int.mul_le_mul pA pB qB (by decide)
      generalize A * B = P at *
      by_cases ho : 1000 ≤ P / 18446744073709551616 + (P % 18446744073709551616 + 500) / 18446744073709551616
      · rw [if_pos (by omega)] at h
        simp only [Option.some.injEq, Prod.mk.injEq] at h
        obtain ⟨rfl, rfl⟩ := h
        exact fixed_Mul.walk_over a0 a1 A B _ _ _ _ w (fixed_within.yes h0) (fixed_within.yes h1) hA hB hM (by omega) rfl rfl (by omega) (by omega) (by omega) (by omega) ho
      · have hD := bits_Div64.divides (P / 18446744073709551616 + (P % 18446744073709551616 + 500) / 18446744073709551616) ((P % 18446744073709551616 + 500) % 18446744073709551616) 1000 (by omega) (by omega) (by omega) (by omega) (by omega) 32 (by omega)
        have e : (P / 18446744073709551616 + (P % 18446744073709551616 + 500) / 18446744073709551616) * 18446744073709551616 + (P % 18446744073709551616 + 500) % 18446744073709551616 = P + 500 := by omega
        rw [e] at hD
        have hS := fixed_signed.eq (q := (P + 500) / 1000) (by omega) (decide (a0 < 0) != decide (a1 < 0))
        rw [h] at hS
        exact fixed_Mul.walk_yes a0 a1 A B _ _ _ _ _ _ r1 r2 _ _ w 32 (fixed_within.yes h0) (fixed_within.yes h1) hA hB hM (by omega) rfl rfl (by omega) (by omega) (by omega) (by omega) ho hD rfl rfl hS
    · rw [if_neg (by omega)] at h
      simp only [Option.some.injEq, Prod.mk.injEq] at h
      obtain ⟨rfl, rfl⟩ := h
      exact fixed_Mul.walk_out2 a0 a1 w (fixed_within.yes h0) (fixed_within.no h1)
  · rw [if_neg (by omega)] at h
    simp only [Option.some.injEq, Prod.mk.injEq] at h
    obtain ⟨rfl, rfl⟩ := h
    exact fixed_Mul.walk_out1 a0 a1 w (fixed_within.no h0)

/-! ### fixed_Div: function 22 -/
def fixed_Div.j0 : Nat → Int → Int → Bool → Option (Int × Int)
  | 0, _, _, _ => none
  | k + 1, x0, x1, x8 => if x8 = true then (some (0, 12)) else (if x1 = 0 then (some (0, 1)) else ((fixed_abs.f x0).bind fun t145 => ((fixed_abs.f x1).bind fun t146 => (if (IntKind.u64.wrap (2 * t146)) = 0 then (none) else ((fixed_signed.f (IntKind.u64.wrap (Int.tdiv (IntKind.u64.wrap ((IntKind.u64.wrap (2 * (IntKind.u64.wrap (t145 * 1000)))) + t146)) (IntKind.u64.wrap (2 * t146)))) ((decide (x0 < 0)) != (decide (x1 < 0)))).bind fun bt147 => (some (bt147.1, bt147.2)))))))
def fixed_Div.f (k : Nat) (a0 : Int) (a1 : Int) : Option (Int × Int) := (fixed_within.f a0).bind fun t143 => (if t143 = true then ((fixed_within.f a1).bind fun t144 => (fixed_Div.j0 k a0 a1 (!t144))) else (fixed_Div.j0 k a0 a1 true))
theorem fixed_Div.mono_l : ∀ k, (∀ y0 y1 y2, LeO (fixed_Div.j0 k y0 y1 y2) (fixed_Div.j0 (k + 1) y0 y1 y2))
  | 0 => fun _ _ _ r h => by simp [fixed_Div.j0] at h
  | k + 1 => by
    have ih0 := fixed_Div.mono_l k
    · intro y0 y1 y2
      unfold fixed_Div.j0
      repeat' first
      | (with_reducible exact ih0 _ _ _)
      | (with_reducible exact LeO.refl _)
      | (with_reducible exact LeO.none _)
      | (with_reducible refine LeO.ite ?_ ?_)
      | (with_reducible refine LeO.bind ?_ (fun _ => ?_))
      | exact ih0 _ _ _
      | exact LeO.none _
      | refine LeO.ite ?_ ?_
      | refine LeO.bind ?_ (fun _ => ?_)
theorem fixed_Div.mono : ∀ a0 a1 k, LeO (fixed_Div.f k a0 a1) (fixed_Div.f (k + 1) a0 a1) := by
  intro a0 a1 k
  have ih0 := fixed_Div.mono_l k
  unfold fixed_Div.f
  repeat' first
      | (with_reducible exact ih0 _ _ _)
      | (with_reducible exact LeO.refl _)
      | (with_reducible exact LeO.none _)
      | (with_reducible refine LeO.ite ?_ ?_)
      | (with_reducible refine LeO.bind ?_ (fun _ => ?_))
      | exact ih0 _ _ _
      | exact LeO.none _
      | refine LeO.ite ?_ ?_
      | refine LeO.bind ?_ (fun _ => ?_)
set_option maxHeartbeats 8000000 in
set_option maxRecDepth 100000 in
theorem fixed_Div.calls (k : Nat) (a0 : Int) (a1 : Int) (r1 : Int) (r2 : Int) (w : World) (h : fixed_Div.f k a0 a1 = some (r1, r2)) :
    Calls Tryd.prog 22 #[.int .i64 a0, .int .i64 a1] w fun e w' => e = .returned (.tuple #[.int .i64 r1, .int .i64 r2]) ∧ Drawn0 w w' := by
  have H : ((fixed_within.f a0).bind fun t143 => (if t143 = true then ((fixed_within.f a1).bind fun t144 => (fixed_Div.j0 k a0 a1 (!t144))) else (fixed_Div.j0 k a0 a1 true))) = some (r1, r2) := h
  clear h
  have HC3 := Aside0.mk H
  clear H
  go_enter Tryd.func22, Tryd.ntmps22
  go_upto_region 1 with (fail)
  go_cut [8] (fun v8 wc => ∃ (kq : Nat) (x8_2 : Bool), v8 = .bool x8_2 ∧ Aside0 (fixed_Div.j0 kq a0 a1 x8_2 = some (r1, r2)) ∧ Aside0 (kq ≤ k) ∧ Drawn0 w wc)
  case first =>
    have H := HC3.out
    clear HC3
    replace H := Option.bind_eq_some_iff.mp H
    obtain ⟨t143, A40, H⟩ := H
    replace H : (if t143 = true then ((fixed_within.f a1).bind fun t144 => (fixed_Div.j0 k a0 a1 (!t144))) else (fixed_Div.j0 k a0 a1 true)) = some (r1, r2) := H
    have A4 := Aside0.mk A40
    clear A40
    by_cases c5 : t143 = true
    · subst c5
      have H1 : ((fixed_within.f a1).bind fun t144 => (fixed_Div.j0 k a0 a1 (!t144))) = some (r1, r2) := by rw [if_pos rfl] at H; exact H
      clear H
      have H := H1
      clear H1
      replace H := Option.bind_eq_some_iff.mp H
      obtain ⟨t144, A60, H⟩ := H
      replace H : (fixed_Div.j0 k a0 a1 (!t144)) = some (r1, r2) := H
      have A6 := Aside0.mk A60
      clear A60
      have H' := Aside0.mk H
      clear H
      go_wp2_with (first | ((with_reducible refine gate_callee (f := 38) rfl ?_); refine goesL_ (some 10) rfl rfl Tryd.func38 (by kernel_rfl) rfl #[.int .i64 a0] rfl (by (try simp only [List.map_toArray, List.map_cons, List.map_nil]); first | done | rfl | (simp only [List.length_drop, List.length_take]; rfl)) ?_; (with_reducible refine (fixed_within.calls a0 true _ A4.out).mono ?_); rintro e w' ⟨rfl, ⟨nd, rfl⟩⟩; refine ⟨_, rfl, ?_⟩) | (go_at_call 38; (with_reducible refine (fixed_within.calls a1 t144 _ A6.out).mono ?_); rintro e w' ⟨rfl, ⟨nd, rfl⟩⟩))
      go_meet
      case rel => exact ⟨_, (!t144), (by first | rfl | (simp; done) | (simp [*]; done)), H', ⟨by first | omega | exact Nat.le_refl _⟩, by repeat (first | exact Drawn0.refl _ | apply Drawn0.step)⟩
    · replace c5 := Bool.eq_false_iff.mpr c5
      subst c5
      have H1 : (fixed_Div.j0 k a0 a1 true) = some (r1, r2) := by rw [if_neg (show ¬ (false = true) by decide)] at H; exact H
      clear H
      have H := H1
      clear H1
      have H' := Aside0.mk H
      clear H
      go_wp2_with (first | ((with_reducible refine gate_callee (f := 38) rfl ?_); refine goesL_ (some 10) rfl rfl Tryd.func38 (by kernel_rfl) rfl #[.int .i64 a0] rfl (by (try simp only [List.map_toArray, List.map_cons, List.map_nil]); first | done | rfl | (simp only [List.length_drop, List.length_take]; rfl)) ?_; (with_reducible refine (fixed_within.calls a0 false _ A4.out).mono ?_); rintro e w' ⟨rfl, ⟨nd, rfl⟩⟩; refine ⟨_, rfl, ?_⟩))
      go_meet
      case rel => exact ⟨_, (true), (by first | rfl | (simp; done) | (simp [*]; done)), H', ⟨by first | omega | exact Nat.le_refl _⟩, by repeat (first | exact Drawn0.refl _ | apply Drawn0.step)⟩
  case rest =>
    clear HC3
    try clear c2
    try clear p2
    try clear c3
    try clear c5
    obtain ⟨kq, x8_2, rfl, HA, HJ2, ⟨mc2, rfl⟩⟩ := hcut
    cases kq with
    | zero => exact absurd HA.out (by simp [fixed_Div.j0])
    | succ kj2 =>
      have H := HA.out
      clear HA
      simp only [fixed_Div.j0] at H
      by_cases c7 : x8_2 = true
      · subst c7
        have H1 : (some (0, 12)) = some (r1, r2) := by rw [if_pos rfl] at H; exact H
        clear H
        have H := H1
        clear H1
        simp only [Option.some.injEq, Prod.mk.injEq] at H
        obtain ⟨rfl, rfl⟩ := H
        go_wp2
        go_ret2
        exact ⟨by first | rfl | (simp; done) | (simp [*]; done), by repeat (first | exact Drawn0.refl _ | apply Drawn0.step)⟩
      · replace c7 := Bool.eq_false_iff.mpr c7
        subst c7
        have H1 : (if a1 = 0 then (some (0, 1)) else ((fixed_abs.f a0).bind fun t145 => ((fixed_abs.f a1).bind fun t146 => (if (IntKind.u64.wrap (2 * t146)) = 0 then (none) else ((fixed_signed.f (IntKind.u64.wrap (Int.tdiv (IntKind.u64.wrap ((IntKind.u64.wrap (2 * (IntKind.u64.wrap (t145 * 1000)))) + t146)) (IntKind.u64.wrap (2 * t146)))) ((decide (a0 < 0)) != (decide (a1 < 0)))).bind fun bt147 => (some (bt147.1, bt147.2))))))) = some (r1, r2) := by rw [if_neg (show ¬ (false = true) by decide)] at H; exact H
        clear H
        have H := H1
        clear H1
        by_cases c8 : a1 = 0
        · rw [if_pos c8] at H
          have c8b0 : (a1 == 0) = true := beq_iff_eq.mpr c8
          have c8b1 : (a1 != 0) = false := bne_eq_false_iff_eq.mpr c8
          clear c8
          simp only [Option.some.injEq, Prod.mk.injEq] at H
          obtain ⟨rfl, rfl⟩ := H
          go_wp2
          go_ret2
          exact ⟨by first | rfl | (simp; done) | (simp [*]; done), by repeat (first | exact Drawn0.refl _ | apply Drawn0.step)⟩
        · rw [if_neg c8] at H
          have c8b0 : (a1 == 0) = false := beq_eq_false_iff_ne.mpr c8
          have c8b1 : (a1 != 0) = true := bne_iff_ne.mpr c8
          replace H := Option.bind_eq_some_iff.mp H
          obtain ⟨t145, A90, H⟩ := H
          replace H : ((fixed_abs.f a1).bind fun t146 => (if (IntKind.u64.wrap (2 * t146)) = 0 then (none) else ((fixed_signed.f (IntKind.u64.wrap (Int.tdiv (IntKind.u64.wrap ((IntKind.u64.wrap (2 * (IntKind.u64.wrap (t145 * 1000)))) + t146)) (IntKind.u64.wrap (2 * t146)))) ((decide (a0 < 0)) != (decide (a1 < 0)))).bind fun bt147 => (some (bt147.1, bt147.2))))) = some (r1, r2) := H
          have A9 := Aside0.mk A90
          clear A90
          replace H := Option.bind_eq_some_iff.mp H
          obtain ⟨t146, A100, H⟩ := H
          replace H : (if (IntKind.u64.wrap (2 * t146)) = 0 then (none) else ((fixed_signed.f (IntKind.u64.wrap (Int.tdiv (IntKind.u64.wrap ((IntKind.u64.wrap (2 * (IntKind.u64.wrap (t145 * 1000)))) + t146)) (IntKind.u64.wrap (2 * t146)))) ((decide (a0 < 0)) != (decide (a1 < 0)))).bind fun bt147 => (some (bt147.1, bt147.2)))) = some (r1, r2) := H
          have A10 := Aside0.mk A100
          clear A100
          by_cases c11 : (IntKind.u64.wrap (2 * t146)) = 0
          · rw [if_pos c11] at H
            exact absurd H (by simp)
          · rw [if_neg c11] at H
            have c11b0 : ((IntKind.u64.wrap (2 * t146)) == 0) = false := beq_eq_false_iff_ne.mpr c11
            have c11b1 : ((IntKind.u64.wrap (2 * t146)) != 0) = true := bne_iff_ne.mpr c11
            replace H := Option.bind_eq_some_iff.mp H
            obtain ⟨⟨t147, t148⟩, A120, H⟩ := H
            replace H : (some (t147, t148)) = some (r1, r2) := H
            have A12 := Aside0.mk A120
            clear A120
            simp only [Option.some.injEq, Prod.mk.injEq] at H
            obtain ⟨rfl, rfl⟩ := H
            go_wp2_with (first | ((with_reducible refine gate_callee (f := 36) rfl ?_); refine goesL_ (some 21) rfl rfl Tryd.func36 (by kernel_rfl) rfl #[.int .i64 a0] rfl (by (try simp only [List.map_toArray, List.map_cons, List.map_nil]); first | done | rfl | (simp only [List.length_drop, List.length_take]; rfl)) ?_; (with_reducible refine (fixed_abs.calls a0 t145 _ A9.out).mono ?_); rintro e w' ⟨rfl, ⟨nd, rfl⟩⟩; refine ⟨_, rfl, ?_⟩) | ((with_reducible refine gate_callee (f := 36) rfl ?_); refine goesL_ (some 24) rfl rfl Tryd.func36 (by kernel_rfl) rfl #[.int .i64 a1] rfl (by (try simp only [List.map_toArray, List.map_cons, List.map_nil]); first | done | rfl | (simp only [List.length_drop, List.length_take]; rfl)) ?_; (with_reducible refine (fixed_abs.calls a1 t146 _ A10.out).mono ?_); rintro e w' ⟨rfl, ⟨nd, rfl⟩⟩; refine ⟨_, rfl, ?_⟩) | ((with_reducible refine gate_callee (f := 41) rfl ?_); refine goesL_ (some 37) rfl rfl Tryd.func41 (by kernel_rfl) rfl #[.int .u64 (IntKind.u64.wrap (Int.tdiv (IntKind.u64.wrap ((IntKind.u64.wrap (2 * (IntKind.u64.wrap (t145 * 1000)))) + t146)) (IntKind.u64.wrap (2 * t146)))), .bool ((decide (a0 < 0)) != (decide (a1 < 0)))] rfl (by (try simp only [List.map_toArray, List.map_cons, List.map_nil]); first | done | rfl | (simp only [List.length_drop, List.length_take]; rfl)) ?_; (with_reducible refine (fixed_signed.calls (IntKind.u64.wrap (Int.tdiv (IntKind.u64.wrap ((IntKind.u64.wrap (2 * (IntKind.u64.wrap (t145 * 1000)))) + t146)) (IntKind.u64.wrap (2 * t146)))) ((decide (a0 < 0)) != (decide (a1 < 0))) t147 t148 _ A12.out).mono ?_); rintro e w' ⟨rfl, ⟨nd, rfl⟩⟩; refine ⟨_, rfl, ?_⟩))
            go_ret2
            exact ⟨by first | rfl | (simp; done) | (simp [*]; done), by repeat (first | exact Drawn0.refl _ | apply Drawn0.step)⟩

/-! ### fixed_Round: function 25 -/
def fixed_Round.f (a0 : Int) (a1 : Int) : Option (Int × Int) := (fixed_within.f a0).bind fun t149 => (if t149 = true then (if a1 < 1 then (some (0, 1)) else (if a1 > 1000000000 then (some (0, 1)) else ((fixed_floor.f (wrap64 ((wrap64 (2 * a0)) + a1)) (wrap64 (2 * a1))).bind fun t150 => (some (wrap64 (t150 * a1), 0))))) else (some (0, 1)))
set_option maxHeartbeats 8000000 in
set_option maxRecDepth 100000 in
theorem fixed_Round.calls (a0 : Int) (a1 : Int) (r1 : Int) (r2 : Int) (w : World) (h : fixed_Round.f a0 a1 = some (r1, r2)) :
    Calls Tryd.prog 25 #[.int .i64 a0, .int .i64 a1] w fun e w' => e = .returned (.tuple #[.int .i64 r1, .int .i64 r2]) ∧ Drawn0 w w' := by
  have H : ((fixed_within.f a0).bind fun t149 => (if t149 = true then (if a1 < 1 then (some (0, 1)) else (if a1 > 1000000000 then (some (0, 1)) else ((fixed_floor.f (wrap64 ((wrap64 (2 * a0)) + a1)) (wrap64 (2 * a1))).bind fun t150 => (some (wrap64 (t150 * a1), 0))))) else (some (0, 1)))) = some (r1, r2) := h
  clear h
  replace H := Option.bind_eq_some_iff.mp H
  obtain ⟨t149, A30, H⟩ := H
  replace H : (if t149 = true then (if a1 < 1 then (some (0, 1)) else (if a1 > 1000000000 then (some (0, 1)) else ((fixed_floor.f (wrap64 ((wrap64 (2 * a0)) + a1)) (wrap64 (2 * a1))).bind fun t150 => (some (wrap64 (t150 * a1), 0))))) else (some (0, 1))) = some (r1, r2) := H
  have A3 := Aside0.mk A30
  clear A30
  by_cases c4 : t149 = true
  · subst c4
    have H1 : (if a1 < 1 then (some (0, 1)) else (if a1 > 1000000000 then (some (0, 1)) else ((fixed_floor.f (wrap64 ((wrap64 (2 * a0)) + a1)) (wrap64 (2 * a1))).bind fun t150 => (some (wrap64 (t150 * a1), 0))))) = some (r1, r2) := by rw [if_pos rfl] at H; exact H
    clear H
    have H := H1
    clear H1
    by_cases c5 : a1 < 1
    · rw [if_pos c5] at H
      have c5b0 : decide (a1 < 1) = true := decide_eq_true c5
      clear c5
      simp only [Option.some.injEq, Prod.mk.injEq] at H
      obtain ⟨rfl, rfl⟩ := H
      go_enter Tryd.func25, Tryd.ntmps25
      go_wp2_with (first | ((with_reducible refine gate_callee (f := 38) rfl ?_); refine goesL_ (some 7) rfl rfl Tryd.func38 (by kernel_rfl) rfl #[.int .i64 a0] rfl (by (try simp only [List.map_toArray, List.map_cons, List.map_nil]); first | done | rfl | (simp only [List.length_drop, List.length_take]; rfl)) ?_; (with_reducible refine (fixed_within.calls a0 true _ A3.out).mono ?_); rintro e w' ⟨rfl, ⟨nd, rfl⟩⟩; refine ⟨_, rfl, ?_⟩))
      go_ret2
      exact ⟨by first | rfl | (simp; done) | (simp [*]; done), by repeat (first | exact Drawn0.refl _ | apply Drawn0.step)⟩
    · rw [if_neg c5] at H
      have c5b0 : decide (a1 < 1) = false := decide_eq_false c5
      clear c5
      by_cases c6 : a1 > 1000000000
      · rw [if_pos c6] at H
        have c6b0 : decide (1000000000 < a1) = true := decide_eq_true c6
        clear c6
        simp only [Option.some.injEq, Prod.mk.injEq] at H
        obtain ⟨rfl, rfl⟩ := H
        go_enter Tryd.func25, Tryd.ntmps25
        go_wp2_with (first | ((with_reducible refine gate_callee (f := 38) rfl ?_); refine goesL_ (some 7) rfl rfl Tryd.func38 (by kernel_rfl) rfl #[.int .i64 a0] rfl (by (try simp only [List.map_toArray, List.map_cons, List.map_nil]); first | done | rfl | (simp only [List.length_drop, List.length_take]; rfl)) ?_; (with_reducible refine (fixed_within.calls a0 true _ A3.out).mono ?_); rintro e w' ⟨rfl, ⟨nd, rfl⟩⟩; refine ⟨_, rfl, ?_⟩))
        go_ret2
        exact ⟨by first | rfl | (simp; done) | (simp [*]; done), by repeat (first | exact Drawn0.refl _ | apply Drawn0.step)⟩
      · rw [if_neg c6] at H
        have c6b0 : decide (1000000000 < a1) = false := decide_eq_false c6
        clear c6
        replace H := Option.bind_eq_some_iff.mp H
        obtain ⟨t150, A70, H⟩ := H
        replace H : (some (wrap64 (t150 * a1), 0)) = some (r1, r2) := H
        have A7 := Aside0.mk A70
        clear A70
        simp only [Option.some.injEq, Prod.mk.injEq] at H
        obtain ⟨rfl, rfl⟩ := H
        go_enter Tryd.func25, Tryd.ntmps25
        go_wp2_with (first | ((with_reducible refine gate_callee (f := 38) rfl ?_); refine goesL_ (some 7) rfl rfl Tryd.func38 (by kernel_rfl) rfl #[.int .i64 a0] rfl (by (try simp only [List.map_toArray, List.map_cons, List.map_nil]); first | done | rfl | (simp only [List.length_drop, List.length_take]; rfl)) ?_; (with_reducible refine (fixed_within.calls a0 true _ A3.out).mono ?_); rintro e w' ⟨rfl, ⟨nd, rfl⟩⟩; refine ⟨_, rfl, ?_⟩) | ((with_reducible refine gate_callee (f := 31) rfl ?_); refine goesL_ (some 23) rfl rfl Tryd.func31 (by kernel_rfl) rfl #[.int .i64 (wrap64 ((wrap64 (2 * a0)) + a1)), .int .i64 (wrap64 (2 * a1))] rfl (by (try simp only [List.map_toArray, List.map_cons, List.map_nil]); first | done | rfl | (simp only [List.length_drop, List.length_take]; rfl)) ?_; (with_reducible refine (fixed_floor.calls (wrap64 ((wrap64 (2 * a0)) + a1)) (wrap64 (2 * a1)) t150 _ A7.out).mono ?_); rintro e w' ⟨rfl, ⟨nd, rfl⟩⟩; refine ⟨_, rfl, ?_⟩))
        go_ret2
        exact ⟨by first | rfl | (simp; done) | (simp [*]; done), by repeat (first | exact Drawn0.refl _ | apply Drawn0.step)⟩
  · replace c4 := Bool.eq_false_iff.mpr c4
    subst c4
    have H1 : (some (0, 1)) = some (r1, r2) := by rw [if_neg (show ¬ (false = true) by decide)] at H; exact H
    clear H
    have H := H1
    clear H1
    simp only [Option.some.injEq, Prod.mk.injEq] at H
    obtain ⟨rfl, rfl⟩ := H
    go_enter Tryd.func25, Tryd.ntmps25
    go_wp2_with (first | ((with_reducible refine gate_callee (f := 38) rfl ?_); refine goesL_ (some 7) rfl rfl Tryd.func38 (by kernel_rfl) rfl #[.int .i64 a0] rfl (by (try simp only [List.map_toArray, List.map_cons, List.map_nil]); first | done | rfl | (simp only [List.length_drop, List.length_take]; rfl)) ?_; (with_reducible refine (fixed_within.calls a0 false _ A3.out).mono ?_); rintro e w' ⟨rfl, ⟨nd, rfl⟩⟩; refine ⟨_, rfl, ?_⟩))
    go_ret2
    exact ⟨by first | rfl | (simp; done) | (simp [*]; done), by repeat (first | exact Drawn0.refl _ | apply Drawn0.step)⟩

end Go.Proofs.YtnoacoppinkloaaDoor.Pr
