-- Printed for this claim by wip/tools/prt.py of this repo
import Derived.Test.YtnoacoppinkloaaDoorPr0
import Derived.Test.YtnoacoppinkloaaDoorPr2
namespace Go.Proofs.YtnoacoppinkloaaDoor.Pr
open Go.RowKit Go.Proofs.YtnoacoppinkloaaDoorW.PrintWords Go.Proofs.YtnoacoppinkloaaDoorW.PrintLast Go.Proofs.YtnoacoppinkloaaDoorW.PrintMore
attribute [local go_sem] max2_int min2_int max_two min_two max_three min_three max_four min_four   -- for this text's walks alone
set_option linter.unusedVariables false
set_option linter.unusedSimpArgs false

/-! ### fixed_digits: function 34 -/
def fixed_digits.l0 : Nat → ByteArray → Int → Int → Int → Int → Option (Bool)
  | 0, _, _, _, _, _ => none
  | k + 1, x0, x1, x2, x9, x10 => if x10 < x9 then (if 0 ≤ x10 then (if x10 < (x0.size : Int) then (if (bt x0 x10) < 48 then (some false) else (if (bt x0 x10) > 57 then (some false) else (fixed_digits.l0 k x0 x1 x2 x9 (wrap64 (x10 + 1))))) else (none)) else (none)) else (if (x0.size : Int) ≥ x1 then (some (decide ((x0.size : Int) ≤ x2))) else (some false))
def fixed_digits.f (k : Nat) (a0 : ByteArray) (a1 : Int) (a2 : Int) : Option (Bool) := fixed_digits.l0 k a0 a1 a2 (a0.size : Int) 0
theorem fixed_digits.mono_l : ∀ k, (∀ y0 y1 y2 y3 y4, LeO (fixed_digits.l0 k y0 y1 y2 y3 y4) (fixed_digits.l0 (k + 1) y0 y1 y2 y3 y4))
  | 0 => fun _ _ _ _ _ r h => by simp [fixed_digits.l0] at h
  | k + 1 => by
    have ih0 := fixed_digits.mono_l k
    · intro y0 y1 y2 y3 y4
      unfold fixed_digits.l0
      repeat' first
      | (with_reducible exact ih0 _ _ _ _ _)
      | (with_reducible exact LeO.refl _)
      | (with_reducible exact LeO.none _)
      | (with_reducible refine LeO.ite ?_ ?_)
      | (with_reducible refine LeO.bind ?_ (fun _ => ?_))
      | exact ih0 _ _ _ _ _
      | exact LeO.none _
      | refine LeO.ite ?_ ?_
      | refine LeO.bind ?_ (fun _ => ?_)
theorem fixed_digits.mono : ∀ a0 a1 a2 k, LeO (fixed_digits.f k a0 a1 a2) (fixed_digits.f (k + 1) a0 a1 a2) := by
  intro a0 a1 a2 k
  have ih0 := fixed_digits.mono_l k
  unfold fixed_digits.f
  repeat' first
      | (with_reducible exact ih0 _ _ _ _ _)
      | (with_reducible exact LeO.refl _)
      | (with_reducible exact LeO.none _)
      | (with_reducible refine LeO.ite ?_ ?_)
      | (with_reducible refine LeO.bind ?_ (fun _ => ?_))
      | exact ih0 _ _ _ _ _
      | exact LeO.none _
      | refine LeO.ite ?_ ?_
      | refine LeO.bind ?_ (fun _ => ?_)
set_option maxHeartbeats 8000000 in
set_option maxRecDepth 100000 in
theorem fixed_digits.calls (k : Nat) (a0 : ByteArray) (a1 : Int) (a2 : Int) (r : Bool) (w : World) (h : fixed_digits.f k a0 a1 a2 = some r) :
    Calls Tryd.prog 34 #[.string a0, .int .i64 a1, .int .i64 a2] w fun e w' => e = .returned (.bool r) ∧ Drawn0 w w' := by
  have H : (fixed_digits.l0 k a0 a1 a2 (a0.size : Int) 0) = some r := h
  clear h
  have H' := Aside0.mk H
  clear H
  go_enter Tryd.func34, Tryd.ntmps34
  go_wp2
  go_loopg [10] k (fun kq v10 w' => ∃ (x10_1 : Int), v10 = .int .i64 x10_1 ∧ Aside0 (fixed_digits.l0 kq a0 a1 a2 (a0.size : Int) x10_1 = some r) ∧ Aside0 (kq ≤ k) ∧ Drawn0 w w')
  case atStart => exact ⟨(0), (by first | rfl | (simp; done) | (simp [*]; done)), H', ⟨Nat.le_refl _⟩, by repeat (first | exact Drawn0.refl _ | apply Drawn0.step)⟩
  case round =>
    clear H'
    try clear p2
    try clear c3
    obtain ⟨x10_1, rfl, HA, HK1, ⟨m1, rfl⟩⟩ := hrel
    cases gk with
    | zero => exact absurd HA.out (by simp [fixed_digits.l0])
    | succ k1 =>
      have H := HA.out
      clear HA
      simp only [fixed_digits.l0] at H
      by_cases c4 : x10_1 < (a0.size : Int)
      · rw [if_pos c4] at H
        have c4b0 : decide (x10_1 < (a0.size : Int)) = true := decide_eq_true c4
        clear c4
        by_cases c5 : 0 ≤ x10_1
        · rw [if_pos c5] at H
          have c5b0 : decide (0 ≤ x10_1) = true := decide_eq_true c5
          clear c5
          by_cases c6 : x10_1 < (a0.size : Int)
          · rw [if_pos c6] at H
            have c6b0 : decide (x10_1 < (a0.size : Int)) = true := decide_eq_true c6
            clear c6
            by_cases c8 : (bt a0 x10_1) < 48
            · rw [if_pos c8] at H
              have c8b0 : decide ((bt a0 x10_1) < 48) = true := decide_eq_true c8
              clear c8
              obtain rfl := Option.some.inj H
              have p7 : 0 ≤ (x10_1 : Int) := of_decide_eq_true (by first | (with_reducible assumption) | assumption)
              have q7 : x10_1 < (a0.size : Int) := of_decide_eq_true (by first | (with_reducible assumption) | assumption)
              have hx7 := bt_at a0 x10_1
              replace p7 := eq_true p7
              replace q7 := eq_true q7
              go_wp2
              go_ret
              exact ⟨by first | rfl | (simp; done) | (simp [*]; done), by repeat (first | exact Drawn0.refl _ | apply Drawn0.step)⟩
            · rw [if_neg c8] at H
              have c8b0 : decide ((bt a0 x10_1) < 48) = false := decide_eq_false c8
              clear c8
              by_cases c10 : (bt a0 x10_1) > 57
              · rw [if_pos c10] at H
                have c10b0 : decide (57 < (bt a0 x10_1)) = true := decide_eq_true c10
                clear c10
                obtain rfl := Option.some.inj H
                have p7 : 0 ≤ (x10_1 : Int) := of_decide_eq_true (by first | (with_reducible assumption) | assumption)
                have q7 : x10_1 < (a0.size : Int) := of_decide_eq_true (by first | (with_reducible assumption) | assumption)
                have hx7 := bt_at a0 x10_1
                replace p7 := eq_true p7
                replace q7 := eq_true q7
                have p9 : 0 ≤ (x10_1 : Int) := of_decide_eq_true (by first | (with_reducible assumption) | assumption)
                have q9 : x10_1 < (a0.size : Int) := of_decide_eq_true (by first | (with_reducible assumption) | assumption)
                have hx9 := bt_at a0 x10_1
                replace p9 := eq_true p9
                replace q9 := eq_true q9
                go_wp2
                go_ret
                exact ⟨by first | rfl | (simp; done) | (simp [*]; done), by repeat (first | exact Drawn0.refl _ | apply Drawn0.step)⟩
              · rw [if_neg c10] at H
                have c10b0 : decide (57 < (bt a0 x10_1)) = false := decide_eq_false c10
                clear c10
                have H' := Aside0.mk H
                clear H
                have p7 : 0 ≤ (x10_1 : Int) := of_decide_eq_true (by first | (with_reducible assumption) | assumption)
                have q7 : x10_1 < (a0.size : Int) := of_decide_eq_true (by first | (with_reducible assumption) | assumption)
                have hx7 := bt_at a0 x10_1
                replace p7 := eq_true p7
                replace q7 := eq_true q7
                have p9 : 0 ≤ (x10_1 : Int) := of_decide_eq_true (by first | (with_reducible assumption) | assumption)
                have q9 : x10_1 < (a0.size : Int) := of_decide_eq_true (by first | (with_reducible assumption) | assumption)
                have hx9 := bt_at a0 x10_1
                replace p9 := eq_true p9
                replace q9 := eq_true q9
                go_wp2
                go_roundg k1
                case measure => have := HK1.out; omega
                case rel => exact ⟨(wrap64 (x10_1 + 1)), (by first | rfl | (simp; done) | (simp [*]; done)), H', ⟨by have := HK1.out; omega⟩, by repeat (first | exact Drawn0.refl _ | apply Drawn0.step)⟩
          · rw [if_neg c6] at H
            exact absurd H (by simp)
        · rw [if_neg c5] at H
          exact absurd H (by simp)
      · rw [if_neg c4] at H
        have c4b0 : decide (x10_1 < (a0.size : Int)) = false := decide_eq_false c4
        clear c4
        by_cases c11 : (a0.size : Int) ≥ a1
        · rw [if_pos c11] at H
          have c11b0 : decide (a1 ≤ (a0.size : Int)) = true := decide_eq_true c11
          clear c11
          obtain rfl := Option.some.inj H
          go_wp2
          go_ret
          exact ⟨by first | rfl | (simp; done) | (simp [*]; done), by repeat (first | exact Drawn0.refl _ | apply Drawn0.step)⟩
        · rw [if_neg c11] at H
          have c11b0 : decide (a1 ≤ (a0.size : Int)) = false := decide_eq_false c11
          clear c11
          obtain rfl := Option.some.inj H
          go_wp2
          go_ret
          exact ⟨by first | rfl | (simp; done) | (simp [*]; done), by repeat (first | exact Drawn0.refl _ | apply Drawn0.step)⟩

-- NOT PRINTED: function 83 (strconv_lower)

-- NOT PRINTED: function 84 (strconv_underscoreOK)

-- NOT PRINTED: function 73 (strconv_ParseUint)

-- NOT PRINTED: function 59 (strconv_ParseInt)

-- NOT PRINTED: function 53 (strconv_Atoi_53)

-- NOT PRINTED: function 74 (stringslite_Clone)

-- NOT PRINTED: function 60 (strconv_syntaxError)

-- NOT PRINTED: function 61 (strconv_rangeError)

-- NOT PRINTED: function 75 (errors_New)

-- NOT PRINTED: function 64 (strconv_small)

-- NOT PRINTED: function 68 (bits_Len64)

-- NOT PRINTED: function 77 (strconv_log10Pow2)

-- NOT PRINTED: function 78 (strconv_bool2_int)

-- NOT PRINTED: function 65 (strconv_numDigits)

-- NOT PRINTED: function 66 (strconv_formatBase10)

-- NOT PRINTED: function 79 (strconv_isPowerOfTwo)

-- NOT PRINTED: function 86 (bits_TrailingZeros32)

-- NOT PRINTED: function 87 (bits_TrailingZeros64)

-- NOT PRINTED: function 80 (bits_TrailingZeros)

-- NOT PRINTED: function 67 (strconv_formatBits)

-- NOT PRINTED: function 88 (strconv_FormatInt)

-- NOT PRINTED: function 85 (strconv_Itoa_85)

-- NOT PRINTED: function 76 (strconv_Itoa_76)

-- NOT PRINTED: function 62 (strconv_baseError)

-- NOT PRINTED: function 63 (strconv_bitSizeError)

-- NOT PRINTED: function 54 (strconv_toError)

/-! ### strconv_Atoi_35: function 35 (by hand) -/
def strconv_Atoi_35.f (a0 : ByteArray) : Option (Int × Option Int) :=
  if a0.size ≤ 9223372036854775806 then (match Lib.atoiAll a0.data.toList with | .ok v => some (v, none) | _ => none) else none
theorem strconv_Atoi_35.calls (a0 : ByteArray) (r1 : Int) (r2 : Option Int) (w : World) (h : strconv_Atoi_35.f a0 = some (r1, r2)) :
    Calls Tryd.prog 35 #[.string a0] w fun e w' => e = .returned (.tuple #[.int .i64 r1, errW r2]) ∧ Below w.heap.size w w' := by
  unfold strconv_Atoi_35.f at h
  split at h
  · rename_i hs
    split at h
    · rename_i v hv
      simp only [Option.some.injEq, Prod.mk.injEq] at h
      obtain ⟨rfl, rfl⟩ := h
      refine (Tryd.strconv_Atoi_ok a0 hs v hv w).mono ?_
      rintro e w' ⟨rfl, hw⟩
      refine ⟨rfl, ?_⟩
      rcases hw with rfl | ⟨t, rfl⟩
      · exact Below.refl _ _
      · exact bytes_below (Below.refl _ _) (Nat.le_refl _) 5 t
    · exact absurd h (by simp)
  · exact absurd h (by simp)

/-! ### fixed_Parse: function 14 -/
mutual
def fixed_Parse.j0 : Nat → Bool → ByteArray → ByteArray → Bool → Option (Int × Int)
  | 0, _, _, _, _ => none
  | k + 1, x4, x5, x6, x41 => if x41 = true then (some (0, 3)) else (fixed_Parse.l0 k x4 x5 x6)
def fixed_Parse.l0 : Nat → Bool → ByteArray → ByteArray → Option (Int × Int)
  | 0, _, _, _ => none
  | k + 1, x4, x5, x6 => if (x6.size : Int) < 3 then (if x6.size + 1 ≤ 9223372036854775807 then (fixed_Parse.l0 k x4 x5 (x6 ++ (⟨#[48]⟩ : ByteArray))) else (none)) else (if x5.size + x6.size ≤ 9223372036854775807 then ((strconv_Atoi_35.f (x5 ++ x6)).bind fun bt127 => (if bt127.2.isNone = true then (if x4 = true then (fixed_Parse.j2 k x4 bt127.1 (bt127.1 == 0)) else (fixed_Parse.j2 k x4 bt127.1 false)) else (fixed_Parse.j2 k x4 bt127.1 true))) else (none))
def fixed_Parse.j2 : Nat → Bool → Int → Bool → Option (Int × Int)
  | 0, _, _, _ => none
  | k + 1, x4, x8, x62 => if x62 = true then (some (0, 3)) else (if x4 = true then (some (wrap64 (-x8), 0)) else (some (x8, 0)))
end
def fixed_Parse.f (k : Nat) (a0 : ByteArray) : Option (Int × Int) := (strings_CutPrefix.f a0 (⟨#[45]⟩ : ByteArray)).bind fun bt119 => ((strings_Cut.f bt119.1 (⟨#[46]⟩ : ByteArray)).bind fun bt121 => ((fixed_digits.f k bt121.1 1 10).bind fun t124 => (if t124 = true then (if (bt121.1.size : Int) > 1 then (if 0 < (bt121.1.size : Int) then (if (bt bt121.1 0) = 48 then (fixed_Parse.j0 k bt119.2 bt121.1 bt121.2.1 true) else (if bt121.2.2 = true then ((fixed_digits.f k bt121.2.1 1 3).bind fun t125 => (fixed_Parse.j0 k bt119.2 bt121.1 bt121.2.1 (!t125))) else (fixed_Parse.j0 k bt119.2 bt121.1 bt121.2.1 false))) else (none)) else (if bt121.2.2 = true then ((fixed_digits.f k bt121.2.1 1 3).bind fun t126 => (fixed_Parse.j0 k bt119.2 bt121.1 bt121.2.1 (!t126))) else (fixed_Parse.j0 k bt119.2 bt121.1 bt121.2.1 false))) else (fixed_Parse.j0 k bt119.2 bt121.1 bt121.2.1 true))))
theorem fixed_Parse.mono_l : ∀ k, (∀ y0 y1 y2 y3, LeO (fixed_Parse.j0 k y0 y1 y2 y3) (fixed_Parse.j0 (k + 1) y0 y1 y2 y3)) ∧ (∀ y0 y1 y2, LeO (fixed_Parse.l0 k y0 y1 y2) (fixed_Parse.l0 (k + 1) y0 y1 y2)) ∧ (∀ y0 y1 y2, LeO (fixed_Parse.j2 k y0 y1 y2) (fixed_Parse.j2 (k + 1) y0 y1 y2))
  | 0 => ⟨fun _ _ _ _ r h => by simp [fixed_Parse.j0] at h, fun _ _ _ r h => by simp [fixed_Parse.l0] at h, fun _ _ _ r h => by simp [fixed_Parse.j2] at h⟩
  | k + 1 => by
    obtain ⟨ih0, ih1, ih2⟩ := fixed_Parse.mono_l k
    refine ⟨?_, ?_, ?_⟩
    · intro y0 y1 y2 y3
      unfold fixed_Parse.j0
      repeat' first
      | (with_reducible exact ih0 _ _ _ _)
      | (with_reducible exact ih1 _ _ _)
      | (with_reducible exact ih2 _ _ _)
      | (with_reducible exact fixed_digits.mono _ _ _ _)
      | (with_reducible exact LeO.refl _)
      | (with_reducible exact LeO.none _)
      | (with_reducible refine LeO.ite ?_ ?_)
      | (with_reducible refine LeO.bind ?_ (fun _ => ?_))
      | exact ih0 _ _ _ _
      | exact ih1 _ _ _
      | exact ih2 _ _ _
      | exact fixed_digits.mono _ _ _ _
      | exact LeO.none _
      | refine LeO.ite ?_ ?_
      | refine LeO.bind ?_ (fun _ => ?_)
    · intro y0 y1 y2
      unfold fixed_Parse.l0
      repeat' first
      | (with_reducible exact ih0 _ _ _ _)
      | (with_reducible exact ih1 _ _ _)
      | (with_reducible exact ih2 _ _ _)
      | (with_reducible exact fixed_digits.mono _ _ _ _)
      | (with_reducible exact LeO.refl _)
      | (with_reducible exact LeO.none _)
      | (with_reducible refine LeO.ite ?_ ?_)
      | (with_reducible refine LeO.bind ?_ (fun _ => ?_))
      | exact ih0 _ _ _ _
      | exact ih1 _ _ _
      | exact ih2 _ _ _
      | exact fixed_digits.mono _ _ _ _
      | exact LeO.none _
      | refine LeO.ite ?_ ?_
      | refine LeO.bind ?_ (fun _ => ?_)
    · intro y0 y1 y2
      unfold fixed_Parse.j2
      repeat' first
      | (with_reducible exact ih0 _ _ _ _)
      | (with_reducible exact ih1 _ _ _)
      | (with_reducible exact ih2 _ _ _)
      | (with_reducible exact fixed_digits.mono _ _ _ _)
      | (with_reducible exact LeO.refl _)
      | (with_reducible exact LeO.none _)
      | (with_reducible refine LeO.ite ?_ ?_)
      | (with_reducible refine LeO.bind ?_ (fun _ => ?_))
      | exact ih0 _ _ _ _
      | exact ih1 _ _ _
      | exact ih2 _ _ _
      | exact fixed_digits.mono _ _ _ _
      | exact LeO.none _
      | refine LeO.ite ?_ ?_
      | refine LeO.bind ?_ (fun _ => ?_)
theorem fixed_Parse.mono : ∀ a0 k, LeO (fixed_Parse.f k a0) (fixed_Parse.f (k + 1) a0) := by
  intro a0 k
  obtain ⟨ih0, ih1, ih2⟩ := fixed_Parse.mono_l k
  unfold fixed_Parse.f
  repeat' first
      | (with_reducible exact ih0 _ _ _ _)
      | (with_reducible exact ih1 _ _ _)
      | (with_reducible exact ih2 _ _ _)
      | (with_reducible exact fixed_digits.mono _ _ _ _)
      | (with_reducible exact LeO.refl _)
      | (with_reducible exact LeO.none _)
      | (with_reducible refine LeO.ite ?_ ?_)
      | (with_reducible refine LeO.bind ?_ (fun _ => ?_))
      | exact ih0 _ _ _ _
      | exact ih1 _ _ _
      | exact ih2 _ _ _
      | exact fixed_digits.mono _ _ _ _
      | exact LeO.none _
      | refine LeO.ite ?_ ?_
      | refine LeO.bind ?_ (fun _ => ?_)
set_option maxHeartbeats 8000000 in
set_option maxRecDepth 100000 in
theorem fixed_Parse.calls (k : Nat) (a0 : ByteArray) (r1 : Int) (r2 : Int) (w : World) (h : fixed_Parse.f k a0 = some (r1, r2)) :
    Calls Tryd.prog 14 #[.string a0] w fun e w' => e = .returned (.tuple #[.int .i64 r1, .int .i64 r2]) ∧ Below w.heap.size w w' := by
  have hu50 := Tryd.underlying50
  have HB := Aside0.mk (Below.refl w.heap.size w)
  have H : ((strings_CutPrefix.f a0 (⟨#[45]⟩ : ByteArray)).bind fun bt119 => ((strings_Cut.f bt119.1 (⟨#[46]⟩ : ByteArray)).bind fun bt121 => ((fixed_digits.f k bt121.1 1 10).bind fun t124 => (if t124 = true then (if (bt121.1.size : Int) > 1 then (if 0 < (bt121.1.size : Int) then (if (bt bt121.1 0) = 48 then (fixed_Parse.j0 k bt119.2 bt121.1 bt121.2.1 true) else (if bt121.2.2 = true then ((fixed_digits.f k bt121.2.1 1 3).bind fun t125 => (fixed_Parse.j0 k bt119.2 bt121.1 bt121.2.1 (!t125))) else (fixed_Parse.j0 k bt119.2 bt121.1 bt121.2.1 false))) else (none)) else (if bt121.2.2 = true then ((fixed_digits.f k bt121.2.1 1 3).bind fun t126 => (fixed_Parse.j0 k bt119.2 bt121.1 bt121.2.1 (!t126))) else (fixed_Parse.j0 k bt119.2 bt121.1 bt121.2.1 false))) else (fixed_Parse.j0 k bt119.2 bt121.1 bt121.2.1 true))))) = some (r1, r2) := h
  clear h
  replace H := Option.bind_eq_some_iff.mp H
  obtain ⟨⟨t119, t120⟩, A20, H⟩ := H
  replace H : ((strings_Cut.f t119 (⟨#[46]⟩ : ByteArray)).bind fun bt121 => ((fixed_digits.f k bt121.1 1 10).bind fun t124 => (if t124 = true then (if (bt121.1.size : Int) > 1 then (if 0 < (bt121.1.size : Int) then (if (bt bt121.1 0) = 48 then (fixed_Parse.j0 k t120 bt121.1 bt121.2.1 true) else (if bt121.2.2 = true then ((fixed_digits.f k bt121.2.1 1 3).bind fun t125 => (fixed_Parse.j0 k t120 bt121.1 bt121.2.1 (!t125))) else (fixed_Parse.j0 k t120 bt121.1 bt121.2.1 false))) else (none)) else (if bt121.2.2 = true then ((fixed_digits.f k bt121.2.1 1 3).bind fun t126 => (fixed_Parse.j0 k t120 bt121.1 bt121.2.1 (!t126))) else (fixed_Parse.j0 k t120 bt121.1 bt121.2.1 false))) else (fixed_Parse.j0 k t120 bt121.1 bt121.2.1 true)))) = some (r1, r2) := H
  have A2 := Aside0.mk A20
  clear A20
  replace H := Option.bind_eq_some_iff.mp H
  obtain ⟨⟨t121, t122, t123⟩, A30, H⟩ := H
  replace H : ((fixed_digits.f k t121 1 10).bind fun t124 => (if t124 = true then (if (t121.size : Int) > 1 then (if 0 < (t121.size : Int) then (if (bt t121 0) = 48 then (fixed_Parse.j0 k t120 t121 t122 true) else (if t123 = true then ((fixed_digits.f k t122 1 3).bind fun t125 => (fixed_Parse.j0 k t120 t121 t122 (!t125))) else (fixed_Parse.j0 k t120 t121 t122 false))) else (none)) else (if t123 = true then ((fixed_digits.f k t122 1 3).bind fun t126 => (fixed_Parse.j0 k t120 t121 t122 (!t126))) else (fixed_Parse.j0 k t120 t121 t122 false))) else (fixed_Parse.j0 k t120 t121 t122 true))) = some (r1, r2) := H
  have A3 := Aside0.mk A30
  clear A30
  have HC4 := Aside0.mk H
  clear H
  go_enter Tryd.func14, Tryd.ntmps14
  go_upto_region 3 with (first | ((with_reducible refine gate_callee (f := 32) rfl ?_); refine goesL_ (some 12) rfl rfl Tryd.func32 (by kernel_rfl) rfl #[.string a0, .string (⟨#[45]⟩ : ByteArray)] rfl (by (try simp only [List.map_toArray, List.map_cons, List.map_nil]); first | done | rfl | (simp only [List.length_drop, List.length_take]; rfl)) ?_; (with_reducible refine (strings_CutPrefix.calls a0 (⟨#[45]⟩ : ByteArray) t119 t120 _ A2.out).mono ?_); rintro e w' ⟨rfl, ⟨nd, rfl⟩⟩; refine ⟨_, rfl, ?_⟩) | ((with_reducible refine gate_callee (f := 33) rfl ?_); refine goesL_ (some 17) rfl rfl Tryd.func33 (by kernel_rfl) rfl #[.string t119, .string (⟨#[46]⟩ : ByteArray)] rfl (by (try simp only [List.map_toArray, List.map_cons, List.map_nil]); first | done | rfl | (simp only [List.length_drop, List.length_take]; rfl)) ?_; (with_reducible refine (strings_Cut.calls t119 (⟨#[46]⟩ : ByteArray) t121 t122 t123 _ A3.out).mono ?_); rintro e w' ⟨rfl, ⟨nd, rfl⟩⟩; refine ⟨_, rfl, ?_⟩))
  (try simp only [Act.put, List.setIfInBounds_toArray, List.set_cons_zero, List.set_cons_succ])
  go_cut [41] (fun v41 wc => ∃ (kq : Nat) (x41_3 : Bool), v41 = .bool x41_3 ∧ Aside0 (fixed_Parse.j0 kq t120 t121 t122 x41_3 = some (r1, r2)) ∧ Aside0 (kq ≤ k) ∧ Aside0 (Below w.heap.size w wc))
  case first =>
    have H := HC4.out
    clear HC4
    replace H := Option.bind_eq_some_iff.mp H
    obtain ⟨t124, A50, H⟩ := H
    replace H : (if t124 = true then (if (t121.size : Int) > 1 then (if 0 < (t121.size : Int) then (if (bt t121 0) = 48 then (fixed_Parse.j0 k t120 t121 t122 true) else (if t123 = true then ((fixed_digits.f k t122 1 3).bind fun t125 => (fixed_Parse.j0 k t120 t121 t122 (!t125))) else (fixed_Parse.j0 k t120 t121 t122 false))) else (none)) else (if t123 = true then ((fixed_digits.f k t122 1 3).bind fun t126 => (fixed_Parse.j0 k t120 t121 t122 (!t126))) else (fixed_Parse.j0 k t120 t121 t122 false))) else (fixed_Parse.j0 k t120 t121 t122 true)) = some (r1, r2) := H
    have A5 := Aside0.mk A50
    clear A50
    by_cases c6 : t124 = true
    · subst c6
      have H1 : (if (t121.size : Int) > 1 then (if 0 < (t121.size : Int) then (if (bt t121 0) = 48 then (fixed_Parse.j0 k t120 t121 t122 true) else (if t123 = true then ((fixed_digits.f k t122 1 3).bind fun t125 => (fixed_Parse.j0 k t120 t121 t122 (!t125))) else (fixed_Parse.j0 k t120 t121 t122 false))) else (none)) else (if t123 = true then ((fixed_digits.f k t122 1 3).bind fun t126 => (fixed_Parse.j0 k t120 t121 t122 (!t126))) else (fixed_Parse.j0 k t120 t121 t122 false))) = some (r1, r2) := by rw [if_pos rfl] at H; exact H
      clear H
      have H := H1
      clear H1
      by_cases c7 : (t121.size : Int) > 1
      · rw [if_pos c7] at H
        have c7b0 : decide (1 < (t121.size : Int)) = true := decide_eq_true c7
        have c7b1 : decide (1 < t121.size) = true := decide_eq_true (by omega)
        clear c7
        (first | rw [c7b0] | (simp only [i64_w, i32_w]; rw [c7b0]) | skip)
        by_cases c8 : 0 < (t121.size : Int)
        · rw [if_pos c8] at H
          have c8b0 : decide (0 < (t121.size : Int)) = true := decide_eq_true c8
          have c8b1 : decide (0 < t121.size) = true := decide_eq_true (by omega)
          clear c8
          by_cases c10 : (bt t121 0) = 48
          · rw [if_pos c10] at H
            have c10b0 : ((bt t121 0) == 48) = true := beq_iff_eq.mpr c10
            have c10b1 : ((bt t121 0) != 48) = false := bne_eq_false_iff_eq.mpr c10
            clear c10
            have H' := Aside0.mk H
            clear H
            go_wp2_with (first | ((with_reducible refine gate_callee (f := 34) rfl ?_); refine goesL_ (some 22) rfl rfl Tryd.func34 (by kernel_rfl) rfl #[.string t121, .int .i64 1, .int .i64 10] rfl (by (try simp only [List.map_toArray, List.map_cons, List.map_nil]); first | done | rfl | (simp only [List.length_drop, List.length_take]; rfl)) ?_; (with_reducible refine (fixed_digits.calls k t121 1 10 true _ A5.out).mono ?_); rintro e w' ⟨rfl, ⟨nd, rfl⟩⟩; refine ⟨_, rfl, ?_⟩; have p9 : 0 ≤ (0 : Int) := (by omega); have q9 : 0 < t121.size := (by have : (0 : Int) < (t121.size : Int) := of_decide_eq_true (by first | (with_reducible assumption) | assumption); omega); have hx9 : ∀ h : 0 < t121.size, ((t121[0]'h).toNat : Int) = bt t121 0 := bt_at t121 0; clear p9; have qi9 : (0 < (t121.size : Int)) = True := eq_true (of_decide_eq_true (by first | (with_reducible assumption) | assumption)); replace q9 := eq_true q9))
            go_meet
            case rel => exact ⟨_, (true), (by first | rfl | (simp; done) | (simp [*]; done)), H', ⟨by first | omega | exact Nat.le_refl _⟩, ⟨by repeat (first | (with_reducible first | exact HB.out | apply below_alloc | apply pw_below_drewN | apply below_drew1) | exact HB.out)⟩⟩
          · rw [if_neg c10] at H
            have c10b0 : ((bt t121 0) == 48) = false := beq_eq_false_iff_ne.mpr c10
            have c10b1 : ((bt t121 0) != 48) = true := bne_iff_ne.mpr c10
            by_cases c11 : t123 = true
            · subst c11
              have H1 : ((fixed_digits.f k t122 1 3).bind fun t125 => (fixed_Parse.j0 k t120 t121 t122 (!t125))) = some (r1, r2) := by rw [if_pos rfl] at H; exact H
              clear H
              have H := H1
              clear H1
              replace H := Option.bind_eq_some_iff.mp H
              obtain ⟨t125, A120, H⟩ := H
              replace H : (fixed_Parse.j0 k t120 t121 t122 (!t125)) = some (r1, r2) := H
              have A12 := Aside0.mk A120
              clear A120
              have H' := Aside0.mk H
              clear H
              go_wp2_with (first | ((with_reducible refine gate_callee (f := 34) rfl ?_); refine goesL_ (some 22) rfl rfl Tryd.func34 (by kernel_rfl) rfl #[.string t121, .int .i64 1, .int .i64 10] rfl (by (try simp only [List.map_toArray, List.map_cons, List.map_nil]); first | done | rfl | (simp only [List.length_drop, List.length_take]; rfl)) ?_; (with_reducible refine (fixed_digits.calls k t121 1 10 true _ A5.out).mono ?_); rintro e w' ⟨rfl, ⟨nd, rfl⟩⟩; refine ⟨_, rfl, ?_⟩; have p9 : 0 ≤ (0 : Int) := (by omega); have q9 : 0 < t121.size := (by have : (0 : Int) < (t121.size : Int) := of_decide_eq_true (by first | (with_reducible assumption) | assumption); omega); have hx9 : ∀ h : 0 < t121.size, ((t121[0]'h).toNat : Int) = bt t121 0 := bt_at t121 0; clear p9; have qi9 : (0 < (t121.size : Int)) = True := eq_true (of_decide_eq_true (by first | (with_reducible assumption) | assumption)); replace q9 := eq_true q9) | (go_at_call 34; (with_reducible refine (fixed_digits.calls k t122 1 3 t125 _ A12.out).mono ?_); rintro e w' ⟨rfl, ⟨nd, rfl⟩⟩))
              go_meet
              case rel => exact ⟨_, (!t125), (by first | rfl | (simp; done) | (simp [*]; done)), H', ⟨by first | omega | exact Nat.le_refl _⟩, ⟨by repeat (first | (with_reducible first | exact HB.out | apply below_alloc | apply pw_below_drewN | apply below_drew1) | exact HB.out)⟩⟩
            · replace c11 := Bool.eq_false_iff.mpr c11
              subst c11
              have H1 : (fixed_Parse.j0 k t120 t121 t122 false) = some (r1, r2) := by rw [if_neg (show ¬ (false = true) by decide)] at H; exact H
              clear H
              have H := H1
              clear H1
              have H' := Aside0.mk H
              clear H
              go_wp2_with (first | ((with_reducible refine gate_callee (f := 34) rfl ?_); refine goesL_ (some 22) rfl rfl Tryd.func34 (by kernel_rfl) rfl #[.string t121, .int .i64 1, .int .i64 10] rfl (by (try simp only [List.map_toArray, List.map_cons, List.map_nil]); first | done | rfl | (simp only [List.length_drop, List.length_take]; rfl)) ?_; (with_reducible refine (fixed_digits.calls k t121 1 10 true _ A5.out).mono ?_); rintro e w' ⟨rfl, ⟨nd, rfl⟩⟩; refine ⟨_, rfl, ?_⟩; have p9 : 0 ≤ (0 : Int) := (by omega); have q9 : 0 < t121.size := (by have : (0 : Int) < (t121.size : Int) := of_decide_eq_true (by first | (with_reducible assumption) | assumption); omega); have hx9 : ∀ h : 0 < t121.size, ((t121[0]'h).toNat : Int) = bt t121 0 := bt_at t121 0; clear p9; have qi9 : (0 < (t121.size : Int)) = True := eq_true (of_decide_eq_true (by first | (with_reducible assumption) | assumption)); replace q9 := eq_true q9))
              go_meet
              case rel => exact ⟨_, (false), (by first | rfl | (simp; done) | (simp [*]; done)), H', ⟨by first | omega | exact Nat.le_refl _⟩, ⟨by repeat (first | (with_reducible first | exact HB.out | apply below_alloc | apply pw_below_drewN | apply below_drew1) | exact HB.out)⟩⟩
        · rw [if_neg c8] at H
          exact absurd H (by simp)
      · rw [if_neg c7] at H
        have c7b0 : decide (1 < (t121.size : Int)) = false := decide_eq_false c7
        have c7b1 : decide (1 < t121.size) = false := decide_eq_false (by omega)
        clear c7
        (first | rw [c7b0] | (simp only [i64_w, i32_w]; rw [c7b0]) | skip)
        by_cases c13 : t123 = true
        · subst c13
          have H1 : ((fixed_digits.f k t122 1 3).bind fun t126 => (fixed_Parse.j0 k t120 t121 t122 (!t126))) = some (r1, r2) := by rw [if_pos rfl] at H; exact H
          clear H
          have H := H1
          clear H1
          replace H := Option.bind_eq_some_iff.mp H
          obtain ⟨t126, A140, H⟩ := H
          replace H : (fixed_Parse.j0 k t120 t121 t122 (!t126)) = some (r1, r2) := H
          have A14 := Aside0.mk A140
          clear A140
          have H' := Aside0.mk H
          clear H
          go_wp2_with (first | ((with_reducible refine gate_callee (f := 34) rfl ?_); refine goesL_ (some 22) rfl rfl Tryd.func34 (by kernel_rfl) rfl #[.string t121, .int .i64 1, .int .i64 10] rfl (by (try simp only [List.map_toArray, List.map_cons, List.map_nil]); first | done | rfl | (simp only [List.length_drop, List.length_take]; rfl)) ?_; (with_reducible refine (fixed_digits.calls k t121 1 10 true _ A5.out).mono ?_); rintro e w' ⟨rfl, ⟨nd, rfl⟩⟩; refine ⟨_, rfl, ?_⟩) | (go_at_call 34; (with_reducible refine (fixed_digits.calls k t122 1 3 t126 _ A14.out).mono ?_); rintro e w' ⟨rfl, ⟨nd, rfl⟩⟩))
          go_meet
          case rel => exact ⟨_, (!t126), (by first | rfl | (simp; done) | (simp [*]; done)), H', ⟨by first | omega | exact Nat.le_refl _⟩, ⟨by repeat (first | (with_reducible first | exact HB.out | apply below_alloc | apply pw_below_drewN | apply below_drew1) | exact HB.out)⟩⟩
        · replace c13 := Bool.eq_false_iff.mpr c13
          subst c13
          have H1 : (fixed_Parse.j0 k t120 t121 t122 false) = some (r1, r2) := by rw [if_neg (show ¬ (false = true) by decide)] at H; exact H
          clear H
          have H := H1
          clear H1
          have H' := Aside0.mk H
          clear H
          go_wp2_with (first | ((with_reducible refine gate_callee (f := 34) rfl ?_); refine goesL_ (some 22) rfl rfl Tryd.func34 (by kernel_rfl) rfl #[.string t121, .int .i64 1, .int .i64 10] rfl (by (try simp only [List.map_toArray, List.map_cons, List.map_nil]); first | done | rfl | (simp only [List.length_drop, List.length_take]; rfl)) ?_; (with_reducible refine (fixed_digits.calls k t121 1 10 true _ A5.out).mono ?_); rintro e w' ⟨rfl, ⟨nd, rfl⟩⟩; refine ⟨_, rfl, ?_⟩))
          go_meet
          case rel => exact ⟨_, (false), (by first | rfl | (simp; done) | (simp [*]; done)), H', ⟨by first | omega | exact Nat.le_refl _⟩, ⟨by repeat (first | (with_reducible first | exact HB.out | apply below_alloc | apply pw_below_drewN | apply below_drew1) | exact HB.out)⟩⟩
    · replace c6 := Bool.eq_false_iff.mpr c6
      subst c6
      have H1 : (fixed_Parse.j0 k t120 t121 t122 true) = some (r1, r2) := by rw [if_neg (show ¬ (false = true) by decide)] at H; exact H
      clear H
      have H := H1
      clear H1
      have H' := Aside0.mk H
      clear H
      go_wp2_with (first | ((with_reducible refine gate_callee (f := 34) rfl ?_); refine goesL_ (some 22) rfl rfl Tryd.func34 (by kernel_rfl) rfl #[.string t121, .int .i64 1, .int .i64 10] rfl (by (try simp only [List.map_toArray, List.map_cons, List.map_nil]); first | done | rfl | (simp only [List.length_drop, List.length_take]; rfl)) ?_; (with_reducible refine (fixed_digits.calls k t121 1 10 false _ A5.out).mono ?_); rintro e w' ⟨rfl, ⟨nd, rfl⟩⟩; refine ⟨_, rfl, ?_⟩))
      go_meet
      case rel => exact ⟨_, (true), (by first | rfl | (simp; done) | (simp [*]; done)), H', ⟨by first | omega | exact Nat.le_refl _⟩, ⟨by repeat (first | (with_reducible first | exact HB.out | apply below_alloc | apply pw_below_drewN | apply below_drew1) | exact HB.out)⟩⟩
  case rest =>
    clear HC4
    try clear c1
    try clear p2
    try clear c3
    try clear c6
    try clear c7
    try clear c7b0
    try clear c7b1
    try clear c8
    try clear c8b0
    try clear c8b1
    try clear p9
    try clear q9
    try clear hx9
    try clear qi9
    try clear c10
    try clear c10b0
    try clear c10b1
    try clear c11
    try clear c13
    try clear c14
    try clear p9
    try clear q9
    obtain ⟨kq, x41_3, rfl, HA, HJ3, HB⟩ := hcut
    cases kq with
    | zero => exact absurd HA.out (by simp [fixed_Parse.j0])
    | succ kj3 =>
      have H := HA.out
      clear HA
      simp only [fixed_Parse.j0] at H
      by_cases c15 : x41_3 = true
      · subst c15
        have H1 : (some (0, 3)) = some (r1, r2) := by rw [if_pos rfl] at H; exact H
        clear H
        have H := H1
        clear H1
        simp only [Option.some.injEq, Prod.mk.injEq] at H
        obtain ⟨rfl, rfl⟩ := H
        go_wp2
        go_ret2
        exact ⟨by first | rfl | (simp [errW_none, errW_some] <;> rfl) | (simp [*, errW_none, errW_some] <;> rfl), by repeat (first | (with_reducible first | exact HB.out | apply below_alloc | apply pw_below_drewN | apply below_drew1) | exact HB.out)⟩
      · replace c15 := Bool.eq_false_iff.mpr c15
        subst c15
        have H1 : (fixed_Parse.l0 kj3 t120 t121 t122) = some (r1, r2) := by rw [if_neg (show ¬ (false = true) by decide)] at H; exact H
        clear H
        have H := H1
        clear H1
        have H' := Aside0.mk H
        clear H
        go_wp2
        go_loopg [6] kj3 (fun kq v6 w' => ∃ (x6_2 : ByteArray), v6 = .string x6_2 ∧ Aside0 (fixed_Parse.l0 kq t120 t121 x6_2 = some (r1, r2)) ∧ Aside0 (kq ≤ kj3) ∧ Aside0 (Below w.heap.size w w'))
        case atStart => exact ⟨(t122), (by first | rfl | (simp; done) | (simp [*]; done)), H', ⟨Nat.le_refl _⟩, ⟨by repeat (first | (with_reducible first | exact HB.out | apply below_alloc | apply pw_below_drewN | apply below_drew1) | exact HB.out)⟩⟩
        case round =>
          clear H'
          try clear c1
          try clear p2
          try clear c3
          try clear c6
          try clear c7
          try clear c7b0
          try clear c7b1
          try clear c8
          try clear c8b0
          try clear c8b1
          try clear p9
          try clear q9
          try clear hx9
          try clear qi9
          try clear c10
          try clear c10b0
          try clear c10b1
          try clear c11
          try clear c13
          try clear c14
          try clear c15
          try clear p2
          try clear p9
          try clear q9
          obtain ⟨x6_2, rfl, HA, HK2, HB⟩ := hrel
          cases gk with
          | zero => exact absurd HA.out (by simp [fixed_Parse.l0])
          | succ k2 =>
            have H := HA.out
            clear HA
            simp only [fixed_Parse.l0] at H
            by_cases c16 : (x6_2.size : Int) < 3
            · rw [if_pos c16] at H
              have c16b0 : decide ((x6_2.size : Int) < 3) = true := decide_eq_true c16
              have c16b1 : decide (x6_2.size < 3) = true := decide_eq_true (by omega)
              clear c16
              by_cases c17 : x6_2.size + 1 ≤ 9223372036854775807
              · rw [if_pos c17] at H
                have c17b0 := eq_true c17
                have c17b1 : decide (x6_2.size + 1 ≤ 9223372036854775807) = true := decide_eq_true c17
                try have c17b2 : (9223372036854775807 < x6_2.size + 1) = False := eq_false (Nat.not_lt.2 c17)
                have H' := Aside0.mk H
                clear H
                go_wp2
                go_roundg k2
                case measure => have := HJ3.out; have := HK2.out; omega
                case rel => exact ⟨(x6_2 ++ (⟨#[48]⟩ : ByteArray)), (by first | rfl | (simp; done) | (simp [*]; done)), H', ⟨by have := HJ3.out; have := HK2.out; omega⟩, ⟨by repeat (first | (with_reducible first | exact HB.out | apply below_alloc | apply pw_below_drewN | apply below_drew1) | exact HB.out)⟩⟩
              · rw [if_neg c17] at H
                exact absurd H (by simp)
            · rw [if_neg c16] at H
              have c16b0 : decide ((x6_2.size : Int) < 3) = false := decide_eq_false c16
              have c16b1 : decide (x6_2.size < 3) = false := decide_eq_false (by omega)
              clear c16
              by_cases c18 : t121.size + x6_2.size ≤ 9223372036854775807
              · rw [if_pos c18] at H
                have c18b0 := eq_true c18
                have c18b1 : decide (t121.size + x6_2.size ≤ 9223372036854775807) = true := decide_eq_true c18
                try have c18b2 : (9223372036854775807 < t121.size + x6_2.size) = False := eq_false (Nat.not_lt.2 c18)
                replace H := Option.bind_eq_some_iff.mp H
                obtain ⟨⟨t127, t128⟩, A190, H⟩ := H
                replace H : (if t128.isNone = true then (if t120 = true then (fixed_Parse.j2 k2 t120 t127 (t127 == 0)) else (fixed_Parse.j2 k2 t120 t127 false)) else (fixed_Parse.j2 k2 t120 t127 true)) = some (r1, r2) := H
                have A19 := Aside0.mk A190
                clear A190
                have HC20 := Aside0.mk H
                clear H
                go_upto_region 8 with (first | ((with_reducible refine gate_callee (f := 35) rfl ?_); refine goesL_ (some 51) rfl rfl Tryd.func35 (by kernel_rfl) rfl #[.string (t121 ++ x6_2)] rfl (by (try simp only [List.map_toArray, List.map_cons, List.map_nil]); first | done | rfl | (simp only [List.length_drop, List.length_take]; rfl)) ?_; (with_reducible refine (strconv_Atoi_35.calls (t121 ++ x6_2) t127 t128 _ A19.out).mono ?_); rintro e w21 ⟨rfl, hb⟩; refine ⟨_, rfl, ?_⟩; have n0_ := Aside0.mk (below_step (by repeat (first | (with_reducible first | exact HB.out | apply below_alloc | apply pw_below_drewN | apply below_drew1) | exact HB.out)) hb); clear HB; have HB := n0_; clear n0_; (try clear hb); (try clear hb2); (try clear hk); (try clear hi); (try simp only [errW_none, errW_some])))
                (try simp only [Act.put, List.setIfInBounds_toArray, List.set_cons_zero, List.set_cons_succ])
                go_cut [62] (fun v62 wc => ∃ (kq : Nat) (x62_19 : Bool), v62 = .bool x62_19 ∧ Aside0 (fixed_Parse.j2 kq t120 t127 x62_19 = some (r1, r2)) ∧ Aside0 (kq ≤ k2) ∧ Aside0 (Below w.heap.size w wc))
                case first =>
                  have H := HC20.out
                  clear HC20
                  rcases t128 with _ | q129
                  · have H1 : (if t120 = true then (fixed_Parse.j2 k2 t120 t127 (t127 == 0)) else (fixed_Parse.j2 k2 t120 t127 false)) = some (r1, r2) := by rw [if_pos (show (none : Option Int).isNone = true by rfl)] at H; exact H
                    clear H
                    have H := H1
                    clear H1
                    try simp only [errW_none, errW_some]
                    by_cases c22 : t120 = true
                    · subst c22
                      have H1 : (fixed_Parse.j2 k2 true t127 (t127 == 0)) = some (r1, r2) := by rw [if_pos rfl] at H; exact H
                      clear H
                      have H := H1
                      clear H1
                      have H' := Aside0.mk H
                      clear H
                      go_wp2
                      go_meet
                      case rel => exact ⟨_, ((t127 == 0)), (by first | rfl | (simp; done) | (simp [*]; done)), H', ⟨by have := HJ3.out; have := HK2.out; first | omega | exact Nat.le_refl _⟩, ⟨by repeat (first | (with_reducible first | exact HB.out | apply below_alloc | apply pw_below_drewN | apply below_drew1) | exact HB.out)⟩⟩
                    · replace c22 := Bool.eq_false_iff.mpr c22
                      subst c22
                      have H1 : (fixed_Parse.j2 k2 false t127 false) = some (r1, r2) := by rw [if_neg (show ¬ (false = true) by decide)] at H; exact H
                      clear H
                      have H := H1
                      clear H1
                      have H' := Aside0.mk H
                      clear H
                      go_wp2
                      go_meet
                      case rel => exact ⟨_, (false), (by first | rfl | (simp; done) | (simp [*]; done)), H', ⟨by have := HJ3.out; have := HK2.out; first | omega | exact Nat.le_refl _⟩, ⟨by repeat (first | (with_reducible first | exact HB.out | apply below_alloc | apply pw_below_drewN | apply below_drew1) | exact HB.out)⟩⟩
                  · have H1 : (fixed_Parse.j2 k2 t120 t127 true) = some (r1, r2) := by rw [if_neg (show ¬ (some q129).isNone = true by simp)] at H; exact H
                    clear H
                    have H := H1
                    clear H1
                    try simp only [errW_none, errW_some]
                    have H' := Aside0.mk H
                    clear H
                    go_wp2
                    go_meet
                    case rel => exact ⟨_, (true), (by first | rfl | (simp; done) | (simp [*]; done)), H', ⟨by have := HJ3.out; have := HK2.out; first | omega | exact Nat.le_refl _⟩, ⟨by repeat (first | (with_reducible first | exact HB.out | apply below_alloc | apply pw_below_drewN | apply below_drew1) | exact HB.out)⟩⟩
                case rest =>
                  clear HC20
                  try clear c1
                  try clear q1
                  try clear c2
                  try clear p2
                  try clear c3
                  try clear c6
                  try clear c7
                  try clear c7b0
                  try clear c7b1
                  try clear c8
                  try clear c8b0
                  try clear c8b1
                  try clear p9
                  try clear q9
                  try clear hx9
                  try clear qi9
                  try clear c10
                  try clear c10b0
                  try clear c10b1
                  try clear c11
                  try clear q12
                  try clear c13
                  try clear c14
                  try clear c15
                  try clear c16
                  try clear c16b0
                  try clear c16b1
                  try clear c17
                  try clear c17b0
                  try clear c17b1
                  try clear c17b2
                  try clear c18
                  try clear c18b0
                  try clear c18b1
                  try clear c18b2
                  try clear c22
                  try clear p2
                  try clear p9
                  try clear q129
                  try clear q9
                  obtain ⟨kq, x62_19, rfl, HA, HJ19, HB⟩ := hcut
                  cases kq with
                  | zero => exact absurd HA.out (by simp [fixed_Parse.j2])
                  | succ kj19 =>
                    have H := HA.out
                    clear HA
                    simp only [fixed_Parse.j2] at H
                    by_cases c23 : x62_19 = true
                    · subst c23
                      have H1 : (some (0, 3)) = some (r1, r2) := by rw [if_pos rfl] at H; exact H
                      clear H
                      have H := H1
                      clear H1
                      simp only [Option.some.injEq, Prod.mk.injEq] at H
                      obtain ⟨rfl, rfl⟩ := H
                      go_wp2
                      go_ret2
                      exact ⟨by first | rfl | (simp [errW_none, errW_some] <;> rfl) | (simp [*, errW_none, errW_some] <;> rfl), by repeat (first | (with_reducible first | exact HB.out | apply below_alloc | apply pw_below_drewN | apply below_drew1) | exact HB.out)⟩
                    · replace c23 := Bool.eq_false_iff.mpr c23
                      subst c23
                      have H1 : (if t120 = true then (some (wrap64 (-t127), 0)) else (some (t127, 0))) = some (r1, r2) := by rw [if_neg (show ¬ (false = true) by decide)] at H; exact H
                      clear H
                      have H := H1
                      clear H1
                      by_cases c24 : t120 = true
                      · subst c24
                        have H1 : (some (wrap64 (-t127), 0)) = some (r1, r2) := by rw [if_pos rfl] at H; exact H
                        clear H
                        have H := H1
                        clear H1
                        simp only [Option.some.injEq, Prod.mk.injEq] at H
                        obtain ⟨rfl, rfl⟩ := H
                        go_wp2
                        go_ret2
                        exact ⟨by first | rfl | (simp [errW_none, errW_some] <;> rfl) | (simp [*, errW_none, errW_some] <;> rfl), by repeat (first | (with_reducible first | exact HB.out | apply below_alloc | apply pw_below_drewN | apply below_drew1) | exact HB.out)⟩
                      · replace c24 := Bool.eq_false_iff.mpr c24
                        subst c24
                        have H1 : (some (t127, 0)) = some (r1, r2) := by rw [if_neg (show ¬ (false = true) by decide)] at H; exact H
                        clear H
                        have H := H1
                        clear H1
                        simp only [Option.some.injEq, Prod.mk.injEq] at H
                        obtain ⟨rfl, rfl⟩ := H
                        go_wp2
                        go_ret2
                        exact ⟨by first | rfl | (simp [errW_none, errW_some] <;> rfl) | (simp [*, errW_none, errW_some] <;> rfl), by repeat (first | (with_reducible first | exact HB.out | apply below_alloc | apply pw_below_drewN | apply below_drew1) | exact HB.out)⟩
              · rw [if_neg c18] at H
                exact absurd H (by simp)

/-! ### fixed_abs: function 36 -/
def fixed_abs.f (a0 : Int) : Option (Int) := if a0 < 0 then (some (IntKind.u64.wrap (-(IntKind.u64.wrap (a0))))) else (some (IntKind.u64.wrap (a0)))
set_option maxHeartbeats 8000000 in
set_option maxRecDepth 100000 in
theorem fixed_abs.calls (a0 : Int) (r : Int) (w : World) (h : fixed_abs.f a0 = some r) :
    Calls Tryd.prog 36 #[.int .i64 a0] w fun e w' => e = .returned (.int .u64 r) ∧ Drawn0 w w' := by
  have H : (if a0 < 0 then (some (IntKind.u64.wrap (-(IntKind.u64.wrap (a0))))) else (some (IntKind.u64.wrap (a0)))) = some r := h
  clear h
  by_cases c2 : a0 < 0
  · rw [if_pos c2] at H
    have c2b0 : decide (a0 < 0) = true := decide_eq_true c2
    clear c2
    obtain rfl := Option.some.inj H
    go_enter Tryd.func36, Tryd.ntmps36
    go_wp2
    go_ret
    exact ⟨by first | rfl | (simp; done) | (simp [*]; done), by repeat (first | exact Drawn0.refl _ | apply Drawn0.step)⟩
  · rw [if_neg c2] at H
    have c2b0 : decide (a0 < 0) = false := decide_eq_false c2
    clear c2
    obtain rfl := Option.some.inj H
    go_enter Tryd.func36, Tryd.ntmps36
    go_wp2
    go_ret
    exact ⟨by first | rfl | (simp; done) | (simp [*]; done), by repeat (first | exact Drawn0.refl _ | apply Drawn0.step)⟩

-- NOT PRINTED: function 55 (strconv_FormatUint_55)

/-! ### strconv_FormatUint_37: function 37 (by hand) -/
def strconv_FormatUint_37.f (a0 : Int) (a1 : Int) : Option ByteArray :=
  if 0 ≤ a0 ∧ a0 < 18446744073709551616 ∧ a1 = 10 then some ⟨(Lib.decDigits a0.toNat).toArray⟩ else none
theorem strconv_FormatUint_37.calls (a0 : Int) (a1 : Int) (r : ByteArray) (w : World) (HL : Laid w) (h : strconv_FormatUint_37.f a0 a1 = some r) :
    Calls Tryd.prog 37 #[.int .u64 a0, .int .i64 a1] w fun e w' => e = .returned (.string r) ∧ Below w.heap.size w w' := by
  unfold strconv_FormatUint_37.f at h
  split at h
  · rename_i hc
    obtain ⟨h0, h1, rfl⟩ := hc
    obtain ⟨x, rfl⟩ := Int.eq_ofNat_of_zero_le h0
    obtain rfl := Option.some.inj h
    rw [Int.toNat_natCast]
    exact formatUint_any x (by omega) w HL
  · exact absurd h (by simp)

/-! ### fixed_Print: function 15 (by hand) -/
theorem ba_append (x y : List UInt8) : (⟨x.toArray⟩ : ByteArray) ++ (⟨y.toArray⟩ : ByteArray) = ⟨(x ++ y).toArray⟩ := by
  first | rfl | exact ByteArray.ext (by simp)
theorem ba_size (x : List UInt8) : (⟨x.toArray⟩ : ByteArray).size = x.length := rfl
theorem ba_extract (x : List UInt8) (i j : Nat) : (⟨x.toArray⟩ : ByteArray).extract i j = ⟨((x.drop i).take (j - i)).toArray⟩ := by
  rw [ByteArray.extract_mk]
theorem nDigits_le {u : Nat} (h : u < 18446744073709551616) : Lib.nDigits u ≤ 20 := by
  by_cases h0 : u = 0
  · subst h0; rw [Lib.nDigits_small (by omega)]; omega
  · have := Lib.numDigits_eq u (by omega) h
    split at this <;> omega
theorem nDigits_pos (u : Nat) : 1 ≤ Lib.nDigits u := by
  rw [Lib.nDigits]; split <;> omega
set_option maxHeartbeats 1000000 in
theorem fixed_Print.walk_neg (a0 n : Int) (t1 t2 : ByteArray) (w : World) (HL0 : Laid w) (hA : fixed_abs.f a0 = some n) (h1 : strconv_FormatUint_37.f (IntKind.u64.wrap (Int.tdiv n 1000)) 10 = some t1)
    (h2 : strconv_FormatUint_37.f (IntKind.u64.wrap (1000 + Int.tmod n 1000)) 10 = some t2) (z1 : t1.size ≤ 20) (z2 : 1 ≤ t2.size) (z3 : t2.size ≤ 20) (hneg : a0 < 0) :
    Calls Tryd.prog 15 #[.int .i64 a0] w fun e w' => e = .returned (.string ((⟨#[45]⟩ : ByteArray) ++ ((t1 ++ (⟨#[46]⟩ : ByteArray)) ++ t2.extract 1 t2.size))) ∧ Below w.heap.size w w' := by
  have A0 := Aside0.mk hA
  have A1 := Aside0.mk h1
  have A2 := Aside0.mk h2
  have HL := Aside0.mk HL0
  have c8b0 : decide (a0 < 0) = true := decide_eq_true hneg
  have zi : (1 : Int) ≤ (t2.size : Int) := by omega
  clear hA h1 h2 HL0 hneg
  go_enter Tryd.func15, Tryd.ntmps15
  go_wp2_with fail
  (with_reducible refine (fixed_abs.calls a0 n _ A0.out).mono ?_); rintro e w' ⟨rfl, ⟨nd, rfl⟩⟩
  go_wp2_with fail
  refine (strconv_FormatUint_37.calls (IntKind.u64.wrap (Int.tdiv n 1000)) 10 t1 _ (by exact Laid.below HL.out (pw_below_drewN (Below.refl _ _) _)) A1.out).mono ?_; rintro e w1 ⟨rfl, hb1⟩
  have HB1 := Aside0.mk hb1
  clear hb1
  go_wp2_with fail
  refine (strconv_FormatUint_37.calls (IntKind.u64.wrap (1000 + Int.tmod n 1000)) 10 t2 _ (by exact Laid.below HL.out (below_step (pw_below_drewN (Below.refl _ _) _) HB1.out)) A2.out).mono ?_; rintro e w2 ⟨rfl, hb2⟩
  have HB2 := Aside0.mk hb2
  clear hb2
  go_wp2_with fail
  go_ret
  exact ⟨rfl, below_step (below_step (pw_below_drewN (Below.refl _ _) _) HB1.out) HB2.out⟩
set_option maxHeartbeats 1000000 in
theorem fixed_Print.walk_pos (a0 n : Int) (t1 t2 : ByteArray) (w : World) (HL0 : Laid w) (hA : fixed_abs.f a0 = some n) (h1 : strconv_FormatUint_37.f (IntKind.u64.wrap (Int.tdiv n 1000)) 10 = some t1)
    (h2 : strconv_FormatUint_37.f (IntKind.u64.wrap (1000 + Int.tmod n 1000)) 10 = some t2) (z1 : t1.size ≤ 20) (z2 : 1 ≤ t2.size) (z3 : t2.size ≤ 20) (hneg : ¬ a0 < 0) :
    Calls Tryd.prog 15 #[.int .i64 a0] w fun e w' => e = .returned (.string ((t1 ++ (⟨#[46]⟩ : ByteArray)) ++ t2.extract 1 t2.size)) ∧ Below w.heap.size w w' := by
  have A0 := Aside0.mk hA
  have A1 := Aside0.mk h1
  have A2 := Aside0.mk h2
  have HL := Aside0.mk HL0
  have c8b0 : decide (a0 < 0) = false := decide_eq_false hneg
  have zi : (1 : Int) ≤ (t2.size : Int) := by omega
  clear hA h1 h2 HL0 hneg
  go_enter Tryd.func15, Tryd.ntmps15
  go_wp2_with fail
  (with_reducible refine (fixed_abs.calls a0 n _ A0.out).mono ?_); rintro e w' ⟨rfl, ⟨nd, rfl⟩⟩
  go_wp2_with fail
  refine (strconv_FormatUint_37.calls (IntKind.u64.wrap (Int.tdiv n 1000)) 10 t1 _ (by exact Laid.below HL.out (pw_below_drewN (Below.refl _ _) _)) A1.out).mono ?_; rintro e w1 ⟨rfl, hb1⟩
  have HB1 := Aside0.mk hb1
  clear hb1
  go_wp2_with fail
  refine (strconv_FormatUint_37.calls (IntKind.u64.wrap (1000 + Int.tmod n 1000)) 10 t2 _ (by exact Laid.below HL.out (below_step (pw_below_drewN (Below.refl _ _) _) HB1.out)) A2.out).mono ?_; rintro e w2 ⟨rfl, hb2⟩
  have HB2 := Aside0.mk hb2
  clear hb2
  go_wp2_with fail
  go_ret
  exact ⟨rfl, below_step (below_step (pw_below_drewN (Below.refl _ _) _) HB1.out) HB2.out⟩
/-- The decimal notation. -/
def printOf (a0 : Int) : List UInt8 :=
  (if a0 < 0 then [45] else []) ++ (Lib.decDigits (a0.natAbs / 1000) ++ [46] ++ (Lib.decDigits (1000 + a0.natAbs % 1000)).drop 1)
def fixed_Print.f (a0 : Int) : Option ByteArray :=
  if -9223372036854775808 ≤ a0 ∧ a0 ≤ 9223372036854775807 then some ⟨(printOf a0).toArray⟩ else none
theorem fixed_Print.calls (a0 : Int) (r : ByteArray) (w : World) (HL : Laid w) (h : fixed_Print.f a0 = some r) :
    Calls Tryd.prog 15 #[.int .i64 a0] w fun e w' => e = .returned (.string r) ∧ Below w.heap.size w w' := by
  unfold fixed_Print.f at h
  split at h
  · rename_i hr
    obtain rfl := Option.some.inj h
    have hA : fixed_abs.f a0 = some (a0.natAbs : Int) := by
      unfold fixed_abs.f
      rw [IntKind.wrap_u64, IntKind.wrap_u64]
      split <;> (congr 1; omega)
    have hn : a0.natAbs < 18446744073709551616 := by omega
    have e1 : IntKind.u64.wrap (Int.tdiv (a0.natAbs : Int) 1000) = ((a0.natAbs / 1000 : Nat) : Int) := by
      rw [Int.tdiv_eq_ediv_of_nonneg (by omega), IntKind.wrap_u64]; omega
    have e2 : IntKind.u64.wrap (1000 + Int.tmod (a0.natAbs : Int) 1000) = ((1000 + a0.natAbs % 1000 : Nat) : Int) := by
      rw [Int.tmod_eq_emod_of_nonneg (by omega), IntKind.wrap_u64]; omega
    have fu : ∀ u : Nat, u < 18446744073709551616 → strconv_FormatUint_37.f (u : Int) 10 = some ⟨(Lib.decDigits u).toArray⟩ := fun u hu => by
      unfold strconv_FormatUint_37.f
      rw [if_pos (by omega), Int.toNat_natCast]
    have h1 := fu (a0.natAbs / 1000) (by omega)
    have h2 := fu (1000 + a0.natAbs % 1000) (by omega)
    rw [← e1] at h1
    rw [← e2] at h2
    have s1 : (⟨(Lib.decDigits (a0.natAbs / 1000)).toArray⟩ : ByteArray).size ≤ 20 := by rw [ba_size, Lib.decDigits_length]; exact nDigits_le (by omega)
    have s2 : (⟨(Lib.decDigits (1000 + a0.natAbs % 1000)).toArray⟩ : ByteArray).size ≤ 20 := by rw [ba_size, Lib.decDigits_length]; exact nDigits_le (by omega)
    have s3 : 1 ≤ (⟨(Lib.decDigits (1000 + a0.natAbs % 1000)).toArray⟩ : ByteArray).size := by rw [ba_size, Lib.decDigits_length]; exact nDigits_pos _
    have ex : (⟨(Lib.decDigits (1000 + a0.natAbs % 1000)).toArray⟩ : ByteArray).extract 1 (⟨(Lib.decDigits (1000 + a0.natAbs % 1000)).toArray⟩ : ByteArray).size = ⟨((Lib.decDigits (1000 + a0.natAbs % 1000)).drop 1).toArray⟩ := by
      rw [ba_extract, ba_size, List.take_of_length_le (by simp)]
    by_cases hneg : a0 < 0
    · refine (fixed_Print.walk_neg a0 _ _ _ w HL hA h1 h2 s1 s3 s2 hneg).mono fun e w' ⟨he, hb⟩ => ⟨?_, hb⟩
      rw [he, ex, show (⟨#[46]⟩ : ByteArray) = ⟨([46] : List UInt8).toArray⟩ from rfl, show (⟨#[45]⟩ : ByteArray) = ⟨([45] : List UInt8).toArray⟩ from rfl, ba_append, ba_append, ba_append]
      unfold printOf
      rw [if_pos hneg]
    · refine (fixed_Print.walk_pos a0 _ _ _ w HL hA h1 h2 s1 s3 s2 hneg).mono fun e w' ⟨he, hb⟩ => ⟨?_, hb⟩
      rw [he, ex, show (⟨#[46]⟩ : ByteArray) = ⟨([46] : List UInt8).toArray⟩ from rfl, ba_append, ba_append]
      unfold printOf
      rw [if_neg hneg, List.nil_append]
  · exact absurd h (by simp)

/-! ### fixed_within: function 38 -/
def fixed_within.f (a0 : Int) : Option (Bool) := if a0 ≥ (-1125899906842624) then (some (decide (a0 ≤ 1125899906842624))) else (some false)
set_option maxHeartbeats 8000000 in
set_option maxRecDepth 100000 in
theorem fixed_within.calls (a0 : Int) (r : Bool) (w : World) (h : fixed_within.f a0 = some r) :
    Calls Tryd.prog 38 #[.int .i64 a0] w fun e w' => e = .returned (.bool r) ∧ Drawn0 w w' := by
  have H : (if a0 ≥ (-1125899906842624) then (some (decide (a0 ≤ 1125899906842624))) else (some false)) = some r := h
  clear h
  by_cases c2 : a0 ≥ (-1125899906842624)
  · rw [if_pos c2] at H
    have c2b0 : decide ((-1125899906842624) ≤ a0) = true := decide_eq_true c2
    clear c2
    obtain rfl := Option.some.inj H
    go_enter Tryd.func38, Tryd.ntmps38
    go_wp2
    go_ret
    exact ⟨by first | rfl | (simp; done) | (simp [*]; done), by repeat (first | exact Drawn0.refl _ | apply Drawn0.step)⟩
  · rw [if_neg c2] at H
    have c2b0 : decide ((-1125899906842624) ≤ a0) = false := decide_eq_false c2
    clear c2
    obtain rfl := Option.some.inj H
    go_enter Tryd.func38, Tryd.ntmps38
    go_wp2
    go_ret
    exact ⟨by first | rfl | (simp; done) | (simp [*]; done), by repeat (first | exact Drawn0.refl _ | apply Drawn0.step)⟩

/-! ### bits_Mul64: function 39 (by hand) -/
def bits_Mul64.f (a0 : Int) (a1 : Int) : Option (Int × Int) :=
  if 0 ≤ a0 ∧ a0 < 18446744073709551616 ∧ 0 ≤ a1 ∧ a1 < 18446744073709551616 then some (a0 * a1 / 18446744073709551616, a0 * a1 % 18446744073709551616) else none
theorem bits_Mul64.calls (a0 : Int) (a1 : Int) (r1 : Int) (r2 : Int) (w : World) (h : bits_Mul64.f a0 a1 = some (r1, r2)) :
    Calls Tryd.prog 39 #[.int .u64 a0, .int .u64 a1] w fun e w' => e = .returned (.tuple #[.int .u64 r1, .int .u64 r2]) ∧ Drawn0 w w' := by
  unfold bits_Mul64.f at h
  split at h
  · rename_i hc
    obtain ⟨h0, h1, h2, h3⟩ := hc
    obtain ⟨x, rfl⟩ := Int.eq_ofNat_of_zero_le h0
    obtain ⟨y, rfl⟩ := Int.eq_ofNat_of_zero_le h2
    simp only [Option.some.injEq, Prod.mk.injEq] at h
    obtain ⟨rfl, rfl⟩ := h
    refine (Tryd.bits_Mul64 x y (by omega) (by omega) w).mono ?_
    rintro e w' ⟨rfl, rfl⟩
    exact ⟨by simp, Drawn0.refl _⟩
  · exact absurd h (by simp)

/-! ### bits_LeadingZeros64: function 56 (by hand) -/
def bits_LeadingZeros64.f (a0 : Int) : Option Int :=
  if 0 ≤ a0 ∧ a0 < 18446744073709551616 then some (64 - (Lib.bitLen a0.toNat : Int)) else none
theorem bits_LeadingZeros64.calls (a0 : Int) (r : Int) (w : World) (h : bits_LeadingZeros64.f a0 = some r) :
    Calls Tryd.prog 56 #[.int .u64 a0] w fun e w' => e = .returned (.int .i64 r) ∧ Drawn0 w w' := by
  unfold bits_LeadingZeros64.f at h
  split at h
  · rename_i hc
    obtain ⟨h0, h1⟩ := hc
    obtain rfl := Option.some.inj h
    refine (Tryd.bits_LeadingZeros64 a0 w h0 (by omega)).mono ?_
    rintro e w' ⟨rfl, rfl⟩
    exact ⟨rfl, Drawn0.refl _⟩
  · exact absurd h (by simp)

end Go.Proofs.YtnoacoppinkloaaDoor.Pr
