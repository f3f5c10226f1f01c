/- Plain lemmas: the reference's Parse and Print. -/
import Derived.Test.YtnoacoppinkloaaDoorLemS
import Derived.Test.YtnoacoppinkloaaDoorPr23
namespace Go.Proofs.YtnoacoppinkloaaDoor.Pr
open Go.RowKit Go.Proofs.YtnoacoppinkloaaDoorW.PrintWords Go.Proofs.YtnoacoppinkloaaDoorW.PrintLast Go.Proofs.YtnoacoppinkloaaDoorW.PrintMore
set_option linter.unusedVariables false
set_option linter.unusedSimpArgs false
/-! ### The reference's Parse -/
def signOf (neg : Bool) (n : Int) : Int × Int := if neg = true then (if n = 0 then (0, 3) else (-n, 0)) else (n, 0)
theorem ref_j3 (k : Nat) (neg : Bool) (n : Int) (h0 : 0 ≤ n) (h1 : n ≤ 100000000000000000) : skiarearef01_Parse.j3 (k + 1) neg n = some (signOf neg n) := by
  simp only [skiarearef01_Parse.j3]
  unfold signOf
  cases neg with
  | false => rw [if_neg (by decide), if_neg (by decide)]
  | true =>
    rw [if_pos rfl, if_pos rfl]
    by_cases c : n = 0
    · rw [if_pos c, if_pos c]
    · rw [if_neg c, if_neg c, w64 (by omega) (by omega)]
theorem pad_take (R : List UInt8) (h0 : 1 ≤ R.length) (h1 : R.length ≤ 3) : ((R ++ [48, 48]).drop 0).take (3 - 0) = padTo3 R := by
  match R, h0, h1 with
  | [a], _, _ => rfl
  | [a, b], _, _ => rfl
  | [a, b, c], _, _ => rfl
theorem pad_dig (R : List UInt8) (h : allDig R = true) : allDig (padTo3 R) = true := by
  unfold padTo3 allDig at *
  rw [List.all_append, h, Bool.true_and, List.all_eq_true]
  intro x hx
  rw [List.mem_replicate] at hx
  rw [hx.2]
  decide
theorem pad_length (R : List UInt8) (h : R.length ≤ 3) : (padTo3 R).length = 3 := by
  unfold padTo3
  rw [List.length_append, List.length_replicate]
  omega
theorem valFrom_acc (l : List UInt8) : ∀ acc, valFrom acc l = acc * 10 ^ l.length + valFrom 0 l := by
  induction l with
  | nil => intro acc; simp [valFrom]
  | cons c l ih =>
    intro acc
    have e1 : valFrom acc (c :: l) = valFrom (acc * 10 + (c.toNat - 48)) l := rfl
    have e2 : valFrom 0 (c :: l) = valFrom (0 * 10 + (c.toNat - 48)) l := rfl
    rw [e1, e2, ih (acc * 10 + (c.toNat - 48)), ih (0 * 10 + (c.toNat - 48)), List.length_cons, Nat.pow_succ, Nat.add_mul, Nat.zero_mul, Nat.zero_add, Nat.mul_assoc, Nat.mul_comm 10 (10 ^ l.length)]
    omega
theorem ref_j2 (k : Nat) (hk : 80 ≤ k) (neg : Bool) (D T : List UInt8) (hl : (D ++ T).length ≤ 60) (hD : allDig D = true) (hT : T = [] ∨ ∃ c R, T = c :: R ∧ ¬ isDig c) (hg : goodWhole D = true) :
    skiarearef01_Parse.j2 (k + 1) ⟨(D ++ T).toArray⟩ neg (D.length : Int) false = some (if formOk (D ++ T) = true then signOf neg (numOf (D ++ T)) else (0, 3)) := by
  have hg' := hg
  simp only [goodWhole, Bool.and_eq_true, decide_eq_true_eq] at hg'
  obtain ⟨⟨g1, g2⟩, _⟩ := hg'
  rw [List.length_append] at hl
  have x1 : (⟨(D ++ T).toArray⟩ : ByteArray).extract 0 D.length = ⟨D.toArray⟩ := by
    rw [ba_extract, List.drop_zero, Nat.sub_zero, List.take_left' rfl]
  have x2 : (⟨(D ++ T).toArray⟩ : ByteArray).extract D.length (D ++ T).length = ⟨T.toArray⟩ := by
    rw [ba_extract, List.drop_left' rfl, List.take_of_length_le (by rw [List.length_append]; omega)]
  have hval := ref_value_eq D hD (by omega) k (by omega)
  have hv := valFrom_lt D 0 hD
  have hp : 10 ^ D.length ≤ 10 ^ 10 := Nat.pow_le_pow_right (by decide) g2
  have hp' : (10 : Nat) ^ 10 = 10000000000 := by decide
  simp only [skiarearef01_Parse.j2, Int.toNat_natCast, size_list]
  rw [if_neg (by decide), if_pos (by omega), if_pos (by rw [List.length_append]; omega), x1, hval, Option.bind_some, x2]
  obtain ⟨k, rfl⟩ : ∃ m, k = m + 1 := ⟨k - 1, by omega⟩
  simp only [size_list]
  rcases hT with rfl | ⟨c, R, rfl, hc⟩
  · obtain ⟨f1, f2⟩ := form_nil D hD
    rw [if_neg (by simp), w64 (by omega) (by omega), List.append_nil, f1, f2, if_pos hg]
    exact ref_j3 k neg _ (by omega) (by omega)
  · have hbt : bt ⟨(c :: R).toArray⟩ 0 = ((c.toNat : Nat) : Int) := head_bt (c :: R) (by simp)
    rw [if_pos (by simp), if_pos (by simp), hbt]
    by_cases hc' : c = 46
    · obtain ⟨f1, f2⟩ := form_point D R hD
      subst hc'
      rw [List.length_cons] at hl
      rw [f1, f2, hg, Bool.true_and, if_pos (by decide), List.length_cons]
      by_cases l1 : 1 ≤ R.length
      · rw [if_neg (by omega)]
        by_cases l2 : R.length ≤ 3
        · rw [if_neg (by omega), if_pos (by omega)]
          have x3 : (⟨((46 : UInt8) :: R).toArray⟩ : ByteArray).extract 1 (R.length + 1) = ⟨R.toArray⟩ := by
            rw [ba_extract]
            show (⟨(R.take (R.length + 1 - 1)).toArray⟩ : ByteArray) = _
            rw [Nat.add_sub_cancel, List.take_length]
          rw [x3]
          obtain ⟨E, U, eR, hE, hU⟩ := split_digits R
          have hdig := ref_digits_eq E U hE hU (by rw [← eR]; omega) (k + 1) (by have := congrArg List.length eR; rw [List.length_append] at this; omega)
          rw [← eR] at hdig
          rw [hdig, Option.bind_some, w64 (by omega) (by omega), decide_eq_true l1, decide_eq_true l2]
          by_cases hU0 : U = []
          · rw [hU0, List.append_nil] at eR
            subst eR
            have hpad := ref_value_eq (padTo3 R) (pad_dig R hE) (by rw [pad_length R l2]; omega) (k + 1) (by rw [pad_length R l2]; omega)
            have hpv := valFrom_lt (padTo3 R) 0 (pad_dig R hE)
            rw [pad_length R l2] at hpv
            have hva := valFrom_acc (padTo3 R) (valFrom 0 D)
            rw [pad_length R l2] at hva
            have x4 : ((⟨R.toArray⟩ : ByteArray) ++ (⟨#[48, 48]⟩ : ByteArray)) = ⟨(R ++ [48, 48]).toArray⟩ := ba_append R [48, 48]
            have x5 : (⟨(R ++ [48, 48]).toArray⟩ : ByteArray).extract 0 3 = ⟨(padTo3 R).toArray⟩ := by rw [ba_extract, pad_take R l1 l2]
            rw [if_pos (by omega), size_list, if_pos (by omega), if_pos (by decide), x4, size_list, if_pos (by rw [List.length_append, List.length_cons, List.length_cons, List.length_nil]; omega), x5, hpad, Option.bind_some, hE, if_pos (by decide), w64 (x := 1000 * (valFrom 0 D : Int)) (by omega) (by omega), w64 (by omega) (by omega)]
            rw [show ((valFrom (valFrom 0 D) (padTo3 R) : Nat) : Int) = 1000 * (valFrom 0 D : Int) + (valFrom 0 (padTo3 R) : Int) by omega]
            exact ref_j3 k neg _ (by omega) (by omega)
          · have hne : allDig R = false := by
              rcases hU with h | ⟨d, Z, rfl, hd⟩
              · exact absurd h hU0
              · rw [eR]
                unfold allDig
                rw [List.all_append, List.all_cons, decide_eq_false hd]
                simp
            have hlen : 1 ≤ U.length := by
              rcases hU with h | ⟨d, Z, rfl, hd⟩
              · exact absurd h hU0
              · simp
            have := congrArg List.length eR
            rw [List.length_append] at this
            rw [hne, if_neg (by omega), if_neg (by decide)]
        · rw [if_pos (by omega), decide_eq_false l2, Bool.and_false, if_neg (by decide)]
      · rw [if_pos (by omega), decide_eq_false l1, Bool.and_false, Bool.false_and, if_neg (by decide)]
    · rw [form_bad D R c hc hc' hD, if_neg (by intro h; exact hc' (UInt8.toNat_inj.1 (by show c.toNat = 46; omega))), if_neg (by decide)]

theorem ref_j1 (k : Nat) (hk : 80 ≤ k) (neg : Bool) (b : List UInt8) (hl : b.length ≤ 60) :
    skiarearef01_Parse.j1 (k + 2) ⟨b.toArray⟩ neg = some (if formOk b = true then signOf neg (numOf b) else (0, 3)) := by
  obtain ⟨D, T, rfl, hD, hT⟩ := split_digits b
  have hdig := ref_digits_eq D T hD hT (by omega) (k + 1) (by rw [List.length_append] at hl; omega)
  have no : ∀ x, skiarearef01_Parse.j2 (k + 1) ⟨(D ++ T).toArray⟩ neg x true = some (0, 3) := fun x => by simp only [skiarearef01_Parse.j2]; rw [if_pos trivial]
  have bad : goodWhole D = false → formOk (D ++ T) = false := fun h => by
    rcases hT with rfl | ⟨c, R, rfl, hc⟩
    · rw [List.append_nil, (form_nil D hD).1, h]
    · by_cases hc' : c = 46
      · subst hc'
        rw [(form_point D R hD).1, h, Bool.false_and]
      · exact form_bad D R c hc hc' hD
  have end2 : ∀ c : Bool, c = !(goodWhole D) → skiarearef01_Parse.j2 (k + 1) ⟨(D ++ T).toArray⟩ neg (D.length : Int) c = some (if formOk (D ++ T) = true then signOf neg (numOf (D ++ T)) else (0, 3)) := by
    intro c hc
    cases hg : goodWhole D with
    | true =>
      rw [hg] at hc
      subst hc
      exact ref_j2 k hk neg D T hl hD hT hg
    | false =>
      rw [hg] at hc
      subst hc
      rw [bad hg, if_neg (by decide)]
      exact no _
  simp only [skiarearef01_Parse.j1]
  rw [hdig, Option.bind_some]
  unfold goodWhole at end2
  by_cases c1 : (D.length : Int) < 1
  · rw [if_pos c1]
    exact end2 true (by rw [decide_eq_false (show ¬ 1 ≤ D.length by omega)]; rfl)
  by_cases c2 : (D.length : Int) > 10
  · rw [if_neg c1, if_pos c2]
    exact end2 true (by rw [decide_eq_false (show ¬ D.length ≤ 10 by omega), Bool.and_false]; rfl)
  rw [if_neg c1, if_neg c2]
  rw [decide_eq_true (show 1 ≤ D.length by omega), decide_eq_true (show D.length ≤ 10 by omega)] at end2
  by_cases c3 : (D.length : Int) > 1
  · have hh : headOr (D ++ T) = headOr D := by
      clear end2 bad no hdig hT hD hl
      match D, c1 with
      | d :: D, _ => rfl
      | [], h => exact absurd h (by simp)
    rw [if_pos c3, size_list, if_pos (by rw [List.length_append]; omega), head_bt (D ++ T) (by rw [List.length_append]; omega), hh]
    apply end2
    rw [decide_eq_true (show 1 < D.length by omega)]
    by_cases c4 : headOr D = 48
    · rw [decide_eq_true c4, beq_iff_eq.2 c4]; rfl
    · rw [decide_eq_false c4, beq_eq_false_iff_ne.2 c4]; rfl
  · rw [if_neg c3]
    apply end2
    rw [decide_eq_false (show ¬ 1 < D.length by omega)]
    rfl

theorem ref_parse_eq (l : List UInt8) (hl : l.length ≤ 60) (k : Nat) (hk : 100 ≤ k) : skiarearef01_Parse.f k ⟨l.toArray⟩ = some (parseOf l) := by
  have hpo : ∀ l, parseOf l = if formOk (bodyOf l) = true then signOf (negOf l) (numOf (bodyOf l)) else (0, 3) := fun l => by unfold parseOf signOf; rfl
  obtain ⟨k, rfl⟩ : ∃ m, k = m + 3 := ⟨k - 3, by omega⟩
  rw [hpo]
  unfold skiarearef01_Parse.f
  match l, hl with
  | [], _ =>
    rw [size_list, if_neg (by simp), show k + 3 = (k + 2) + 1 by omega]
    simp only [skiarearef01_Parse.j0]
    rw [if_neg (by decide)]
    exact ref_j1 k (by omega) false [] (by simp)
  | c :: r, hl =>
    have hbt : bt ⟨(c :: r).toArray⟩ 0 = ((c.toNat : Nat) : Int) := head_bt (c :: r) (by simp)
    rw [List.length_cons] at hl
    rw [size_list, List.length_cons, if_pos (by omega), if_pos (by omega), hbt, show k + 3 = (k + 2) + 1 by omega]
    by_cases hc : c = 45
    · subst hc
      obtain ⟨n1, n2⟩ := neg_cons r
      rw [n1, n2, show ((((45 : UInt8).toNat : Nat) : Int) == 45) = true from rfl]
      simp only [skiarearef01_Parse.j0, size_list, List.length_cons]
      have x3 : (⟨((45 : UInt8) :: r).toArray⟩ : ByteArray).extract 1 (r.length + 1) = ⟨r.toArray⟩ := by
        rw [ba_extract]
        show (⟨(r.take (r.length + 1 - 1)).toArray⟩ : ByteArray) = _
        rw [Nat.add_sub_cancel, List.take_length]
      rw [if_pos trivial, if_pos (by omega), x3]
      exact ref_j1 k (by omega) true r (by omega)
    · have h : Lib.hasPrefix (c :: r) [45] = false := by
        have : ((45 : UInt8) == c) = false := by
          rw [beq_eq_false_iff_ne]
          exact fun e => hc e.symm
        simp [Lib.hasPrefix, List.isPrefixOf, this]
      have n1 : negOf (c :: r) = false := h
      have n2 : bodyOf (c :: r) = c :: r := by
        unfold bodyOf Lib.trimPrefix
        rw [if_neg (by rw [h]; decide)]
      have hb : ((((c.toNat : Nat) : Int)) == 45) = false := by
        rw [beq_eq_false_iff_ne]
        exact fun e => hc (UInt8.toNat_inj.1 (by show c.toNat = 45; omega))
      rw [n1, n2, hb]
      simp only [skiarearef01_Parse.j0]
      rw [if_neg (by decide)]
      exact ref_j1 k (by omega) false (c :: r) (by rw [List.length_cons]; omega)
/-! ### The reference's Print -/
def sg (neg : Bool) (m : Nat) : Int := if neg = true then -(m : Int) else (m : Int)
theorem sg_mod (neg : Bool) (m : Nat) (h : m ≤ 9223372036854775808) : mx (Int.tmod (sg neg m) 10) (wrap64 (-(Int.tmod (sg neg m) 10))) = ((m % 10 : Nat) : Int) := by
  have e : Int.tmod (m : Int) 10 = ((m % 10 : Nat) : Int) := by rw [Int.tmod_eq_emod_of_nonneg (by omega)]; omega
  cases neg with
  | false =>
    rw [show sg false m = (m : Int) from rfl, e, w64 (by omega) (by omega)]
    unfold mx
    split <;> omega
  | true =>
    rw [show sg true m = -(m : Int) from rfl, Int.neg_tmod, e, w64 (by omega) (by omega)]
    unfold mx
    split <;> omega
theorem sg_div (neg : Bool) (m : Nat) (h : m ≤ 9223372036854775808) : wrap64 (Int.tdiv (sg neg m) 10) = sg neg (m / 10) := by
  have e : Int.tdiv (m : Int) 10 = ((m / 10 : Nat) : Int) := by rw [Int.tdiv_eq_ediv_of_nonneg (by omega)]; omega
  unfold sg
  cases neg with
  | false => rw [if_neg (by decide), if_neg (by decide), e, w64 (by omega) (by omega)]
  | true => rw [if_pos rfl, if_pos rfl, Int.neg_tdiv, e, w64 (by omega) (by omega)]
theorem sg_ne (neg : Bool) (m : Nat) : (sg neg m != 0) = decide (m ≠ 0) := by
  unfold sg
  by_cases h : m = 0
  · subst h
    cases neg <;> rfl
  · rw [decide_eq_true h, bne_iff_ne]
    cases neg with
    | false => rw [if_neg (by decide)]; omega
    | true => rw [if_pos rfl]; omega
theorem ref_digit_eq (d : Nat) (h : d < 10) : skiarearef01_digit.f (d : Int) = some ⟨([UInt8.ofNat (48 + d)] : List UInt8).toArray⟩ := by
  unfold skiarearef01_digit.f
  rw [if_pos (by omega), w64 (by omega) (by omega), if_pos (by omega), if_pos (by omega), show (⟨#[48, 49, 50, 51, 52, 53, 54, 55, 56, 57]⟩ : ByteArray) = ⟨([48, 49, 50, 51, 52, 53, 54, 55, 56, 57] : List UInt8).toArray⟩ from rfl, ba_extract,
    Int.toNat_natCast, show ((d : Int) + 1).toNat = d + 1 by omega, Nat.add_sub_cancel_left]
  match d, h with
  | 0, _ => rfl
  | 1, _ => rfl
  | 2, _ => rfl
  | 3, _ => rfl
  | 4, _ => rfl
  | 5, _ => rfl
  | 6, _ => rfl
  | 7, _ => rfl
  | 8, _ => rfl
  | 9, _ => rfl
def dg48 (m : Nat) : UInt8 := UInt8.ofNat (48 + m % 10)
theorem print_step (k : Nat) (x : Int) (neg : Bool) (m : Nat) (s : List UInt8) (i : Int) (hi : 0 ≤ i) (hi3 : i ≠ 3) (hi9 : i ≤ 1000) (hs : s.length ≤ 1000) (hm : m ≤ 9223372036854775808) :
    skiarearef01_Print.j1 (k + 1) x ⟨s.toArray⟩ (sg neg m) i true = skiarearef01_Print.l0 k x ⟨(dg48 m :: s).toArray⟩ (sg neg (m / 10)) (i + 1) := by
  simp only [skiarearef01_Print.j1]
  rw [if_pos trivial, if_neg hi3, sg_mod neg m hm, sg_div neg m hm, ref_digit_eq _ (Nat.mod_lt _ (by decide)), Option.bind_some, size_list, size_list, List.length_singleton, if_pos (by omega), ba_append, w64 (by omega) (by omega)]
  rfl
theorem print_step3 (k : Nat) (x : Int) (neg : Bool) (m : Nat) (s : List UInt8) (hs : s.length ≤ 1000) (hm : m ≤ 9223372036854775808) :
    skiarearef01_Print.j1 (k + 1) x ⟨s.toArray⟩ (sg neg m) 3 true = skiarearef01_Print.l0 k x ⟨(dg48 m :: 46 :: s).toArray⟩ (sg neg (m / 10)) 4 := by
  simp only [skiarearef01_Print.j1]
  rw [if_pos trivial, if_pos trivial, sg_mod neg m hm, sg_div neg m hm, size_list, if_pos (by omega), ref_digit_eq _ (Nat.mod_lt _ (by decide)), Option.bind_some, show (⟨#[46]⟩ : ByteArray) = ⟨([46] : List UInt8).toArray⟩ from rfl, ba_append, size_list, size_list, List.length_singleton, if_pos (by rw [List.length_append, List.length_singleton]; omega), ba_append, w64 (x := 3 + 1) (by omega) (by omega)]
  rfl
def sgn (x : Int) : List UInt8 := if x < 0 then [45] else []
theorem print_tail (x : Int) (neg : Bool) : ∀ (j m k : Nat) (s : List UInt8) (i : Int), m < 10 ^ j → j ≤ 30 → 4 ≤ i → i + j ≤ 100 → s.length + j ≤ 100 → m ≤ 9223372036854775808 → 2 * j + 2 ≤ k →
    skiarearef01_Print.l0 k x ⟨s.toArray⟩ (sg neg m) i = some ⟨(sgn x ++ ((if m = 0 then [] else Lib.decDigits m) ++ s)).toArray⟩ := by
  have stop : ∀ (k : Nat) (s : List UInt8) (n i : Int), s.length ≤ 100 → skiarearef01_Print.j1 (k + 1) x ⟨s.toArray⟩ n i false = some ⟨(sgn x ++ s).toArray⟩ := by
    intro k s n i hs
    simp only [skiarearef01_Print.j1, size_list]
    rw [if_neg (by decide)]
    unfold sgn
    by_cases c : x < 0
    · rw [if_pos c, if_pos c, if_pos (by omega), show (⟨#[45]⟩ : ByteArray) = ⟨([45] : List UInt8).toArray⟩ from rfl, ba_append]
    · rw [if_neg c, if_neg c, List.nil_append]
  intro j
  induction j with
  | zero =>
    intro m k s i hm hj hi hij hs hb hk
    obtain ⟨k, rfl⟩ : ∃ q, k = q + 2 := ⟨k - 2, by omega⟩
    obtain rfl : m = 0 := by rw [Nat.pow_zero] at hm; omega
    simp only [skiarearef01_Print.l0]
    rw [if_neg (by omega), sg_ne, decide_eq_false (by simp), if_pos trivial, List.nil_append]
    exact stop k s _ i (by omega)
  | succ j ih =>
    intro m k s i hm hj hi hij hs hb hk
    obtain ⟨k, rfl⟩ : ∃ q, k = q + 2 := ⟨k - 2, by omega⟩
    simp only [skiarearef01_Print.l0]
    by_cases h0 : m = 0
    · subst h0
      rw [if_neg (by omega), sg_ne, decide_eq_false (by simp), if_pos rfl, List.nil_append]
      exact stop k s _ i (by omega)
    · rw [if_neg (by omega), sg_ne, decide_eq_true h0, if_neg h0, print_step k x neg m s i (by omega) (by omega) (by omega) (by omega) hb]
      rw [ih (m / 10) k (dg48 m :: s) (i + 1) (by rw [Nat.pow_succ] at hm; omega) (by omega) (by omega) (by omega) (by rw [List.length_cons]; omega) (by omega) (by omega)]
      have e : (if m / 10 = 0 then [] else Lib.decDigits (m / 10)) ++ dg48 m :: s = Lib.decDigits m ++ s := by
        by_cases c : m < 10
        · rw [if_pos (by omega), Lib.decDigits_one c]
          unfold dg48
          rw [Nat.mod_eq_of_lt c]
          rfl
        · rw [if_neg (by omega)]
          have e2 : Lib.decDigits m = Lib.decDigits (m / 10) ++ [dg48 m] := by
            rw [Lib.decDigits, dif_neg c]
            rfl
          rw [e2, List.append_assoc]
          rfl
      rw [e]
theorem ref_print_eq (x : Int) (hx : -9223372036854775808 ≤ x ∧ x ≤ 9223372036854775807) (k : Nat) (hk : 100 ≤ k) : skiarearef01_Print.f k x = some ⟨(printOf x).toArray⟩ := by
  obtain ⟨k, rfl⟩ : ∃ q, k = q + 8 := ⟨k - 8, by omega⟩
  have hsg : x = sg (decide (x < 0)) x.natAbs := by
    unfold sg
    by_cases c : x < 0
    · rw [decide_eq_true c, if_pos rfl]; omega
    · rw [decide_eq_false c, if_neg (by decide)]; omega
  have hm : x.natAbs ≤ 9223372036854775808 := by omega
  unfold skiarearef01_Print.f
  have h0 : skiarearef01_Print.l0 (k + 8) x ⟨#[]⟩ x 0 = skiarearef01_Print.l0 (k + 8) x ⟨([] : List UInt8).toArray⟩ (sg (decide (x < 0)) x.natAbs) 0 := by rw [← hsg]
  rw [h0]
  unfold printOf
  generalize decide (x < 0) = neg
  generalize x.natAbs = m at *
  have step : ∀ (k m : Nat) (s : List UInt8) (i : Int), 0 ≤ i → i < 3 → s.length ≤ 1000 → m ≤ 9223372036854775808 → skiarearef01_Print.l0 (k + 2) x ⟨s.toArray⟩ (sg neg m) i = skiarearef01_Print.l0 k x ⟨(dg48 m :: s).toArray⟩ (sg neg (m / 10)) (i + 1) := by
    intro k m s i i0 i1 hs hm
    rw [show k + 2 = (k + 1) + 1 by omega]
    simp only [skiarearef01_Print.l0]
    rw [if_pos (by omega)]
    exact print_step k x neg m s i i0 (by omega) (by omega) hs hm
  have step3 : ∀ (k m : Nat) (s : List UInt8), s.length ≤ 1000 → m ≤ 9223372036854775808 → skiarearef01_Print.l0 (k + 2) x ⟨s.toArray⟩ (sg neg m) 3 = skiarearef01_Print.l0 k x ⟨(dg48 m :: 46 :: s).toArray⟩ (sg neg (m / 10)) 4 := by
    intro k m s hs hm
    rw [show k + 2 = (k + 1) + 1 by omega]
    simp only [skiarearef01_Print.l0]
    rw [if_pos (by omega)]
    exact print_step3 k x neg m s hs hm
  rw [show k + 8 = (k + 6) + 2 by omega, step (k + 6) m [] 0 (by omega) (by omega) (by simp) hm]
  rw [show k + 6 = (k + 4) + 2 by omega, step (k + 4) (m / 10) _ (0 + 1) (by omega) (by omega) (by simp) (by omega)]
  rw [show k + 4 = (k + 2) + 2 by omega, step (k + 2) (m / 10 / 10) _ (0 + 1 + 1) (by omega) (by omega) (by simp) (by omega)]
  rw [show ((0 : Int) + 1 + 1 + 1) = 3 by decide, step3 k (m / 10 / 10 / 10) _ (by simp) (by omega)]
  have hp : (10 : Nat) ^ 20 = 100000000000000000000 := by decide
  rw [print_tail x neg 20 (m / 10 / 10 / 10 / 10) k _ 4 (by omega) (by omega) (by omega) (by omega) (by simp) (by omega) (by omega)]
  have hr : m % 1000 < 1000 := Nat.mod_lt _ (by decide)
  rw [decimals _ hr]
  have e : (if m / 10 / 10 / 10 / 10 = 0 then [] else Lib.decDigits (m / 10 / 10 / 10 / 10)) ++ [dg48 (m / 10 / 10 / 10)] = Lib.decDigits (m / 1000) := by
    have e1 : m / 10 / 10 / 10 = m / 1000 := by omega
    rw [e1]
    by_cases c : m / 1000 < 10
    · rw [if_pos (by omega), Lib.decDigits_one c]
      unfold dg48
      rw [Nat.mod_eq_of_lt c]
      rfl
    · rw [if_neg (by omega)]
      have e2 : Lib.decDigits (m / 1000) = Lib.decDigits (m / 1000 / 10) ++ [dg48 (m / 1000)] := by
        rw [Lib.decDigits, dif_neg c]
        rfl
      rw [e2]
  have e3 : [dg48 (m / 10 / 10), dg48 (m / 10), dg48 m] = threeOf (m % 1000) := by
    unfold dg48 threeOf
    rw [show m / 10 / 10 % 10 = m % 1000 / 100 by omega, show m / 10 % 10 = m % 1000 / 10 % 10 by omega, show m % 10 = m % 1000 % 10 by omega]
  rw [← e, ← e3]
  unfold sgn
  simp
end Go.Proofs.YtnoacoppinkloaaDoor.Pr
