/- Plain lemmas: strings, digits, what Parse comes to. -/
import Derived.Test.YtnoacoppinkloaaDoorLemA
import Derived.Test.YtnoacoppinkloaaDoorPr3
namespace Go.Proofs.YtnoacoppinkloaaDoor.Pr
open Go.RowKit Go.Proofs.YtnoacoppinkloaaDoorW.PrintWords Go.Proofs.YtnoacoppinkloaaDoorW.PrintLast Go.Proofs.YtnoacoppinkloaaDoorW.PrintMore
set_option linter.unusedVariables false
set_option linter.unusedSimpArgs false
/-! ### Strings as lists of bytes -/
def isDig (c : UInt8) : Prop := 48 ≤ c.toNat ∧ c.toNat ≤ 57
instance (c : UInt8) : Decidable (isDig c) := by unfold isDig; exact inferInstance
def allDig (l : List UInt8) : Bool := l.all fun c => decide (isDig c)
/-- The number that digits spell. -/
def valFrom (acc : Nat) (l : List UInt8) : Nat := l.foldl (fun a c => a * 10 + (c.toNat - 48)) acc

theorem bt_list (l : List UInt8) (i : Nat) (h : i < l.length) : bt ⟨l.toArray⟩ (i : Int) = ((l[i].toNat : Nat) : Int) := by
  unfold bt
  rw [dif_pos (by rw [Int.toNat_natCast]; exact h)]
  rfl

theorem size_list (l : List UInt8) : (⟨l.toArray⟩ : ByteArray).size = l.length := rfl

theorem drop_cons {l : List UInt8} {i : Nat} (h : i < l.length) : l.drop i = l[i] :: l.drop (i + 1) := List.drop_eq_getElem_cons h

/-- digits: all are digits, and their number is from lo to hi. -/
theorem digits_l0 (l : List UInt8) (hl : l.length ≤ 1000) (lo hi : Int) : ∀ (d i k : Nat), i + d = l.length → d < k →
    fixed_digits.l0 k ⟨l.toArray⟩ lo hi (l.length : Int) (i : Int) = some (allDig (l.drop i) && decide (lo ≤ (l.length : Int)) && decide ((l.length : Int) ≤ hi)) := by
  intro d
  induction d with
  | zero =>
    intro i k hi' hk
    obtain ⟨k, rfl⟩ : ∃ m, k = m + 1 := ⟨k - 1, by omega⟩
    simp only [fixed_digits.l0, size_list]
    rw [if_neg (by omega), List.drop_of_length_le (by omega)]
    by_cases c : (l.length : Int) ≥ lo
    · rw [if_pos c, decide_eq_true c]; simp [allDig]
    · rw [if_neg c, decide_eq_false c]; simp
  | succ d ih =>
    intro i k hi' hk
    obtain ⟨k, rfl⟩ : ∃ m, k = m + 1 := ⟨k - 1, by omega⟩
    have hlt : i < l.length := by omega
    have e := ih (i + 1) k (by omega) (by omega)
    have hb := bt_list l i hlt
    have hd : allDig (l.drop i) = (decide (isDig l[i]) && allDig (l.drop (i + 1))) := by rw [drop_cons hlt]; rfl
    simp only [fixed_digits.l0, size_list]
    rw [if_pos (by omega), if_pos (by omega), if_pos (by omega), hb, w64 (by omega) (by omega), hd]
    by_cases c1 : ((l[i].toNat : Nat) : Int) < 48
    · rw [if_pos c1, decide_eq_false (show ¬ isDig l[i] from fun h => by have := h.1; omega)]; simp
    by_cases c2 : ((l[i].toNat : Nat) : Int) > 57
    · rw [if_neg c1, if_pos c2, decide_eq_false (show ¬ isDig l[i] from fun h => by have := h.2; omega)]; simp
    rw [if_neg c1, if_neg c2, decide_eq_true (show isDig l[i] from ⟨by omega, by omega⟩), Bool.true_and]
    exact e
theorem digits_eq (l : List UInt8) (hl : l.length ≤ 1000) (lo hi : Int) (k : Nat) (hk : l.length < k) :
    fixed_digits.f k ⟨l.toArray⟩ lo hi = some (allDig l && decide (lo ≤ (l.length : Int)) && decide ((l.length : Int) ≤ hi)) := by
  have := digits_l0 l hl lo hi l.length 0 k (by omega) hk
  rw [List.drop_zero] at this
  exact this

/-! ### Atoi of digits -/
theorem valFrom_lt (l : List UInt8) : ∀ acc, allDig l = true → valFrom acc l < (acc + 1) * 10 ^ l.length := by
  induction l with
  | nil => intro acc _; simp [valFrom]
  | cons c l ih =>
    intro acc h
    simp only [allDig, List.all_cons, Bool.and_eq_true, decide_eq_true_eq] at h
    have h1 := ih (acc * 10 + (c.toNat - 48)) h.2
    obtain ⟨d0, d1⟩ := h.1
    have h2 : (acc * 10 + (c.toNat - 48) + 1) * 10 ^ l.length ≤ ((acc + 1) * 10) * 10 ^ l.length := Nat.mul_le_mul_right _ (by omega)
    have e : (acc + 1) * 10 ^ (l.length + 1) = ((acc + 1) * 10) * 10 ^ l.length := by rw [Nat.pow_succ, Nat.mul_assoc, Nat.mul_comm (10 ^ l.length) 10]
    show valFrom (acc * 10 + (c.toNat - 48)) l < (acc + 1) * 10 ^ (l.length + 1)
    rw [e]
    omega
theorem valFrom_ge (l : List UInt8) : ∀ acc, acc * 10 ^ l.length ≤ valFrom acc l := by
  induction l with
  | nil => intro acc; simp [valFrom]
  | cons c l ih =>
    intro acc
    have h1 := ih (acc * 10 + (c.toNat - 48))
    have h2 : acc * 10 * 10 ^ l.length ≤ (acc * 10 + (c.toNat - 48)) * 10 ^ l.length := Nat.mul_le_mul_right _ (by omega)
    have e : acc * 10 ^ (l.length + 1) = acc * 10 * 10 ^ l.length := by rw [Nat.pow_succ, Nat.mul_assoc, Nat.mul_comm (10 ^ l.length) 10]
    show acc * 10 ^ (l.length + 1) ≤ valFrom (acc * 10 + (c.toNat - 48)) l
    rw [e]
    omega
theorem parseUint_digits (l : List UInt8) : ∀ acc, allDig l = true → valFrom acc l < 1844674407370955162 → Lib.parseUint10 acc l = .ok (valFrom acc l) := by
  induction l with
  | nil => intro acc _ _; rfl
  | cons c l ih =>
    intro acc h hv
    simp only [allDig, List.all_cons, Bool.and_eq_true, decide_eq_true_eq] at h
    have hge := valFrom_ge l (acc * 10 + (c.toNat - 48))
    have hp : 1 ≤ 10 ^ l.length := Nat.one_le_iff_ne_zero.2 (by have := Nat.pow_pos (n := l.length) (show 0 < 10 by decide); omega)
    have h3 : (acc * 10 + (c.toNat - 48)) * 1 ≤ (acc * 10 + (c.toNat - 48)) * 10 ^ l.length := Nat.mul_le_mul_left _ hp
    have hv' : valFrom (acc * 10 + (c.toNat - 48)) l < 1844674407370955162 := hv
    simp only [Lib.parseUint10]
    rw [if_pos (show 48 ≤ c.toNat ∧ c.toNat ≤ 57 from h.1), if_neg (by omega), if_neg (by omega)]
    exact ih _ h.2 hv'
theorem atoi_digits (l : List UInt8) (h0 : l ≠ []) (h : allDig l = true) (hl : l.length ≤ 13) : Lib.atoiAll l = .ok (valFrom 0 l : Int) := by
  have hv := valFrom_lt l 0 h
  have hp : 10 ^ l.length ≤ 10 ^ 13 := Nat.pow_le_pow_right (by decide) hl
  have hp' : (10 : Nat) ^ 13 = 10000000000000 := by decide
  match l, h0 with
  | c :: r, _ =>
    have hd : isDig c := by simp only [allDig, List.all_cons, Bool.and_eq_true, decide_eq_true_eq] at h; exact h.1
    have hu := parseUint_digits (c :: r) 0 h (by omega)
    unfold Lib.atoiAll
    obtain ⟨d0, d1⟩ := hd
    simp only
    rw [if_neg (by omega)]
    unfold Lib.parseMag
    rw [if_neg (by simp), hu]
    simp only
    rw [if_neg (by omega), if_neg (by omega), if_neg (by omega)]

/-! ### What Parse comes to -/
def headOr (l : List UInt8) : Int := match l with | [] => -1 | c :: _ => (c.toNat : Int)
def padTo3 (l : List UInt8) : List UInt8 := l ++ List.replicate (3 - l.length) 48
def negOf (l : List UInt8) : Bool := Lib.hasPrefix l [45]
def bodyOf (l : List UInt8) : List UInt8 := Lib.trimPrefix l [45]
def wholeOf (l : List UInt8) : List UInt8 := if 0 ≤ Lib.indexByte l 46 then l.take (Lib.indexByte l 46).toNat else l
def restOf (l : List UInt8) : List UInt8 := if 0 ≤ Lib.indexByte l 46 then l.drop ((Lib.indexByte l 46).toNat + 1) else []
def pointOf (l : List UInt8) : Bool := decide (0 ≤ Lib.indexByte l 46)
/-- The form of the number behind the sign. -/
def formOk (l : List UInt8) : Bool :=
  (allDig (wholeOf l) && decide (1 ≤ (wholeOf l).length) && decide ((wholeOf l).length ≤ 10)) && !(decide (1 < (wholeOf l).length) && decide (headOr (wholeOf l) = 48)) &&
    !(pointOf l && !(allDig (restOf l) && decide (1 ≤ (restOf l).length) && decide ((restOf l).length ≤ 3)))
def numOf (l : List UInt8) : Int := valFrom 0 (wholeOf l ++ padTo3 (restOf l))
def parseOf (l : List UInt8) : Int × Int :=
  if formOk (bodyOf l) = true then
    (if negOf l = true then (if numOf (bodyOf l) = 0 then (0, 3) else (-numOf (bodyOf l), 0)) else (numOf (bodyOf l), 0))
  else (0, 3)

theorem indexByte_lt (l : List UInt8) (c : UInt8) : Lib.indexByte l c < (l.length : Int) := by
  induction l with
  | nil => simp [Lib.indexByte]
  | cons b l ih =>
    unfold Lib.indexByte
    rw [List.length_cons]
    split
    · omega
    · split
      · omega
      · omega

theorem cutPrefix_eq (l : List UInt8) : strings_CutPrefix.f ⟨l.toArray⟩ ⟨#[45]⟩ = some (⟨(bodyOf l).toArray⟩, negOf l) := rfl

theorem cut_eq (l : List UInt8) (hl : l.length ≤ 1000) : strings_Cut.f ⟨l.toArray⟩ ⟨#[46]⟩ = some (⟨(wholeOf l).toArray⟩, ⟨(restOf l).toArray⟩, pointOf l) := by
  have hi : stringslite_Index.f ⟨l.toArray⟩ ⟨#[46]⟩ = some (Lib.indexByte l 46) := rfl
  have h1 := indexByte_lt l 46
  have h2 := Lib.indexByte_ge l 46
  have hs : ((⟨#[46]⟩ : ByteArray).size : Int) = 1 := rfl
  unfold strings_Cut.f stringslite_Cut.f
  rw [hi, Option.bind_some]
  unfold wholeOf restOf pointOf
  by_cases c : 0 ≤ Lib.indexByte l 46
  · obtain ⟨n, hn⟩ := Int.eq_ofNat_of_zero_le c
    rw [hn] at h1 h2 c ⊢
    rw [if_pos c, if_pos c, size_list, if_pos (by omega), hs, w64 (by omega) (by omega), if_pos (by omega), if_pos (by omega), if_pos c, if_pos c, decide_eq_true c, Option.bind_some, ba_extract, ba_extract]
    have e1 : ((n : Int) + 1).toNat = n + 1 := by omega
    rw [e1, Int.toNat_natCast, List.drop_zero, Nat.sub_zero, List.take_of_length_le (l := l.drop (n + 1)) (by simp)]
  · rw [if_neg c, Option.bind_some, if_neg c, if_neg c, decide_eq_false c]

/-- The loop that fills up the decimals, and the number. -/
theorem parse_l0 (neg : Bool) (a : List UInt8) (ha : allDig a = true) (ha0 : 1 ≤ a.length) (ha1 : a.length ≤ 10) : ∀ (d : Nat) (b : List UInt8) (k : Nat), allDig b = true → b.length + d = 3 → d + 2 ≤ k →
    fixed_Parse.l0 k neg ⟨a.toArray⟩ ⟨b.toArray⟩ = some (if neg = true then (if (valFrom 0 (a ++ padTo3 b) : Int) = 0 then (0, 3) else (-(valFrom 0 (a ++ padTo3 b) : Int), 0)) else ((valFrom 0 (a ++ padTo3 b) : Int), 0)) := by
  intro d
  induction d with
  | zero =>
    intro b k hb hd hk
    obtain ⟨k, rfl⟩ : ∃ m, k = m + 2 := ⟨k - 2, by omega⟩
    have hp : padTo3 b = b := by unfold padTo3; rw [show 3 - b.length = 0 by omega]; simp
    have hall : allDig (a ++ b) = true := by unfold allDig at *; rw [List.all_append, ha, hb]; rfl
    have hat := atoi_digits (a ++ b) (by intro h; rw [List.append_eq_nil_iff] at h; rw [h.1] at ha0; simp at ha0) hall (by simp; omega)
    have hv := valFrom_lt (a ++ b) 0 hall
    have hp10 : 10 ^ (a ++ b).length ≤ 10 ^ 13 := Nat.pow_le_pow_right (by decide) (by simp; omega)
    have hp' : (10 : Nat) ^ 13 = 10000000000000 := by decide
    have hf : strconv_Atoi_35.f ⟨(a ++ b).toArray⟩ = some ((valFrom 0 (a ++ b) : Int), none) := by
      unfold strconv_Atoi_35.f
      rw [if_pos (by rw [size_list]; simp; omega)]
      show (match Lib.atoiAll (a ++ b) with | .ok v => some (v, none) | _ => none) = _
      rw [hat]
    rw [hp]
    simp only [fixed_Parse.l0, size_list]
    rw [if_neg (by omega), if_pos (by omega), ba_append, hf, Option.bind_some]
    generalize valFrom 0 (a ++ b) = v at *
    rw [if_pos (show (none : Option Int).isNone = true from rfl)]
    cases neg with
    | true =>
      rw [if_pos rfl, if_pos rfl]
      simp only [fixed_Parse.j2]
      by_cases c : (v : Int) = 0
      · rw [if_pos c, if_pos (beq_iff_eq.2 c)]
      · rw [if_neg c, if_neg (by rw [beq_iff_eq]; exact c), if_pos trivial, w64 (by omega) (by omega)]
    | false =>
      rw [if_neg (by decide), if_neg (by decide)]
      simp only [fixed_Parse.j2]
      rw [if_neg (by decide), if_neg (by decide)]
  | succ d ih =>
    intro b k hb hd hk
    obtain ⟨k, rfl⟩ : ∃ m, k = m + 1 := ⟨k - 1, by omega⟩
    have hb' : allDig (b ++ [48]) = true := by unfold allDig at *; rw [List.all_append, hb]; rfl
    have e := ih (b ++ [48]) k hb' (by simp; omega) (by omega)
    have hp : padTo3 (b ++ [48]) = padTo3 b := by
      unfold padTo3
      rw [List.append_assoc]
      congr 1
      rw [show 3 - b.length = (3 - (b ++ [48]).length) + 1 by simp; omega, List.replicate_succ]
      rfl
    rw [hp] at e
    simp only [fixed_Parse.l0, size_list]
    rw [if_pos (by omega), if_pos (by omega), show (⟨#[48]⟩ : ByteArray) = ⟨([48] : List UInt8).toArray⟩ from rfl, ba_append]
    exact e

theorem head_bt (l : List UInt8) (h : 0 < l.length) : bt ⟨l.toArray⟩ 0 = headOr l := by
  match l, h with
  | c :: r, _ => exact bt_list (c :: r) 0 (by simp)

/-- Parse returns just this. -/
theorem parse_eq (l : List UInt8) (hl : l.length ≤ 900) (k : Nat) (hk : 1000 ≤ k) : fixed_Parse.f k ⟨l.toArray⟩ = some (parseOf l) := by
  obtain ⟨k, rfl⟩ : ∃ m, k = m + 1 := ⟨k - 1, by omega⟩
  have hbl : (bodyOf l).length ≤ l.length := by
    unfold bodyOf Lib.trimPrefix
    split
    · simp
    · omega
  unfold fixed_Parse.f parseOf
  rw [cutPrefix_eq, Option.bind_some]
  generalize bodyOf l = b at *
  generalize negOf l = neg at *
  rw [cut_eq b (by omega), Option.bind_some]
  have hw : (wholeOf b).length ≤ b.length := by unfold wholeOf; split <;> simp; omega
  have hr : (restOf b).length ≤ b.length := by unfold restOf; split <;> simp
  have hnum : numOf b = valFrom 0 (wholeOf b ++ padTo3 (restOf b)) := rfl
  have hpt : pointOf b = false → restOf b = [] := fun h => by
    unfold pointOf at h
    unfold restOf
    rw [if_neg (of_decide_eq_false h)]
  unfold formOk
  rw [hnum]
  generalize hW : wholeOf b = W at *
  generalize hR : restOf b = R at *
  generalize hP : pointOf b = P at *
  have no : ∀ (k : Nat) (a r : ByteArray), fixed_Parse.j0 (k + 1) neg a r true = some (0, 3) := fun k a r => by simp only [fixed_Parse.j0]; rw [if_pos trivial]
  have yes : ∀ c : Bool, c = false → fixed_Parse.j0 (k + 1) neg ⟨W.toArray⟩ ⟨R.toArray⟩ c = fixed_Parse.l0 k neg ⟨W.toArray⟩ ⟨R.toArray⟩ := fun c hc => by subst hc; simp only [fixed_Parse.j0]; rw [if_neg (by decide)]
  dsimp only
  rw [digits_eq W (by omega) 1 10 (k + 1) (by omega), digits_eq R (by omega) 1 3 (k + 1) (by omega)]
  simp only [Option.bind_some, size_list]
  have e1 : decide ((1 : Int) ≤ (W.length : Int)) = decide (1 ≤ W.length) := by congr 1; simp; omega
  have e2 : decide ((W.length : Int) ≤ 10) = decide (W.length ≤ 10) := by congr 1; simp; omega
  have e3 : decide ((1 : Int) ≤ (R.length : Int)) = decide (1 ≤ R.length) := by congr 1; simp; omega
  have e4 : decide ((R.length : Int) ≤ 3) = decide (R.length ≤ 3) := by congr 1; simp; omega
  rw [e1, e2, e3, e4]
  by_cases hD : (allDig W && decide (1 ≤ W.length) && decide (W.length ≤ 10)) = true
  · rw [hD, if_pos rfl]
    simp only [Bool.and_eq_true, decide_eq_true_eq] at hD
    obtain ⟨⟨d0, d1⟩, d2⟩ := hD
    -- the rest: the decimals
    have tail : (∀ c : Bool, c = (P && !(allDig R && decide (1 ≤ R.length) && decide (R.length ≤ 3))) →
        fixed_Parse.j0 (k + 1) neg ⟨W.toArray⟩ ⟨R.toArray⟩ c = some (if (!(P && !(allDig R && decide (1 ≤ R.length) && decide (R.length ≤ 3)))) = true then
          (if neg = true then (if (valFrom 0 (W ++ padTo3 R) : Int) = 0 then (0, 3) else (-(valFrom 0 (W ++ padTo3 R) : Int), 0)) else ((valFrom 0 (W ++ padTo3 R) : Int), 0)) else (0, 3))) := by
      intro c hc
      rw [← hc]
      cases c with
      | true => rw [no]; rfl
      | false =>
        rw [yes false rfl]
        have hR0 : allDig R = true ∧ R.length ≤ 3 := by
          cases P with
          | false => rw [hpt rfl]; exact ⟨rfl, by simp⟩
          | true =>
            rw [Bool.true_and] at hc
            have := (Bool.not_eq_false' .. ▸ hc.symm : (allDig R && decide (1 ≤ R.length) && decide (R.length ≤ 3)) = true)
            simp only [Bool.and_eq_true, decide_eq_true_eq] at this
            exact ⟨this.1.1, this.2⟩
        exact parse_l0 neg W d0 d1 d2 (3 - R.length) R k hR0.1 (by omega) (by omega)
    have join : (if P = true then fixed_Parse.j0 (k + 1) neg ⟨W.toArray⟩ ⟨R.toArray⟩ (!(allDig R && decide (1 ≤ R.length) && decide (R.length ≤ 3))) else fixed_Parse.j0 (k + 1) neg ⟨W.toArray⟩ ⟨R.toArray⟩ false) =
        some (if (!(P && !(allDig R && decide (1 ≤ R.length) && decide (R.length ≤ 3)))) = true then
          (if neg = true then (if (valFrom 0 (W ++ padTo3 R) : Int) = 0 then (0, 3) else (-(valFrom 0 (W ++ padTo3 R) : Int), 0)) else ((valFrom 0 (W ++ padTo3 R) : Int), 0)) else (0, 3)) := by
      cases P with
      | true => rw [if_pos rfl]; exact tail _ (by rw [Bool.true_and])
      | false => rw [if_neg (by decide)]; exact tail _ (by rw [Bool.false_and])
    by_cases c1 : (W.length : Int) > 1
    · rw [if_pos c1, if_pos (by omega), head_bt W (by omega), decide_eq_true (show 1 < W.length by omega)]
      by_cases c2 : headOr W = 48
      · rw [if_pos c2, no, decide_eq_true c2]; rfl
      · rw [if_neg c2, decide_eq_false c2, join]
        simp
    · rw [if_neg c1, decide_eq_false (show ¬ 1 < W.length by omega), join]
      simp
  · rw [if_neg hD, no]
    have hD' : (allDig W && decide (1 ≤ W.length) && decide (W.length ≤ 10)) = false := by simpa using hD
    rw [hD']; rfl
end Go.Proofs.YtnoacoppinkloaaDoor.Pr
