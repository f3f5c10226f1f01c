/- What comes in: a list of numbers, opened. -/
import Derived.Test.YtnfplnpimkpbkaaPr1
import Derived.Deep.Slices
import Derived.ProofKit
import Derived.ChangeSlices
namespace Go.Proofs.Ytnfplnpimkpbkaa.Pr
open Go.RowKit Go.Proofs.YtnfplnpimkpbkaaW.PrintWords Go.Proofs.YtnfplnpimkpbkaaW.PrintLast Go.Proofs.YtnfplnpimkpbkaaW.PrintMore
set_option linter.unusedVariables false
set_option linter.unusedSimpArgs false
/-! ### A list of numbers that comes in -/
section
open Go.ChangeShapes Go.WideShapes
variable {H : Type} {enc : TypeId × Value → H} {w : World} {spare : Nat → Bool} {held : Bool} {base : Nat}
theorem open_list {v : Value} {d : DataW H} {p : List MemPlace} (hv : Value.okWide Try.prog w .any base 34 v) (h : DataW.Trod enc Try.prog w 0 spare held 34 v d p) :
    ∃ (A : Option Addr) (l : List Int) (c : Nat), v = .slice A l.length c ∧ l.length ≤ c ∧ Kd.C (Kd.int .i64) w A l.length l := by
  obtain ⟨a, len, cap, rfl⟩ := okWide_slice Try.underlying34 hv
  obtain ⟨fuel, hf⟩ := h
  rcases open_ints Try.underlying34 Try.underlying3 (by kernel_rfl) hf with ⟨hcs, _⟩ | ⟨x, l, c, zs, hcs, _, hl, hm, hz, _, hcell, _⟩
  · simp [Value.cells] at hcs
    obtain ⟨rfl, rfl, rfl⟩ := hcs
    exact ⟨none, [], 0, rfl, Nat.le_refl _, Kd.C_nil _ _⟩
  · simp [Value.cells] at hcs
    obtain ⟨rfl, rfl, rfl⟩ := hcs
    have hzl : len ≤ zs.length := by rw [hz]; split <;> omega
    have el : (zs.take len).length = len := by simp; omega
    refine ⟨some x, zs.take len, cap, by rw [el], by rw [el]; exact hl, ?_⟩
    rw [el]
    refine ⟨el, by unfold maxLen at hm; omega, fun hn => ⟨x, rfl, fun j p hj => ?_⟩⟩
    obtain ⟨hjl, hjp⟩ := List.getElem?_eq_some_iff.1 hj
    rw [el] at hjl
    have hc := hcell j (by omega)
    have hd : zs.getD j 0 = p := by
      rw [← hjp]; simp [List.getD_eq_getElem?_getD, List.getElem?_eq_getElem (show j < zs.length by omega)]
    rw [hd] at hc
    refine ⟨[.int .i64 p], rfl, rfl, fun i u hu => ?_⟩
    match i, hu with
    | 0, hu => obtain rfl := Option.some.inj hu; rw [show j * (Kd.int .i64).sz + 0 = j from by show j * 1 + 0 = j; omega]; exact hc
    | i + 1, hu => simp at hu
end
theorem i64_range {a : Int} (h : (Lit.int .i64 a).wf = true) : -9223372036854775808 ≤ a ∧ a ≤ 9223372036854775807 := by
  have h1 : IntKind.i64.min = -9223372036854775808 := by decide
  have h2 : IntKind.i64.max = 9223372036854775807 := by decide
  simp [Lit.wf] at h; omega
end Go.Proofs.Ytnfplnpimkpbkaa.Pr
