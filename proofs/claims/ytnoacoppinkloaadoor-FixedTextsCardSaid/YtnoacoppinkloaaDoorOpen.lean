/- What comes in: points, three numbers, opened. -/
import Derived.Test.YtnoacoppinkloaaDoorPr1
import Derived.Deep.Slices
import Derived.Deep.Fields
import Derived.ChangeSame
import Derived.Lib.SmallJoins
import Derived.ProofKit
import Derived.OpenShut
namespace Go.Proofs.YtnoacoppinkloaaDoor.Pr
open Go.RowKit Go.Proofs.YtnoacoppinkloaaDoorW.PrintWords Go.Proofs.YtnoacoppinkloaaDoorW.PrintLast Go.Proofs.YtnoacoppinkloaaDoorW.PrintMore
set_option linter.unusedVariables false
set_option linter.unusedSimpArgs false
/-! ### What comes in: points, three numbers -/
section
open Go.ChangeShapes Go.WideShapes
def numAt (w : World) (a : Addr) : Int := match w.cell? a with | some (.int _ n) => n | _ => 0
variable {H : Type} {enc : TypeId × Value → H} {w : World} {spare : Nat → Bool} {held : Bool} {base : Nat}
theorem list_two {α : Type} {l : List α} (h : l.length = 2) : ∃ a b, l = [a, b] := by
  match l, h with
  | [a, b], _ => exact ⟨a, b, rfl⟩
theorem open_points {fuel : Nat} {cs : List Value} {x : DataW H × List MemPlace} (h : DataW.trod enc Tryd.prog w 0 spare held fuel 22 cs = some x) :
    ∃ (A : Option Addr) (l : List S28) (c : Nat), cs = [.slice A l.length c] ∧ l.length ≤ c ∧ Kd.C k28 w A l.length l := by
  rcases Deep.open_slice Tryd.underlying22 h with ⟨rfl, _⟩ | ⟨a, len, cap, m, n, D, Pl, rfl, _, hl, hm, hmm, _, hi⟩
  · exact ⟨none, [], 0, rfl, Nat.le_refl _, rfl, by simp, fun h => absurd h (Nat.lt_irrefl 0)⟩
  · have hcell : ∀ i, i < len → w.cell? (a.add (i * 2)) = some (.int .i64 (numAt w (a.add (i * 2)))) ∧ w.cell? (a.add (i * 2 + 1)) = some (.int .i64 (numAt w (a.add (i * 2 + 1)))) := by
      intro i hlt
      have hC : Tryd.prog.cellsOf 28 = 2 := by kernel_rfl
      have hC3 : Tryd.prog.cellsOf 3 = 1 := by kernel_rfl
      obtain ⟨cs', hc, ht⟩ := hi i (by rw [hmm]; split <;> omega)
      rw [hC] at hc
      obtain ⟨_, hcl, hat⟩ := World.cells?_some hc
      obtain ⟨ys, n', _, _, _, _, hf⟩ := DataW.trod_struct Tryd.underlying28 ht
      obtain ⟨c0, c1, rfl⟩ := list_two hcl
      have f0 : DataW.trod enc Tryd.prog w 0 spare held n' 3 [c0] = ys[0]? := by simpa [hC3] using hf 0 _ rfl
      have f1 : DataW.trod enc Tryd.prog w 0 spare held n' 3 [c1] = ys[1]? := by simpa [hC3] using hf 1 _ rfl
      have yl : ys.length = 2 := by assumption
      rw [List.getElem?_eq_getElem (by omega)] at f0 f1
      obtain ⟨n0, e0, _, _⟩ := DataW.trod_int Tryd.underlying3 f0
      obtain ⟨n1, e1, _, _⟩ := DataW.trod_int Tryd.underlying3 f1
      obtain rfl : c0 = .int .i64 n0 := by simpa using e0
      obtain rfl : c1 = .int .i64 n1 := by simpa using e1
      have h0 := hat 0 (by omega)
      have h1 := hat 1 (by omega)
      rw [Deep.add_add] at h0 h1
      simp only [Nat.add_zero, List.getElem?_cons_zero, List.getElem?_cons_succ] at h0 h1
      unfold numAt
      rw [h0, h1]
      exact ⟨rfl, rfl⟩
    have el : ((List.range len).map fun i => (⟨numAt w (a.add (i * 2)), numAt w (a.add (i * 2 + 1))⟩ : S28)).length = len := by simp
    refine ⟨some a, (List.range len).map fun i => ⟨numAt w (a.add (i * 2)), numAt w (a.add (i * 2 + 1))⟩, cap, by rw [el], by rw [el]; exact hl, ?_⟩
    rw [el]
    refine ⟨el, by unfold maxLen at hm; omega, fun hn => ⟨a, rfl, fun j p hj => ?_⟩⟩
    obtain ⟨hjl, hjp⟩ := List.getElem?_eq_some_iff.1 hj
    rw [el] at hjl
    obtain ⟨h0, h1⟩ := hcell j hjl
    obtain rfl : (⟨numAt w (a.add (j * 2)), numAt w (a.add (j * 2 + 1))⟩ : S28) = p := by rw [← hjp]; simp
    refine ⟨_, rfl, k28_mk w _, fun i u hu => ?_⟩
    match i, hu with
    | 0, hu => obtain rfl := Option.some.inj hu; exact h0
    | 1, hu => obtain rfl := Option.some.inj hu; exact h1
    | i + 2, hu => simp at hu

theorem open_pointlist {v : Value} {d : DataW H} {p : List MemPlace} (hv : Value.okWide Tryd.prog w .any base 22 v) (h : DataW.Trod enc Tryd.prog w 0 spare held 22 v d p) :
    ∃ (A : Option Addr) (l : List S28) (c : Nat), v = .slice A l.length c ∧ l.length ≤ c ∧ Kd.C k28 w A l.length l := by
  obtain ⟨a, len, cap, rfl⟩ := okWide_slice Tryd.underlying22 hv
  obtain ⟨fuel, hf⟩ := h
  obtain ⟨A, l, c, e, hc, hr⟩ := open_points (cs := [.slice a len cap]) hf
  simp only [List.cons.injEq, and_true] at e
  exact ⟨A, l, c, e, hc, hr⟩
theorem open_three {v : Value} {d : DataW H} {p : List MemPlace} (hv : Value.okWide Tryd.prog w .any base 30 v) (h : DataW.Trod enc Tryd.prog w 0 spare held 30 v d p) :
    ∃ (a b c : Int), v = .agg #[.int .i64 a, .int .i64 b, .int .i64 c] ∧ (Lit.int .i64 a).wf = true ∧ (Lit.int .i64 b).wf = true ∧ (Lit.int .i64 c).wf = true := by
  have hC : Tryd.prog.cellsOf 30 = 3 := by kernel_rfl
  have hC3 : Tryd.prog.cellsOf 3 = 1 := by kernel_rfl
  simp only [Value.okWide, Tryd.underlying30] at hv
  obtain ⟨cs, rfl, hsz, _⟩ := hv
  rw [hC] at hsz
  obtain ⟨cs⟩ := cs
  match cs, hsz with
  | [c0, c1, c2], _ =>
    obtain ⟨fuel, hf⟩ := h
    obtain ⟨xs, n, _, _, _, hlen, hg⟩ := DataW.trod_array Tryd.underlying30 hf
    have f0 : DataW.trod enc Tryd.prog w 0 spare held n 3 [c0] = xs[0]? := by simpa [hC3, Value.cells] using hg 0 (by omega)
    have f1 : DataW.trod enc Tryd.prog w 0 spare held n 3 [c1] = xs[1]? := by simpa [hC3, Value.cells] using hg 1 (by omega)
    have f2 : DataW.trod enc Tryd.prog w 0 spare held n 3 [c2] = xs[2]? := by simpa [hC3, Value.cells] using hg 2 (by omega)
    rw [List.getElem?_eq_getElem (by omega)] at f0 f1 f2
    obtain ⟨n0, e0, _, w0⟩ := DataW.trod_int Tryd.underlying3 f0
    obtain ⟨n1, e1, _, w1⟩ := DataW.trod_int Tryd.underlying3 f1
    obtain ⟨n2, e2, _, w2⟩ := DataW.trod_int Tryd.underlying3 f2
    simp only [List.cons.injEq, and_true] at e0 e1 e2
    subst e0 e1 e2
    exact ⟨n0, n1, n2, rfl, w0, w1, w2⟩
theorem i64_range {a : Int} (h : (Lit.int .i64 a).wf = true) : -9223372036854775808 ≤ a ∧ a ≤ 9223372036854775807 := by
  have h1 : IntKind.i64.min = -9223372036854775808 := by decide
  have h2 : IntKind.i64.max = 9223372036854775807 := by decide
  simp [Lit.wf] at h; omega
end
end Go.Proofs.YtnoacoppinkloaaDoor.Pr
