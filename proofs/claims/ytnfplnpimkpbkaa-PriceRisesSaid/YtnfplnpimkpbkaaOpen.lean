/- What comes in: points and rules, opened. -/
import Derived.Test.YtnfplnpimkpbkaaPr1
import Derived.Deep.Slices
import Derived.Deep.Fields
import Derived.ChangeSame
import Derived.Lib.SmallJoins
import Derived.ProofKit
namespace Go.Proofs.Ytnfplnpimkpbkaa.Pr
open Go.RowKit Go.Proofs.YtnfplnpimkpbkaaW.PrintWords Go.Proofs.YtnfplnpimkpbkaaW.PrintLast Go.Proofs.YtnfplnpimkpbkaaW.PrintMore
set_option linter.unusedVariables false
set_option linter.unusedSimpArgs false
/-! ### What comes in: points, a rule -/
section
open Go.ChangeShapes Go.WideShapes
def numAt (w : World) (a : Addr) : Int := match w.cell? a with | some (.int _ n) => n | _ => 0
variable {H : Type} {enc : TypeId × Value → H} {w : World} {spare : Nat → Bool} {held : Bool} {base : Nat}
theorem open_points {fuel : Nat} {cs : List Value} {x : DataW H × List MemPlace} (h : DataW.trod enc Try.prog w 0 spare held fuel 22 cs = some x) :
    ∃ (A : Option Addr) (l : List S44) (c : Nat), cs = [.slice A l.length c] ∧ l.length ≤ c ∧ Kd.C k44 w A l.length l := by
  rcases Deep.open_slice Try.underlying22 h with ⟨rfl, _⟩ | ⟨a, len, cap, m, n, D, Pl, rfl, _, hl, hm, hmm, _, hi⟩
  · exact ⟨none, [], 0, rfl, Nat.le_refl _, Kd.C_nil _ _⟩
  · have hcell : ∀ i, i < len → w.cell? (a.add (i * 2)) = some (.int .i64 (numAt w (a.add (i * 2)))) ∧ w.cell? (a.add (i * 2 + 1)) = some (.int .i64 (numAt w (a.add (i * 2 + 1)))) := by
      intro i hlt
      have hC : Try.prog.cellsOf 44 = 2 := by kernel_rfl
      have hC3 : Try.prog.cellsOf 3 = 1 := by kernel_rfl
      obtain ⟨cs', hc, ht⟩ := hi i (by rw [hmm]; split <;> omega)
      rw [hC] at hc
      obtain ⟨_, hcl, hat⟩ := World.cells?_some hc
      obtain ⟨ys, n', _, _, _, _, hf⟩ := DataW.trod_struct Try.underlying44 ht
      match cs', hcl with
      | [c0, c1], _ =>
        have f0 : DataW.trod enc Try.prog w 0 spare held n' 3 [c0] = ys[0]? := by simpa [hC3] using hf 0 _ rfl
        have f1 : DataW.trod enc Try.prog w 0 spare held n' 3 [c1] = ys[1]? := by simpa [hC3] using hf 1 _ rfl
        have yl : ys.length = 2 := by assumption
        rw [List.getElem?_eq_getElem (by omega)] at f0 f1
        obtain ⟨n0, e0, _, _⟩ := DataW.trod_int Try.underlying3 f0
        obtain ⟨n1, e1, _, _⟩ := DataW.trod_int Try.underlying3 f1
        obtain rfl : c0 = .int .i64 n0 := by simpa using e0
        obtain rfl : c1 = .int .i64 n1 := by simpa using e1
        have h0 := hat 0 (by omega)
        have h1 := hat 1 (by omega)
        rw [add_add] at h0 h1
        simp only [Nat.add_zero, List.getElem?_cons_zero, List.getElem?_cons_succ] at h0 h1
        unfold numAt
        rw [h0, h1]
        exact ⟨rfl, rfl⟩
    have el : ((List.range len).map fun i => (⟨numAt w (a.add (i * 2)), numAt w (a.add (i * 2 + 1))⟩ : S44)).length = len := by simp
    refine ⟨some a, (List.range len).map fun i => ⟨numAt w (a.add (i * 2)), numAt w (a.add (i * 2 + 1))⟩, cap, by rw [el], by rw [el]; exact hl, ?_⟩
    rw [el]
    refine ⟨el, by unfold maxLen at hm; omega, fun hn => ⟨a, rfl, fun j p hj => ?_⟩⟩
    obtain ⟨hjl, hjp⟩ := List.getElem?_eq_some_iff.1 hj
    rw [el] at hjl
    obtain ⟨h0, h1⟩ := hcell j hjl
    obtain rfl : (⟨numAt w (a.add (j * 2)), numAt w (a.add (j * 2 + 1))⟩ : S44) = p := by rw [← hjp]; simp
    refine ⟨_, rfl, k44_mk w _, fun i u hu => ?_⟩
    match i, hu with
    | 0, hu => obtain rfl := Option.some.inj hu; exact h0
    | 1, hu => obtain rfl := Option.some.inj hu; exact h1
    | i + 2, hu => simp at hu

theorem open_pricing {v : Value} {d : DataW H} {p : List MemPlace} (hv : Value.okWide Try.prog w .any base 24 v) (h : DataW.Trod enc Try.prog w 0 spare held 24 v d p) :
    ∃ (L M S : Int) (A3 A4 : Option Addr) (l3 l4 : List S44) (c3 c4 : Nat), v = .agg #[.int .i64 L, .int .i64 M, .int .i64 S, .slice A3 l3.length c3, .slice A4 l4.length c4] ∧
      l3.length ≤ c3 ∧ Kd.C k44 w A3 l3.length l3 ∧ l4.length ≤ c4 ∧ Kd.C k44 w A4 l4.length l4 := by
  obtain ⟨cs, rfl, hsz⟩ := okWide_struct Try.underlying24 hv
  have hC : Try.prog.cellsOf 24 = 5 := by kernel_rfl
  have hC3 : Try.prog.cellsOf 3 = 1 := by kernel_rfl
  have hC22 : Try.prog.cellsOf 22 = 1 := by kernel_rfl
  rw [hC] at hsz
  obtain ⟨cs⟩ := cs
  match cs, hsz with
  | [c0, c1, c2, c3, c4], _ =>
    obtain ⟨fuel, hf⟩ := h
    obtain ⟨xs, n, _, _, _, hlen, hg⟩ := DataW.trod_struct Try.underlying24 hf
    have yl : xs.length = 5 := by simpa using hlen
    have f0 : DataW.trod enc Try.prog w 0 spare held n 3 [c0] = xs[0]? := by simpa [hC3, Value.cells] using hg 0 _ rfl
    have f1 : DataW.trod enc Try.prog w 0 spare held n 3 [c1] = xs[1]? := by simpa [hC3, Value.cells] using hg 1 _ rfl
    have f2 : DataW.trod enc Try.prog w 0 spare held n 3 [c2] = xs[2]? := by simpa [hC3, Value.cells] using hg 2 _ rfl
    have f3 : DataW.trod enc Try.prog w 0 spare held n 22 [c3] = xs[3]? := by simpa [hC22, Value.cells] using hg 3 _ rfl
    have f4 : DataW.trod enc Try.prog w 0 spare held n 22 [c4] = xs[4]? := by simpa [hC22, Value.cells] using hg 4 _ rfl
    rw [List.getElem?_eq_getElem (by omega)] at f0 f1 f2 f3 f4
    obtain ⟨n0, e0, _, _⟩ := DataW.trod_int Try.underlying3 f0
    obtain ⟨n1, e1, _, _⟩ := DataW.trod_int Try.underlying3 f1
    obtain ⟨n2, e2, _, _⟩ := DataW.trod_int Try.underlying3 f2
    obtain ⟨A3, l3, k3, e3, h3, r3⟩ := open_points f3
    obtain ⟨A4, l4, k4, e4, h4, r4⟩ := open_points f4
    simp only [List.cons.injEq, and_true] at e0 e1 e2 e3 e4
    subst e0 e1 e2 e3 e4
    exact ⟨n0, n1, n2, A3, A4, l3, l4, k3, k4, rfl, h3, r3, h4, r4⟩
end
end Go.Proofs.Ytnfplnpimkpbkaa.Pr
