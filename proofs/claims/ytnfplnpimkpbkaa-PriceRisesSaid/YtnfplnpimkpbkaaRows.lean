/-
  No cell of these rows narrows 'for every input' (looked for: loops, veiled, ifaces, maps, wideKeys, modest, calm, conditions, laid).
  DERIVED. THE GIVEN ROWS OF THIS SEAT. 8 by the template 'for every input the law returns true; each argument reads behind the call as it read before'; 0 by the template 'total and deterministic' (their statements: YtnfplnpimkpbkaaTotals.lean).
  GIVEN WITH THE SEED: the statements are not yours to turn. If you find one false, say at which input.
  Laid BY PROGRAM, IN A SANDBOX (cutbox-rows.mjs): the forced cells as the released guide's own fill.sh prints them over the translation 835596acf591add8… (all of the seat's roots in one cut). By AI agents, Wed Nov 11 2026. No macro, syntax, notation, axiom, sorry.
-/
import Derived.Test.YtnfplnpimkpbkaaChecked
import GoSem.Claim
import GoSem.ClaimJoined
import GoSem.ClaimMapViews
import Derived.JoinedTies
import Derived.KernelRfl
namespace Go.Proofs.Ytnfplnpimkpbkaa
/- THE CELL 'sum', in the pinned program and in every row, IS THE sha256 OF THE DUMP (.gsa) THAT YtnfplnpimkpbkaaProg.lean LOADS. Nothing in Lean hashes anything: it is a label: what it is worth is what the hold of that sum in a sandbox is worth. -/
noncomputable def Try.pinned : Pinned := { name := "ytnfplnpimkpbkaa", sum := "835596acf591add88b9d8783fa495b64381c50e1d2d5e288c39bbad099c994d4", checked := Try.checked }
namespace Rows
def none {H : Type} : Left H := { results := [], args := [] }

/-- 'skiarealaw23.PriceChecks': WHATEVER THE INPUT: true; the input reads as it did. -/
def priceChecksSpec : ChangeSpec := { name := "priceChecks", fn := fun _ => fun
  | [d] => { results := [.lit (.bool true)], args := [d] }
  | _ => none }
def priceChecksRow : OpenClaim := { program := "ytnfplnpimkpbkaa", sum := "835596acf591add88b9d8783fa495b64381c50e1d2d5e288c39bbad099c994d4", func := "skiarea/skiarealaw23.PriceChecks", spec := "priceChecks", inPlace := ["math/bits.Add64"], named := ["math/bits.divideError", "math/bits.overflowError"], apart := false }
def PriceChecksSaid : Prop := priceChecksRow.holds Try.pinned (OpenSpec.ofChange priceChecksSpec)

/-- ITS FALSE NEIGHBOUR: 'it returns false'. Refute it at one input. -/
def priceChecksWrong : ChangeSpec := { name := "priceChecks", fn := fun _ => fun
  | [d] => { results := [.lit (.bool false)], args := [d] }
  | _ => none }
def PriceChecksWrongFalsely : Prop := priceChecksRow.holds Try.pinned (OpenSpec.ofChange priceChecksWrong)

/-- 'skiarealaw23.PriceFactors': WHATEVER THE INPUT: true; the input reads as it did. -/
def priceFactorsSpec : ChangeSpec := { name := "priceFactors", fn := fun _ => fun
  | [d1, d2, d3] => { results := [.lit (.bool true)], args := [d1, d2, d3] }
  | _ => none }
def priceFactorsRow : OpenClaim := { program := "ytnfplnpimkpbkaa", sum := "835596acf591add88b9d8783fa495b64381c50e1d2d5e288c39bbad099c994d4", func := "skiarea/skiarealaw23.PriceFactors", spec := "priceFactors", inPlace := ["math/bits.Add64"], named := ["math/bits.divideError", "math/bits.overflowError"], apart := false }
def PriceFactorsSaid : Prop := priceFactorsRow.holds Try.pinned (OpenSpec.ofChange priceFactorsSpec)

/-- ITS FALSE NEIGHBOUR: 'it returns false'. Refute it at one input. -/
def priceFactorsWrong : ChangeSpec := { name := "priceFactors", fn := fun _ => fun
  | [d1, d2, d3] => { results := [.lit (.bool false)], args := [d1, d2, d3] }
  | _ => none }
def PriceFactorsWrongFalsely : Prop := priceFactorsRow.holds Try.pinned (OpenSpec.ofChange priceFactorsWrong)

/-- 'skiarealaw23.PriceQuotes': WHATEVER THE INPUT: true; the input reads as it did. -/
def priceQuotesSpec : ChangeSpec := { name := "priceQuotes", fn := fun _ => fun
  | [d1, d2, d3, d4] => { results := [.lit (.bool true)], args := [d1, d2, d3, d4] }
  | _ => none }
def priceQuotesRow : OpenClaim := { program := "ytnfplnpimkpbkaa", sum := "835596acf591add88b9d8783fa495b64381c50e1d2d5e288c39bbad099c994d4", func := "skiarea/skiarealaw23.PriceQuotes", spec := "priceQuotes", inPlace := ["math/bits.Add64"], named := ["math/bits.divideError", "math/bits.overflowError"], apart := false }
def PriceQuotesSaid : Prop := priceQuotesRow.holds Try.pinned (OpenSpec.ofChange priceQuotesSpec)

/-- ITS FALSE NEIGHBOUR: 'it returns false'. Refute it at one input. -/
def priceQuotesWrong : ChangeSpec := { name := "priceQuotes", fn := fun _ => fun
  | [d1, d2, d3, d4] => { results := [.lit (.bool false)], args := [d1, d2, d3, d4] }
  | _ => none }
def PriceQuotesWrongFalsely : Prop := priceQuotesRow.holds Try.pinned (OpenSpec.ofChange priceQuotesWrong)

/-- 'skiarealaw23.PriceDays': WHATEVER THE INPUT: true; the input reads as it did. -/
def priceDaysSpec : ChangeSpec := { name := "priceDays", fn := fun _ => fun
  | [d1, d2, d3, d4] => { results := [.lit (.bool true)], args := [d1, d2, d3, d4] }
  | _ => none }
def priceDaysRow : OpenClaim := { program := "ytnfplnpimkpbkaa", sum := "835596acf591add88b9d8783fa495b64381c50e1d2d5e288c39bbad099c994d4", func := "skiarea/skiarealaw23.PriceDays", spec := "priceDays", inPlace := ["math/bits.Add64"], named := ["math/bits.divideError", "math/bits.overflowError"], apart := false }
def PriceDaysSaid : Prop := priceDaysRow.holds Try.pinned (OpenSpec.ofChange priceDaysSpec)

/-- ITS FALSE NEIGHBOUR: 'it returns false'. Refute it at one input. -/
def priceDaysWrong : ChangeSpec := { name := "priceDays", fn := fun _ => fun
  | [d1, d2, d3, d4] => { results := [.lit (.bool false)], args := [d1, d2, d3, d4] }
  | _ => none }
def PriceDaysWrongFalsely : Prop := priceDaysRow.holds Try.pinned (OpenSpec.ofChange priceDaysWrong)

/-- 'skiarealaw23.PriceRises': WHATEVER THE INPUT: true; the input reads as it did. -/
def priceRisesSpec : ChangeSpec := { name := "priceRises", fn := fun _ => fun
  | [d1, d2, d3, d4] => { results := [.lit (.bool true)], args := [d1, d2, d3, d4] }
  | _ => none }
def priceRisesRow : OpenClaim := { program := "ytnfplnpimkpbkaa", sum := "835596acf591add88b9d8783fa495b64381c50e1d2d5e288c39bbad099c994d4", func := "skiarea/skiarealaw23.PriceRises", spec := "priceRises", inPlace := ["math/bits.Add64"], named := ["math/bits.divideError", "math/bits.overflowError"], apart := false }
def PriceRisesSaid : Prop := priceRisesRow.holds Try.pinned (OpenSpec.ofChange priceRisesSpec)

/-- ITS FALSE NEIGHBOUR: 'it returns false'. Refute it at one input. -/
def priceRisesWrong : ChangeSpec := { name := "priceRises", fn := fun _ => fun
  | [d1, d2, d3, d4] => { results := [.lit (.bool false)], args := [d1, d2, d3, d4] }
  | _ => none }
def PriceRisesWrongFalsely : Prop := priceRisesRow.holds Try.pinned (OpenSpec.ofChange priceRisesWrong)

/-- 'skiarealaw23.PriceBases': WHATEVER THE INPUT: true; the input reads as it did. -/
def priceBasesSpec : ChangeSpec := { name := "priceBases", fn := fun _ => fun
  | [d1, d2, d3, d4] => { results := [.lit (.bool true)], args := [d1, d2, d3, d4] }
  | _ => none }
def priceBasesRow : OpenClaim := { program := "ytnfplnpimkpbkaa", sum := "835596acf591add88b9d8783fa495b64381c50e1d2d5e288c39bbad099c994d4", func := "skiarea/skiarealaw23.PriceBases", spec := "priceBases", inPlace := ["math/bits.Add64"], named := ["math/bits.divideError", "math/bits.overflowError"], apart := false }
def PriceBasesSaid : Prop := priceBasesRow.holds Try.pinned (OpenSpec.ofChange priceBasesSpec)

/-- ITS FALSE NEIGHBOUR: 'it returns false'. Refute it at one input. -/
def priceBasesWrong : ChangeSpec := { name := "priceBases", fn := fun _ => fun
  | [d1, d2, d3, d4] => { results := [.lit (.bool false)], args := [d1, d2, d3, d4] }
  | _ => none }
def PriceBasesWrongFalsely : Prop := priceBasesRow.holds Try.pinned (OpenSpec.ofChange priceBasesWrong)

/-- 'skiarealaw23.PricePlain': WHATEVER THE INPUT: true; the input reads as it did. -/
def pricePlainSpec : ChangeSpec := { name := "pricePlain", fn := fun _ => fun
  | [d1, d2, d3, d4, d5, d6] => { results := [.lit (.bool true)], args := [d1, d2, d3, d4, d5, d6] }
  | _ => none }
def pricePlainRow : OpenClaim := { program := "ytnfplnpimkpbkaa", sum := "835596acf591add88b9d8783fa495b64381c50e1d2d5e288c39bbad099c994d4", func := "skiarea/skiarealaw23.PricePlain", spec := "pricePlain", inPlace := ["math/bits.Add64"], named := ["math/bits.divideError", "math/bits.overflowError"], apart := false }
def PricePlainSaid : Prop := pricePlainRow.holds Try.pinned (OpenSpec.ofChange pricePlainSpec)

/-- ITS FALSE NEIGHBOUR: 'it returns false'. Refute it at one input. -/
def pricePlainWrong : ChangeSpec := { name := "pricePlain", fn := fun _ => fun
  | [d1, d2, d3, d4, d5, d6] => { results := [.lit (.bool false)], args := [d1, d2, d3, d4, d5, d6] }
  | _ => none }
def PricePlainWrongFalsely : Prop := pricePlainRow.holds Try.pinned (OpenSpec.ofChange pricePlainWrong)

/-- 'skiarealaw23.PriceCheapest': WHATEVER THE INPUT: true; the input reads as it did. -/
def priceCheapestSpec : ChangeSpec := { name := "priceCheapest", fn := fun _ => fun
  | [d1, d2, d3, d4] => { results := [.lit (.bool true)], args := [d1, d2, d3, d4] }
  | _ => none }
def priceCheapestRow : OpenClaim := { program := "ytnfplnpimkpbkaa", sum := "835596acf591add88b9d8783fa495b64381c50e1d2d5e288c39bbad099c994d4", func := "skiarea/skiarealaw23.PriceCheapest", spec := "priceCheapest", inPlace := ["math/bits.Add64"], named := ["math/bits.divideError", "math/bits.overflowError"], apart := false }
def PriceCheapestSaid : Prop := priceCheapestRow.holds Try.pinned (OpenSpec.ofChange priceCheapestSpec)

/-- ITS FALSE NEIGHBOUR: 'it returns false'. Refute it at one input. -/
def priceCheapestWrong : ChangeSpec := { name := "priceCheapest", fn := fun _ => fun
  | [d1, d2, d3, d4] => { results := [.lit (.bool false)], args := [d1, d2, d3, d4] }
  | _ => none }
def PriceCheapestWrongFalsely : Prop := priceCheapestRow.holds Try.pinned (OpenSpec.ofChange priceCheapestWrong)

/- THE SECOND FORM. 'bulk': how many values and letters a reading holds, each counted each time it is reached (what is shared counts as often as it is met; a slice's spare places count too). A statement '..UptoSaid' is the law's where the arguments, and the package variables that the reading takes, are together of bulk at most 1048576: NARROWER than '..Said'. Prove '..Said' where nothing that the law and all that it calls make is longer than what came in: it says more and counts as full. Else prove '..UptoSaid'. A law counts once. -/
mutual
def uptoBulk {H : Type} : DataW H → Nat
  | .lit (.string bytes) => bytes.length + 1
  | .lit _ => 1
  | .nil => 1
  | .ptr d => uptoBulk d + 1
  | .slice elems spare => uptoBulkAll elems + uptoBulkAll spare + 1
  | .agg parts => uptoBulkAll parts + 1
  | .iface _ d => uptoBulk d + 1
  | .map entries => uptoBulkEntries entries + 1
  | .held _ => 1
def uptoBulkAll {H : Type} : List (DataW H) → Nat
  | [] => 0
  | d :: r => uptoBulk d + uptoBulkAll r
def uptoBulkEntries {H : Type} : List (Lit × DataW H) → Nat
  | [] => 0
  | x :: r => uptoBulkEntry x + uptoBulkEntries r
def uptoBulkEntry {H : Type} : Lit × DataW H → Nat
  | (.string bytes, d) => bytes.length + uptoBulk d + 1
  | (_, d) => uptoBulk d + 1
 end
def uptoSmall : (H : Type) → List (DataW H) → Bool := fun _ ds => decide (uptoBulkAll ds ≤ 1048576)
def OpenSpec.upto (s : _root_.Go.ChangeSpec) : _root_.Go.OpenSpec := { _root_.Go.OpenSpec.ofChange s with cond := some uptoSmall }

/-- 'skiarealaw23.PriceChecks', WHERE WHAT IT READS IS OF BULK AT MOST 1048576: true; the input reads as it did. -/
def priceChecksUptoRow : OpenClaim := { program := "ytnfplnpimkpbkaa", sum := "835596acf591add88b9d8783fa495b64381c50e1d2d5e288c39bbad099c994d4", func := "skiarea/skiarealaw23.PriceChecks", spec := "priceChecks", inPlace := ["math/bits.Add64"], named := ["math/bits.divideError", "math/bits.overflowError"], apart := false, narrowed := true }
def PriceChecksUptoSaid : Prop := priceChecksUptoRow.holds Try.pinned (OpenSpec.upto priceChecksSpec)

/-- 'skiarealaw23.PriceFactors', WHERE WHAT IT READS IS OF BULK AT MOST 1048576: true; the input reads as it did. -/
def priceFactorsUptoRow : OpenClaim := { program := "ytnfplnpimkpbkaa", sum := "835596acf591add88b9d8783fa495b64381c50e1d2d5e288c39bbad099c994d4", func := "skiarea/skiarealaw23.PriceFactors", spec := "priceFactors", inPlace := ["math/bits.Add64"], named := ["math/bits.divideError", "math/bits.overflowError"], apart := false, narrowed := true }
def PriceFactorsUptoSaid : Prop := priceFactorsUptoRow.holds Try.pinned (OpenSpec.upto priceFactorsSpec)

/-- 'skiarealaw23.PriceQuotes', WHERE WHAT IT READS IS OF BULK AT MOST 1048576: true; the input reads as it did. -/
def priceQuotesUptoRow : OpenClaim := { program := "ytnfplnpimkpbkaa", sum := "835596acf591add88b9d8783fa495b64381c50e1d2d5e288c39bbad099c994d4", func := "skiarea/skiarealaw23.PriceQuotes", spec := "priceQuotes", inPlace := ["math/bits.Add64"], named := ["math/bits.divideError", "math/bits.overflowError"], apart := false, narrowed := true }
def PriceQuotesUptoSaid : Prop := priceQuotesUptoRow.holds Try.pinned (OpenSpec.upto priceQuotesSpec)

/-- 'skiarealaw23.PriceDays', WHERE WHAT IT READS IS OF BULK AT MOST 1048576: true; the input reads as it did. -/
def priceDaysUptoRow : OpenClaim := { program := "ytnfplnpimkpbkaa", sum := "835596acf591add88b9d8783fa495b64381c50e1d2d5e288c39bbad099c994d4", func := "skiarea/skiarealaw23.PriceDays", spec := "priceDays", inPlace := ["math/bits.Add64"], named := ["math/bits.divideError", "math/bits.overflowError"], apart := false, narrowed := true }
def PriceDaysUptoSaid : Prop := priceDaysUptoRow.holds Try.pinned (OpenSpec.upto priceDaysSpec)

/-- 'skiarealaw23.PriceRises', WHERE WHAT IT READS IS OF BULK AT MOST 1048576: true; the input reads as it did. -/
def priceRisesUptoRow : OpenClaim := { program := "ytnfplnpimkpbkaa", sum := "835596acf591add88b9d8783fa495b64381c50e1d2d5e288c39bbad099c994d4", func := "skiarea/skiarealaw23.PriceRises", spec := "priceRises", inPlace := ["math/bits.Add64"], named := ["math/bits.divideError", "math/bits.overflowError"], apart := false, narrowed := true }
def PriceRisesUptoSaid : Prop := priceRisesUptoRow.holds Try.pinned (OpenSpec.upto priceRisesSpec)

/-- 'skiarealaw23.PriceBases', WHERE WHAT IT READS IS OF BULK AT MOST 1048576: true; the input reads as it did. -/
def priceBasesUptoRow : OpenClaim := { program := "ytnfplnpimkpbkaa", sum := "835596acf591add88b9d8783fa495b64381c50e1d2d5e288c39bbad099c994d4", func := "skiarea/skiarealaw23.PriceBases", spec := "priceBases", inPlace := ["math/bits.Add64"], named := ["math/bits.divideError", "math/bits.overflowError"], apart := false, narrowed := true }
def PriceBasesUptoSaid : Prop := priceBasesUptoRow.holds Try.pinned (OpenSpec.upto priceBasesSpec)

/-- 'skiarealaw23.PricePlain', WHERE WHAT IT READS IS OF BULK AT MOST 1048576: true; the input reads as it did. -/
def pricePlainUptoRow : OpenClaim := { program := "ytnfplnpimkpbkaa", sum := "835596acf591add88b9d8783fa495b64381c50e1d2d5e288c39bbad099c994d4", func := "skiarea/skiarealaw23.PricePlain", spec := "pricePlain", inPlace := ["math/bits.Add64"], named := ["math/bits.divideError", "math/bits.overflowError"], apart := false, narrowed := true }
def PricePlainUptoSaid : Prop := pricePlainUptoRow.holds Try.pinned (OpenSpec.upto pricePlainSpec)

/-- 'skiarealaw23.PriceCheapest', WHERE WHAT IT READS IS OF BULK AT MOST 1048576: true; the input reads as it did. -/
def priceCheapestUptoRow : OpenClaim := { program := "ytnfplnpimkpbkaa", sum := "835596acf591add88b9d8783fa495b64381c50e1d2d5e288c39bbad099c994d4", func := "skiarea/skiarealaw23.PriceCheapest", spec := "priceCheapest", inPlace := ["math/bits.Add64"], named := ["math/bits.divideError", "math/bits.overflowError"], apart := false, narrowed := true }
def PriceCheapestUptoSaid : Prop := priceCheapestUptoRow.holds Try.pinned (OpenSpec.upto priceCheapestSpec)

end Rows
end Go.Proofs.Ytnfplnpimkpbkaa
