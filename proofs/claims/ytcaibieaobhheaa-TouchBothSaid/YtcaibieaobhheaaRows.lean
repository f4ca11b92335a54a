/-
  No cell of these rows narrows 'for every input' (looked for: loops, veiled, ifaces, maps, wideKeys, modest, calm, conditions, laid).
  DERIVED. THE GIVEN ROWS OF THIS SEAT. 12 by the template 'for every input the law returns true; each argument reads behind the call as it read before'; 0 by the template 'total and deterministic' (their statements: YtcaibieaobhheaaTotals.lean).
  GIVEN WITH THE SEED: the statements are not yours to turn. If you find one false, say at which input.
  Laid BY PROGRAM, IN A SANDBOX (cutbox-rows.mjs): the forced cells as the released guide's own fill.sh prints them over the translation 659512a9ab326727… (all of the seat's roots in one cut). By AI agents, Wed Nov 11 2026. No macro, syntax, notation, axiom, sorry.
-/
import Derived.Test.YtcaibieaobhheaaChecked
import GoSem.Claim
import GoSem.ClaimJoined
import GoSem.ClaimMapViews
import Derived.JoinedTies
import Derived.KernelRfl
namespace Go.Proofs.Ytcaibieaobhheaa
/- THE CELL 'sum', in the pinned program and in every row, IS THE sha256 OF THE DUMP (.gsa) THAT YtcaibieaobhheaaProg.lean LOADS. Nothing in Lean hashes anything: it is a label: what it is worth is what the hold of that sum in a sandbox is worth. -/
noncomputable def Try.pinned : Pinned := { name := "ytcaibieaobhheaa", sum := "659512a9ab3267277a757aab25315873f41f044395e7a4bbfe1157f6b5ef3ced", checked := Try.checked }
namespace Rows
def none {H : Type} : Left H := { results := [], args := [] }

/-- 'maquettelaw10.TouchMoves': WHATEVER THE INPUT: true; the input reads as it did. -/
def touchMovesSpec : ChangeSpec := { name := "touchMoves", fn := fun _ => fun
  | [d1, d2, d3] => { results := [.lit (.bool true)], args := [d1, d2, d3] }
  | _ => none }
def touchMovesRow : OpenClaim := { program := "ytcaibieaobhheaa", sum := "659512a9ab3267277a757aab25315873f41f044395e7a4bbfe1157f6b5ef3ced", func := "maquette/maquettelaw10.TouchMoves", spec := "touchMoves", inPlace := ["math/bits.Add64"], unfollowed := true, recurses := true, named := ["math/bits.divideError", "math/bits.overflowError"], apart := false }
def TouchMovesSaid : Prop := touchMovesRow.holds Try.pinned (OpenSpec.ofChange touchMovesSpec)

/-- ITS FALSE NEIGHBOUR: 'it returns false'. Refute it at one input. -/
def touchMovesWrong : ChangeSpec := { name := "touchMoves", fn := fun _ => fun
  | [d1, d2, d3] => { results := [.lit (.bool false)], args := [d1, d2, d3] }
  | _ => none }
def TouchMovesWrongFalsely : Prop := touchMovesRow.holds Try.pinned (OpenSpec.ofChange touchMovesWrong)

/-- 'maquettelaw10.TouchBoth': WHATEVER THE INPUT: true; the input reads as it did. -/
def touchBothSpec : ChangeSpec := { name := "touchBoth", fn := fun _ => fun
  | [d1, d2] => { results := [.lit (.bool true)], args := [d1, d2] }
  | _ => none }
def touchBothRow : OpenClaim := { program := "ytcaibieaobhheaa", sum := "659512a9ab3267277a757aab25315873f41f044395e7a4bbfe1157f6b5ef3ced", func := "maquette/maquettelaw10.TouchBoth", spec := "touchBoth", inPlace := ["math/bits.Add64"], unfollowed := true, recurses := true, named := ["math/bits.divideError", "math/bits.overflowError"], apart := false }
def TouchBothSaid : Prop := touchBothRow.holds Try.pinned (OpenSpec.ofChange touchBothSpec)

/-- ITS FALSE NEIGHBOUR: 'it returns false'. Refute it at one input. -/
def touchBothWrong : ChangeSpec := { name := "touchBoth", fn := fun _ => fun
  | [d1, d2] => { results := [.lit (.bool false)], args := [d1, d2] }
  | _ => none }
def TouchBothWrongFalsely : Prop := touchBothRow.holds Try.pinned (OpenSpec.ofChange touchBothWrong)

/-- 'maquettelaw10.TouchFar': WHATEVER THE INPUT: true; the input reads as it did. -/
def touchFarSpec : ChangeSpec := { name := "touchFar", fn := fun _ => fun
  | [d1, d2, d3] => { results := [.lit (.bool true)], args := [d1, d2, d3] }
  | _ => none }
def touchFarRow : OpenClaim := { program := "ytcaibieaobhheaa", sum := "659512a9ab3267277a757aab25315873f41f044395e7a4bbfe1157f6b5ef3ced", func := "maquette/maquettelaw10.TouchFar", spec := "touchFar", inPlace := ["math/bits.Add64"], unfollowed := true, recurses := true, named := ["math/bits.divideError", "math/bits.overflowError"], apart := false }
def TouchFarSaid : Prop := touchFarRow.holds Try.pinned (OpenSpec.ofChange touchFarSpec)

/-- ITS FALSE NEIGHBOUR: 'it returns false'. Refute it at one input. -/
def touchFarWrong : ChangeSpec := { name := "touchFar", fn := fun _ => fun
  | [d1, d2, d3] => { results := [.lit (.bool false)], args := [d1, d2, d3] }
  | _ => none }
def TouchFarWrongFalsely : Prop := touchFarRow.holds Try.pinned (OpenSpec.ofChange touchFarWrong)

/-- 'maquettelaw11.PushApart': WHATEVER THE INPUT: true; the input reads as it did. -/
def pushApartSpec : ChangeSpec := { name := "pushApart", fn := fun _ => fun
  | [d1, d2, d3] => { results := [.lit (.bool true)], args := [d1, d2, d3] }
  | _ => none }
def pushApartRow : OpenClaim := { program := "ytcaibieaobhheaa", sum := "659512a9ab3267277a757aab25315873f41f044395e7a4bbfe1157f6b5ef3ced", func := "maquette/maquettelaw11.PushApart", spec := "pushApart", unfollowed := true, recurses := true, named := ["math/bits.divideError", "math/bits.overflowError"], apart := false }
def PushApartSaid : Prop := pushApartRow.holds Try.pinned (OpenSpec.ofChange pushApartSpec)

/-- ITS FALSE NEIGHBOUR: 'it returns false'. Refute it at one input. -/
def pushApartWrong : ChangeSpec := { name := "pushApart", fn := fun _ => fun
  | [d1, d2, d3] => { results := [.lit (.bool false)], args := [d1, d2, d3] }
  | _ => none }
def PushApartWrongFalsely : Prop := pushApartRow.holds Try.pinned (OpenSpec.ofChange pushApartWrong)

/-- 'maquettelaw11.PushSlows': WHATEVER THE INPUT: true; the input reads as it did. -/
def pushSlowsSpec : ChangeSpec := { name := "pushSlows", fn := fun _ => fun
  | [d1, d2, d3, d4] => { results := [.lit (.bool true)], args := [d1, d2, d3, d4] }
  | _ => none }
def pushSlowsRow : OpenClaim := { program := "ytcaibieaobhheaa", sum := "659512a9ab3267277a757aab25315873f41f044395e7a4bbfe1157f6b5ef3ced", func := "maquette/maquettelaw11.PushSlows", spec := "pushSlows", unfollowed := true, recurses := true, named := ["math/bits.divideError", "math/bits.overflowError"], apart := false }
def PushSlowsSaid : Prop := pushSlowsRow.holds Try.pinned (OpenSpec.ofChange pushSlowsSpec)

/-- ITS FALSE NEIGHBOUR: 'it returns false'. Refute it at one input. -/
def pushSlowsWrong : ChangeSpec := { name := "pushSlows", fn := fun _ => fun
  | [d1, d2, d3, d4] => { results := [.lit (.bool false)], args := [d1, d2, d3, d4] }
  | _ => none }
def PushSlowsWrongFalsely : Prop := pushSlowsRow.holds Try.pinned (OpenSpec.ofChange pushSlowsWrong)

/-- 'maquettelaw11.PushTells': WHATEVER THE INPUT: true; the input reads as it did. -/
def pushTellsSpec : ChangeSpec := { name := "pushTells", fn := fun _ => fun
  | [d1, d2, d3, d4, d5] => { results := [.lit (.bool true)], args := [d1, d2, d3, d4, d5] }
  | _ => none }
def pushTellsRow : OpenClaim := { program := "ytcaibieaobhheaa", sum := "659512a9ab3267277a757aab25315873f41f044395e7a4bbfe1157f6b5ef3ced", func := "maquette/maquettelaw11.PushTells", spec := "pushTells", inPlace := ["math/bits.Add64"], unfollowed := true, recurses := true, named := ["math/bits.divideError", "math/bits.overflowError"], apart := false }
def PushTellsSaid : Prop := pushTellsRow.holds Try.pinned (OpenSpec.ofChange pushTellsSpec)

/-- ITS FALSE NEIGHBOUR: 'it returns false'. Refute it at one input. -/
def pushTellsWrong : ChangeSpec := { name := "pushTells", fn := fun _ => fun
  | [d1, d2, d3, d4, d5] => { results := [.lit (.bool false)], args := [d1, d2, d3, d4, d5] }
  | _ => none }
def PushTellsWrongFalsely : Prop := pushTellsRow.holds Try.pinned (OpenSpec.ofChange pushTellsWrong)

/-- 'maquettelaw11.PushKeeps': WHATEVER THE INPUT: true; the input reads as it did. -/
def pushKeepsSpec : ChangeSpec := { name := "pushKeeps", fn := fun _ => fun
  | [d1, d2, d3, d4, d5] => { results := [.lit (.bool true)], args := [d1, d2, d3, d4, d5] }
  | _ => none }
def pushKeepsRow : OpenClaim := { program := "ytcaibieaobhheaa", sum := "659512a9ab3267277a757aab25315873f41f044395e7a4bbfe1157f6b5ef3ced", func := "maquette/maquettelaw11.PushKeeps", spec := "pushKeeps", inPlace := ["math/bits.Add64"], unfollowed := true, recurses := true, named := ["math/bits.divideError", "math/bits.overflowError"], apart := false }
def PushKeepsSaid : Prop := pushKeepsRow.holds Try.pinned (OpenSpec.ofChange pushKeepsSpec)

/-- ITS FALSE NEIGHBOUR: 'it returns false'. Refute it at one input. -/
def pushKeepsWrong : ChangeSpec := { name := "pushKeeps", fn := fun _ => fun
  | [d1, d2, d3, d4, d5] => { results := [.lit (.bool false)], args := [d1, d2, d3, d4, d5] }
  | _ => none }
def PushKeepsWrongFalsely : Prop := pushKeepsRow.holds Try.pinned (OpenSpec.ofChange pushKeepsWrong)

/-- 'maquettelaw11.PushFixed': WHATEVER THE INPUT: true; the input reads as it did. -/
def pushFixedSpec : ChangeSpec := { name := "pushFixed", fn := fun _ => fun
  | [d1, d2, d3, d4] => { results := [.lit (.bool true)], args := [d1, d2, d3, d4] }
  | _ => none }
def pushFixedRow : OpenClaim := { program := "ytcaibieaobhheaa", sum := "659512a9ab3267277a757aab25315873f41f044395e7a4bbfe1157f6b5ef3ced", func := "maquette/maquettelaw11.PushFixed", spec := "pushFixed", inPlace := ["math/bits.Add64"], unfollowed := true, recurses := true, named := ["math/bits.divideError", "math/bits.overflowError"], apart := false }
def PushFixedSaid : Prop := pushFixedRow.holds Try.pinned (OpenSpec.ofChange pushFixedSpec)

/-- ITS FALSE NEIGHBOUR: 'it returns false'. Refute it at one input. -/
def pushFixedWrong : ChangeSpec := { name := "pushFixed", fn := fun _ => fun
  | [d1, d2, d3, d4] => { results := [.lit (.bool false)], args := [d1, d2, d3, d4] }
  | _ => none }
def PushFixedWrongFalsely : Prop := pushFixedRow.holds Try.pinned (OpenSpec.ofChange pushFixedWrong)

/-- 'maquettelaw3.CalcPanics': WHATEVER THE INPUT: true; the input reads as it did. -/
def calcPanicsSpec : ChangeSpec := { name := "calcPanics", fn := fun _ => fun
  | [d1, d2] => { results := [.lit (.bool true)], args := [d1, d2] }
  | _ => none }
def calcPanicsRow : OpenClaim := { program := "ytcaibieaobhheaa", sum := "659512a9ab3267277a757aab25315873f41f044395e7a4bbfe1157f6b5ef3ced", func := "maquette/maquettelaw3.CalcPanics", spec := "calcPanics", unfollowed := true, recurses := true, named := ["math/bits.divideError", "math/bits.overflowError"], apart := false }
def CalcPanicsSaid : Prop := calcPanicsRow.holds Try.pinned (OpenSpec.ofChange calcPanicsSpec)

/-- ITS FALSE NEIGHBOUR: 'it returns false'. Refute it at one input. -/
def calcPanicsWrong : ChangeSpec := { name := "calcPanics", fn := fun _ => fun
  | [d1, d2] => { results := [.lit (.bool false)], args := [d1, d2] }
  | _ => none }
def CalcPanicsWrongFalsely : Prop := calcPanicsRow.holds Try.pinned (OpenSpec.ofChange calcPanicsWrong)

/-- 'maquettelaw3.CalcNested': WHATEVER THE INPUT: true; the input reads as it did. -/
def calcNestedSpec : ChangeSpec := { name := "calcNested", fn := fun _ => fun
  | [d1, d2, d3] => { results := [.lit (.bool true)], args := [d1, d2, d3] }
  | _ => none }
def calcNestedRow : OpenClaim := { program := "ytcaibieaobhheaa", sum := "659512a9ab3267277a757aab25315873f41f044395e7a4bbfe1157f6b5ef3ced", func := "maquette/maquettelaw3.CalcNested", spec := "calcNested", unfollowed := true, recurses := true, named := ["math/bits.divideError", "math/bits.overflowError"], apart := false }
def CalcNestedSaid : Prop := calcNestedRow.holds Try.pinned (OpenSpec.ofChange calcNestedSpec)

/-- ITS FALSE NEIGHBOUR: 'it returns false'. Refute it at one input. -/
def calcNestedWrong : ChangeSpec := { name := "calcNested", fn := fun _ => fun
  | [d1, d2, d3] => { results := [.lit (.bool false)], args := [d1, d2, d3] }
  | _ => none }
def CalcNestedWrongFalsely : Prop := calcNestedRow.holds Try.pinned (OpenSpec.ofChange calcNestedWrong)

/-- 'maquettelaw8.BoundsClamps': WHATEVER THE INPUT: true; the input reads as it did. -/
def boundsClampsSpec : ChangeSpec := { name := "boundsClamps", fn := fun _ => fun
  | [d1, d2, d3] => { results := [.lit (.bool true)], args := [d1, d2, d3] }
  | _ => none }
def boundsClampsRow : OpenClaim := { program := "ytcaibieaobhheaa", sum := "659512a9ab3267277a757aab25315873f41f044395e7a4bbfe1157f6b5ef3ced", func := "maquette/maquettelaw8.BoundsClamps", spec := "boundsClamps", unfollowed := true, recurses := true, apart := false }
def BoundsClampsSaid : Prop := boundsClampsRow.holds Try.pinned (OpenSpec.ofChange boundsClampsSpec)

/-- ITS FALSE NEIGHBOUR: 'it returns false'. Refute it at one input. -/
def boundsClampsWrong : ChangeSpec := { name := "boundsClamps", fn := fun _ => fun
  | [d1, d2, d3] => { results := [.lit (.bool false)], args := [d1, d2, d3] }
  | _ => none }
def BoundsClampsWrongFalsely : Prop := boundsClampsRow.holds Try.pinned (OpenSpec.ofChange boundsClampsWrong)

/-- 'maquettelaw7.ShapeSpeeds': WHATEVER THE INPUT: true; the input reads as it did. -/
def shapeSpeedsSpec : ChangeSpec := { name := "shapeSpeeds", fn := fun _ => fun
  | [d1, d2] => { results := [.lit (.bool true)], args := [d1, d2] }
  | _ => none }
def shapeSpeedsRow : OpenClaim := { program := "ytcaibieaobhheaa", sum := "659512a9ab3267277a757aab25315873f41f044395e7a4bbfe1157f6b5ef3ced", func := "maquette/maquettelaw7.ShapeSpeeds", spec := "shapeSpeeds", unfollowed := true, recurses := true, named := ["math/bits.divideError", "math/bits.overflowError"], apart := false }
def ShapeSpeedsSaid : Prop := shapeSpeedsRow.holds Try.pinned (OpenSpec.ofChange shapeSpeedsSpec)

/-- ITS FALSE NEIGHBOUR: 'it returns false'. Refute it at one input. -/
def shapeSpeedsWrong : ChangeSpec := { name := "shapeSpeeds", fn := fun _ => fun
  | [d1, d2] => { results := [.lit (.bool false)], args := [d1, d2] }
  | _ => none }
def ShapeSpeedsWrongFalsely : Prop := shapeSpeedsRow.holds Try.pinned (OpenSpec.ofChange shapeSpeedsWrong)

/- THE SECOND FORM. 'bulk': how many values and letters a reading holds, each counted each time it is reached (what is shared counts as often as it is met; a slice's spare places count too). A statement '..UptoSaid' is the law's where the arguments, and the package variables that the reading takes, are together of bulk at most 1048576: NARROWER than '..Said'. Prove '..Said' where nothing that the law and all that it calls make is longer than what came in: it says more and counts as full. Else prove '..UptoSaid'. A law counts once. -/
mutual
def uptoBulk {H : Type} : DataW H → Nat
  | .lit (.string bytes) => bytes.length + 1
  | .lit _ => 1
  | .nil => 1
  | .ptr d => uptoBulk d + 1
  | .slice elems spare => uptoBulkAll elems + uptoBulkAll spare + 1
  | .agg parts => uptoBulkAll parts + 1
  | .iface _ d => uptoBulk d + 1
  | .map entries => uptoBulkEntries entries + 1
  | .held _ => 1
def uptoBulkAll {H : Type} : List (DataW H) → Nat
  | [] => 0
  | d :: r => uptoBulk d + uptoBulkAll r
def uptoBulkEntries {H : Type} : List (Lit × DataW H) → Nat
  | [] => 0
  | x :: r => uptoBulkEntry x + uptoBulkEntries r
def uptoBulkEntry {H : Type} : Lit × DataW H → Nat
  | (.string bytes, d) => bytes.length + uptoBulk d + 1
  | (_, d) => uptoBulk d + 1
 end
def uptoSmall : (H : Type) → List (DataW H) → Bool := fun _ ds => decide (uptoBulkAll ds ≤ 1048576)
def OpenSpec.upto (s : _root_.Go.ChangeSpec) : _root_.Go.OpenSpec := { _root_.Go.OpenSpec.ofChange s with cond := some uptoSmall }

/-- 'maquettelaw10.TouchMoves', WHERE WHAT IT READS IS OF BULK AT MOST 1048576: true; the input reads as it did. -/
def touchMovesUptoRow : OpenClaim := { program := "ytcaibieaobhheaa", sum := "659512a9ab3267277a757aab25315873f41f044395e7a4bbfe1157f6b5ef3ced", func := "maquette/maquettelaw10.TouchMoves", spec := "touchMoves", inPlace := ["math/bits.Add64"], unfollowed := true, recurses := true, named := ["math/bits.divideError", "math/bits.overflowError"], apart := false, narrowed := true }
def TouchMovesUptoSaid : Prop := touchMovesUptoRow.holds Try.pinned (OpenSpec.upto touchMovesSpec)

/-- 'maquettelaw10.TouchBoth', WHERE WHAT IT READS IS OF BULK AT MOST 1048576: true; the input reads as it did. -/
def touchBothUptoRow : OpenClaim := { program := "ytcaibieaobhheaa", sum := "659512a9ab3267277a757aab25315873f41f044395e7a4bbfe1157f6b5ef3ced", func := "maquette/maquettelaw10.TouchBoth", spec := "touchBoth", inPlace := ["math/bits.Add64"], unfollowed := true, recurses := true, named := ["math/bits.divideError", "math/bits.overflowError"], apart := false, narrowed := true }
def TouchBothUptoSaid : Prop := touchBothUptoRow.holds Try.pinned (OpenSpec.upto touchBothSpec)

/-- 'maquettelaw10.TouchFar', WHERE WHAT IT READS IS OF BULK AT MOST 1048576: true; the input reads as it did. -/
def touchFarUptoRow : OpenClaim := { program := "ytcaibieaobhheaa", sum := "659512a9ab3267277a757aab25315873f41f044395e7a4bbfe1157f6b5ef3ced", func := "maquette/maquettelaw10.TouchFar", spec := "touchFar", inPlace := ["math/bits.Add64"], unfollowed := true, recurses := true, named := ["math/bits.divideError", "math/bits.overflowError"], apart := false, narrowed := true }
def TouchFarUptoSaid : Prop := touchFarUptoRow.holds Try.pinned (OpenSpec.upto touchFarSpec)

/-- 'maquettelaw11.PushApart', WHERE WHAT IT READS IS OF BULK AT MOST 1048576: true; the input reads as it did. -/
def pushApartUptoRow : OpenClaim := { program := "ytcaibieaobhheaa", sum := "659512a9ab3267277a757aab25315873f41f044395e7a4bbfe1157f6b5ef3ced", func := "maquette/maquettelaw11.PushApart", spec := "pushApart", unfollowed := true, recurses := true, named := ["math/bits.divideError", "math/bits.overflowError"], apart := false, narrowed := true }
def PushApartUptoSaid : Prop := pushApartUptoRow.holds Try.pinned (OpenSpec.upto pushApartSpec)

/-- 'maquettelaw11.PushSlows', WHERE WHAT IT READS IS OF BULK AT MOST 1048576: true; the input reads as it did. -/
def pushSlowsUptoRow : OpenClaim := { program := "ytcaibieaobhheaa", sum := "659512a9ab3267277a757aab25315873f41f044395e7a4bbfe1157f6b5ef3ced", func := "maquette/maquettelaw11.PushSlows", spec := "pushSlows", unfollowed := true, recurses := true, named := ["math/bits.divideError", "math/bits.overflowError"], apart := false, narrowed := true }
def PushSlowsUptoSaid : Prop := pushSlowsUptoRow.holds Try.pinned (OpenSpec.upto pushSlowsSpec)

/-- 'maquettelaw11.PushTells', WHERE WHAT IT READS IS OF BULK AT MOST 1048576: true; the input reads as it did. -/
def pushTellsUptoRow : OpenClaim := { program := "ytcaibieaobhheaa", sum := "659512a9ab3267277a757aab25315873f41f044395e7a4bbfe1157f6b5ef3ced", func := "maquette/maquettelaw11.PushTells", spec := "pushTells", inPlace := ["math/bits.Add64"], unfollowed := true, recurses := true, named := ["math/bits.divideError", "math/bits.overflowError"], apart := false, narrowed := true }
def PushTellsUptoSaid : Prop := pushTellsUptoRow.holds Try.pinned (OpenSpec.upto pushTellsSpec)

/-- 'maquettelaw11.PushKeeps', WHERE WHAT IT READS IS OF BULK AT MOST 1048576: true; the input reads as it did. -/
def pushKeepsUptoRow : OpenClaim := { program := "ytcaibieaobhheaa", sum := "659512a9ab3267277a757aab25315873f41f044395e7a4bbfe1157f6b5ef3ced", func := "maquette/maquettelaw11.PushKeeps", spec := "pushKeeps", inPlace := ["math/bits.Add64"], unfollowed := true, recurses := true, named := ["math/bits.divideError", "math/bits.overflowError"], apart := false, narrowed := true }
def PushKeepsUptoSaid : Prop := pushKeepsUptoRow.holds Try.pinned (OpenSpec.upto pushKeepsSpec)

/-- 'maquettelaw11.PushFixed', WHERE WHAT IT READS IS OF BULK AT MOST 1048576: true; the input reads as it did. -/
def pushFixedUptoRow : OpenClaim := { program := "ytcaibieaobhheaa", sum := "659512a9ab3267277a757aab25315873f41f044395e7a4bbfe1157f6b5ef3ced", func := "maquette/maquettelaw11.PushFixed", spec := "pushFixed", inPlace := ["math/bits.Add64"], unfollowed := true, recurses := true, named := ["math/bits.divideError", "math/bits.overflowError"], apart := false, narrowed := true }
def PushFixedUptoSaid : Prop := pushFixedUptoRow.holds Try.pinned (OpenSpec.upto pushFixedSpec)

/-- 'maquettelaw3.CalcPanics', WHERE WHAT IT READS IS OF BULK AT MOST 1048576: true; the input reads as it did. -/
def calcPanicsUptoRow : OpenClaim := { program := "ytcaibieaobhheaa", sum := "659512a9ab3267277a757aab25315873f41f044395e7a4bbfe1157f6b5ef3ced", func := "maquette/maquettelaw3.CalcPanics", spec := "calcPanics", unfollowed := true, recurses := true, named := ["math/bits.divideError", "math/bits.overflowError"], apart := false, narrowed := true }
def CalcPanicsUptoSaid : Prop := calcPanicsUptoRow.holds Try.pinned (OpenSpec.upto calcPanicsSpec)

/-- 'maquettelaw3.CalcNested', WHERE WHAT IT READS IS OF BULK AT MOST 1048576: true; the input reads as it did. -/
def calcNestedUptoRow : OpenClaim := { program := "ytcaibieaobhheaa", sum := "659512a9ab3267277a757aab25315873f41f044395e7a4bbfe1157f6b5ef3ced", func := "maquette/maquettelaw3.CalcNested", spec := "calcNested", unfollowed := true, recurses := true, named := ["math/bits.divideError", "math/bits.overflowError"], apart := false, narrowed := true }
def CalcNestedUptoSaid : Prop := calcNestedUptoRow.holds Try.pinned (OpenSpec.upto calcNestedSpec)

/-- 'maquettelaw8.BoundsClamps', WHERE WHAT IT READS IS OF BULK AT MOST 1048576: true; the input reads as it did. -/
def boundsClampsUptoRow : OpenClaim := { program := "ytcaibieaobhheaa", sum := "659512a9ab3267277a757aab25315873f41f044395e7a4bbfe1157f6b5ef3ced", func := "maquette/maquettelaw8.BoundsClamps", spec := "boundsClamps", unfollowed := true, recurses := true, apart := false, narrowed := true }
def BoundsClampsUptoSaid : Prop := boundsClampsUptoRow.holds Try.pinned (OpenSpec.upto boundsClampsSpec)

/-- 'maquettelaw7.ShapeSpeeds', WHERE WHAT IT READS IS OF BULK AT MOST 1048576: true; the input reads as it did. -/
def shapeSpeedsUptoRow : OpenClaim := { program := "ytcaibieaobhheaa", sum := "659512a9ab3267277a757aab25315873f41f044395e7a4bbfe1157f6b5ef3ced", func := "maquette/maquettelaw7.ShapeSpeeds", spec := "shapeSpeeds", unfollowed := true, recurses := true, named := ["math/bits.divideError", "math/bits.overflowError"], apart := false, narrowed := true }
def ShapeSpeedsUptoSaid : Prop := shapeSpeedsUptoRow.holds Try.pinned (OpenSpec.upto shapeSpeedsSpec)

end Rows
end Go.Proofs.Ytcaibieaobhheaa
