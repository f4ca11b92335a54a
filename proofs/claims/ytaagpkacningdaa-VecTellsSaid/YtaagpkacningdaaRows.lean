/-
  No cell of these rows narrows 'for every input' (looked for: loops, veiled, ifaces, maps, wideKeys, modest, calm, conditions, laid).
  DERIVED. THE GIVEN ROWS OF THIS SEAT. 38 by the template 'for every input the law returns true; each argument reads behind the call as it read before'; 0 by the template 'total and deterministic' (their statements: YtaagpkacningdaaTotals.lean).
  GIVEN WITH THE SEED: the statements are not yours to turn. If you find one false, say at which input.
  Laid BY PROGRAM, IN A SANDBOX (cutbox-rows.mjs): the forced cells as the released guide's own fill.sh prints them over the translation 972e5e5c59515d03… (all of the seat's roots in one cut). By AI agents, Wed Nov 11 2026. No macro, syntax, notation, axiom, sorry.
-/
import Derived.Test.YtaagpkacningdaaChecked
import GoSem.Claim
import GoSem.ClaimJoined
import GoSem.ClaimMapViews
import Derived.JoinedTies
import Derived.KernelRfl
namespace Go.Proofs.Ytaagpkacningdaa
/- THE CELL 'sum', in the pinned program and in every row, IS THE sha256 OF THE DUMP (.gsa) THAT YtaagpkacningdaaProg.lean LOADS. Nothing in Lean hashes anything: it is a label: what it is worth is what the hold of that sum in a sandbox is worth. -/
noncomputable def Try.pinned : Pinned := { name := "ytaagpkacningdaa", sum := "972e5e5c59515d0345a0dde6a48f3331c098ae4197c4dccba9d2103f0dbd8e68", checked := Try.checked }
namespace Rows
def none {H : Type} : Left H := { results := [], args := [] }

/-- 'maquettelaw8.BoundsMeet': WHATEVER THE INPUT: true; the input reads as it did. -/
def boundsMeetSpec : ChangeSpec := { name := "boundsMeet", fn := fun _ => fun
  | [d1, d2, d3] => { results := [.lit (.bool true)], args := [d1, d2, d3] }
  | _ => none }
def boundsMeetRow : OpenClaim := { program := "ytaagpkacningdaa", sum := "972e5e5c59515d0345a0dde6a48f3331c098ae4197c4dccba9d2103f0dbd8e68", func := "maquette/maquettelaw8.BoundsMeet", spec := "boundsMeet", unfollowed := true, recurses := true, apart := false }
def BoundsMeetSaid : Prop := boundsMeetRow.holds Try.pinned (OpenSpec.ofChange boundsMeetSpec)

/-- ITS FALSE NEIGHBOUR: 'it returns false'. Refute it at one input. -/
def boundsMeetWrong : ChangeSpec := { name := "boundsMeet", fn := fun _ => fun
  | [d1, d2, d3] => { results := [.lit (.bool false)], args := [d1, d2, d3] }
  | _ => none }
def BoundsMeetWrongFalsely : Prop := boundsMeetRow.holds Try.pinned (OpenSpec.ofChange boundsMeetWrong)

/-- 'maquettelaw8.BoundsOf': WHATEVER THE INPUT: true; the input reads as it did. -/
def boundsOfSpec : ChangeSpec := { name := "boundsOf", fn := fun _ => fun
  | [d] => { results := [.lit (.bool true)], args := [d] }
  | _ => none }
def boundsOfRow : OpenClaim := { program := "ytaagpkacningdaa", sum := "972e5e5c59515d0345a0dde6a48f3331c098ae4197c4dccba9d2103f0dbd8e68", func := "maquette/maquettelaw8.BoundsOf", spec := "boundsOf", unfollowed := true, recurses := true, apart := false }
def BoundsOfSaid : Prop := boundsOfRow.holds Try.pinned (OpenSpec.ofChange boundsOfSpec)

/-- ITS FALSE NEIGHBOUR: 'it returns false'. Refute it at one input. -/
def boundsOfWrong : ChangeSpec := { name := "boundsOf", fn := fun _ => fun
  | [d] => { results := [.lit (.bool false)], args := [d] }
  | _ => none }
def BoundsOfWrongFalsely : Prop := boundsOfRow.holds Try.pinned (OpenSpec.ofChange boundsOfWrong)

/-- 'maquettelaw8.BoundsClamps': WHATEVER THE INPUT: true; the input reads as it did. -/
def boundsClampsSpec : ChangeSpec := { name := "boundsClamps", fn := fun _ => fun
  | [d1, d2, d3] => { results := [.lit (.bool true)], args := [d1, d2, d3] }
  | _ => none }
def boundsClampsRow : OpenClaim := { program := "ytaagpkacningdaa", sum := "972e5e5c59515d0345a0dde6a48f3331c098ae4197c4dccba9d2103f0dbd8e68", func := "maquette/maquettelaw8.BoundsClamps", spec := "boundsClamps", unfollowed := true, recurses := true, apart := false }
def BoundsClampsSaid : Prop := boundsClampsRow.holds Try.pinned (OpenSpec.ofChange boundsClampsSpec)

/-- ITS FALSE NEIGHBOUR: 'it returns false'. Refute it at one input. -/
def boundsClampsWrong : ChangeSpec := { name := "boundsClamps", fn := fun _ => fun
  | [d1, d2, d3] => { results := [.lit (.bool false)], args := [d1, d2, d3] }
  | _ => none }
def BoundsClampsWrongFalsely : Prop := boundsClampsRow.holds Try.pinned (OpenSpec.ofChange boundsClampsWrong)

/-- 'maquettelaw8.BoundsTells': WHATEVER THE INPUT: true; the input reads as it did. -/
def boundsTellsSpec : ChangeSpec := { name := "boundsTells", fn := fun _ => fun
  | [d1, d2, d3, d4] => { results := [.lit (.bool true)], args := [d1, d2, d3, d4] }
  | _ => none }
def boundsTellsRow : OpenClaim := { program := "ytaagpkacningdaa", sum := "972e5e5c59515d0345a0dde6a48f3331c098ae4197c4dccba9d2103f0dbd8e68", func := "maquette/maquettelaw8.BoundsTells", spec := "boundsTells", unfollowed := true, recurses := true, apart := false }
def BoundsTellsSaid : Prop := boundsTellsRow.holds Try.pinned (OpenSpec.ofChange boundsTellsSpec)

/-- ITS FALSE NEIGHBOUR: 'it returns false'. Refute it at one input. -/
def boundsTellsWrong : ChangeSpec := { name := "boundsTells", fn := fun _ => fun
  | [d1, d2, d3, d4] => { results := [.lit (.bool false)], args := [d1, d2, d3, d4] }
  | _ => none }
def BoundsTellsWrongFalsely : Prop := boundsTellsRow.holds Try.pinned (OpenSpec.ofChange boundsTellsWrong)

/-- 'maquettelaw8.BoundsBoth': WHATEVER THE INPUT: true; the input reads as it did. -/
def boundsBothSpec : ChangeSpec := { name := "boundsBoth", fn := fun _ => fun
  | [d1, d2, d3] => { results := [.lit (.bool true)], args := [d1, d2, d3] }
  | _ => none }
def boundsBothRow : OpenClaim := { program := "ytaagpkacningdaa", sum := "972e5e5c59515d0345a0dde6a48f3331c098ae4197c4dccba9d2103f0dbd8e68", func := "maquette/maquettelaw8.BoundsBoth", spec := "boundsBoth", unfollowed := true, recurses := true, apart := false }
def BoundsBothSaid : Prop := boundsBothRow.holds Try.pinned (OpenSpec.ofChange boundsBothSpec)

/-- ITS FALSE NEIGHBOUR: 'it returns false'. Refute it at one input. -/
def boundsBothWrong : ChangeSpec := { name := "boundsBoth", fn := fun _ => fun
  | [d1, d2, d3] => { results := [.lit (.bool false)], args := [d1, d2, d3] }
  | _ => none }
def BoundsBothWrongFalsely : Prop := boundsBothRow.holds Try.pinned (OpenSpec.ofChange boundsBothWrong)

/-- 'maquettelaw7.ShapeTells': WHATEVER THE INPUT: true; the input reads as it did. -/
def shapeTellsSpec : ChangeSpec := { name := "shapeTells", fn := fun _ => fun
  | [d1, d2] => { results := [.lit (.bool true)], args := [d1, d2] }
  | _ => none }
def shapeTellsRow : OpenClaim := { program := "ytaagpkacningdaa", sum := "972e5e5c59515d0345a0dde6a48f3331c098ae4197c4dccba9d2103f0dbd8e68", func := "maquette/maquettelaw7.ShapeTells", spec := "shapeTells", unfollowed := true, recurses := true, named := ["math/bits.divideError", "math/bits.overflowError"], apart := false }
def ShapeTellsSaid : Prop := shapeTellsRow.holds Try.pinned (OpenSpec.ofChange shapeTellsSpec)

/-- ITS FALSE NEIGHBOUR: 'it returns false'. Refute it at one input. -/
def shapeTellsWrong : ChangeSpec := { name := "shapeTells", fn := fun _ => fun
  | [d1, d2] => { results := [.lit (.bool false)], args := [d1, d2] }
  | _ => none }
def ShapeTellsWrongFalsely : Prop := shapeTellsRow.holds Try.pinned (OpenSpec.ofChange shapeTellsWrong)

/-- 'maquettelaw7.ShapeEdges': WHATEVER THE INPUT: true; the input reads as it did. -/
def shapeEdgesSpec : ChangeSpec := { name := "shapeEdges", fn := fun _ => fun
  | [d1, d2] => { results := [.lit (.bool true)], args := [d1, d2] }
  | _ => none }
def shapeEdgesRow : OpenClaim := { program := "ytaagpkacningdaa", sum := "972e5e5c59515d0345a0dde6a48f3331c098ae4197c4dccba9d2103f0dbd8e68", func := "maquette/maquettelaw7.ShapeEdges", spec := "shapeEdges", unfollowed := true, recurses := true, named := ["math/bits.divideError", "math/bits.overflowError"], apart := false }
def ShapeEdgesSaid : Prop := shapeEdgesRow.holds Try.pinned (OpenSpec.ofChange shapeEdgesSpec)

/-- ITS FALSE NEIGHBOUR: 'it returns false'. Refute it at one input. -/
def shapeEdgesWrong : ChangeSpec := { name := "shapeEdges", fn := fun _ => fun
  | [d1, d2] => { results := [.lit (.bool false)], args := [d1, d2] }
  | _ => none }
def ShapeEdgesWrongFalsely : Prop := shapeEdgesRow.holds Try.pinned (OpenSpec.ofChange shapeEdgesWrong)

/-- 'maquettelaw7.ShapeSpeeds': WHATEVER THE INPUT: true; the input reads as it did. -/
def shapeSpeedsSpec : ChangeSpec := { name := "shapeSpeeds", fn := fun _ => fun
  | [d1, d2] => { results := [.lit (.bool true)], args := [d1, d2] }
  | _ => none }
def shapeSpeedsRow : OpenClaim := { program := "ytaagpkacningdaa", sum := "972e5e5c59515d0345a0dde6a48f3331c098ae4197c4dccba9d2103f0dbd8e68", func := "maquette/maquettelaw7.ShapeSpeeds", spec := "shapeSpeeds", unfollowed := true, recurses := true, named := ["math/bits.divideError", "math/bits.overflowError"], apart := false }
def ShapeSpeedsSaid : Prop := shapeSpeedsRow.holds Try.pinned (OpenSpec.ofChange shapeSpeedsSpec)

/-- ITS FALSE NEIGHBOUR: 'it returns false'. Refute it at one input. -/
def shapeSpeedsWrong : ChangeSpec := { name := "shapeSpeeds", fn := fun _ => fun
  | [d1, d2] => { results := [.lit (.bool false)], args := [d1, d2] }
  | _ => none }
def ShapeSpeedsWrongFalsely : Prop := shapeSpeedsRow.holds Try.pinned (OpenSpec.ofChange shapeSpeedsWrong)

/-- 'maquettelaw7.ShapeNames': WHATEVER THE INPUT: true; the input reads as it did. -/
def shapeNamesSpec : ChangeSpec := { name := "shapeNames", fn := fun _ => fun
  | [d1, d2] => { results := [.lit (.bool true)], args := [d1, d2] }
  | _ => none }
def shapeNamesRow : OpenClaim := { program := "ytaagpkacningdaa", sum := "972e5e5c59515d0345a0dde6a48f3331c098ae4197c4dccba9d2103f0dbd8e68", func := "maquette/maquettelaw7.ShapeNames", spec := "shapeNames", unfollowed := true, recurses := true, named := ["math/bits.divideError", "math/bits.overflowError"], apart := false }
def ShapeNamesSaid : Prop := shapeNamesRow.holds Try.pinned (OpenSpec.ofChange shapeNamesSpec)

/-- ITS FALSE NEIGHBOUR: 'it returns false'. Refute it at one input. -/
def shapeNamesWrong : ChangeSpec := { name := "shapeNames", fn := fun _ => fun
  | [d1, d2] => { results := [.lit (.bool false)], args := [d1, d2] }
  | _ => none }
def ShapeNamesWrongFalsely : Prop := shapeNamesRow.holds Try.pinned (OpenSpec.ofChange shapeNamesWrong)

/-- 'maquettelaw7.ShapeMoves': WHATEVER THE INPUT: true; the input reads as it did. -/
def shapeMovesSpec : ChangeSpec := { name := "shapeMoves", fn := fun _ => fun
  | [d1, d2, d3] => { results := [.lit (.bool true)], args := [d1, d2, d3] }
  | _ => none }
def shapeMovesRow : OpenClaim := { program := "ytaagpkacningdaa", sum := "972e5e5c59515d0345a0dde6a48f3331c098ae4197c4dccba9d2103f0dbd8e68", func := "maquette/maquettelaw7.ShapeMoves", spec := "shapeMoves", unfollowed := true, recurses := true, named := ["math/bits.divideError", "math/bits.overflowError"], apart := false }
def ShapeMovesSaid : Prop := shapeMovesRow.holds Try.pinned (OpenSpec.ofChange shapeMovesSpec)

/-- ITS FALSE NEIGHBOUR: 'it returns false'. Refute it at one input. -/
def shapeMovesWrong : ChangeSpec := { name := "shapeMoves", fn := fun _ => fun
  | [d1, d2, d3] => { results := [.lit (.bool false)], args := [d1, d2, d3] }
  | _ => none }
def ShapeMovesWrongFalsely : Prop := shapeMovesRow.holds Try.pinned (OpenSpec.ofChange shapeMovesWrong)

/-- 'maquettelaw3.CalcPanics': WHATEVER THE INPUT: true; the input reads as it did. -/
def calcPanicsSpec : ChangeSpec := { name := "calcPanics", fn := fun _ => fun
  | [d1, d2] => { results := [.lit (.bool true)], args := [d1, d2] }
  | _ => none }
def calcPanicsRow : OpenClaim := { program := "ytaagpkacningdaa", sum := "972e5e5c59515d0345a0dde6a48f3331c098ae4197c4dccba9d2103f0dbd8e68", func := "maquette/maquettelaw3.CalcPanics", spec := "calcPanics", unfollowed := true, recurses := true, named := ["math/bits.divideError", "math/bits.overflowError"], apart := false }
def CalcPanicsSaid : Prop := calcPanicsRow.holds Try.pinned (OpenSpec.ofChange calcPanicsSpec)

/-- ITS FALSE NEIGHBOUR: 'it returns false'. Refute it at one input. -/
def calcPanicsWrong : ChangeSpec := { name := "calcPanics", fn := fun _ => fun
  | [d1, d2] => { results := [.lit (.bool false)], args := [d1, d2] }
  | _ => none }
def CalcPanicsWrongFalsely : Prop := calcPanicsRow.holds Try.pinned (OpenSpec.ofChange calcPanicsWrong)

/-- 'maquettelaw3.CalcSums': WHATEVER THE INPUT: true; the input reads as it did. -/
def calcSumsSpec : ChangeSpec := { name := "calcSums", fn := fun _ => fun
  | [d1, d2] => { results := [.lit (.bool true)], args := [d1, d2] }
  | _ => none }
def calcSumsRow : OpenClaim := { program := "ytaagpkacningdaa", sum := "972e5e5c59515d0345a0dde6a48f3331c098ae4197c4dccba9d2103f0dbd8e68", func := "maquette/maquettelaw3.CalcSums", spec := "calcSums", unfollowed := true, recurses := true, named := ["math/bits.divideError", "math/bits.overflowError"], apart := false }
def CalcSumsSaid : Prop := calcSumsRow.holds Try.pinned (OpenSpec.ofChange calcSumsSpec)

/-- ITS FALSE NEIGHBOUR: 'it returns false'. Refute it at one input. -/
def calcSumsWrong : ChangeSpec := { name := "calcSums", fn := fun _ => fun
  | [d1, d2] => { results := [.lit (.bool false)], args := [d1, d2] }
  | _ => none }
def CalcSumsWrongFalsely : Prop := calcSumsRow.holds Try.pinned (OpenSpec.ofChange calcSumsWrong)

/-- 'maquettelaw3.CalcBehind': WHATEVER THE INPUT: true; the input reads as it did. -/
def calcBehindSpec : ChangeSpec := { name := "calcBehind", fn := fun _ => fun
  | [d] => { results := [.lit (.bool true)], args := [d] }
  | _ => none }
def calcBehindRow : OpenClaim := { program := "ytaagpkacningdaa", sum := "972e5e5c59515d0345a0dde6a48f3331c098ae4197c4dccba9d2103f0dbd8e68", func := "maquette/maquettelaw3.CalcBehind", spec := "calcBehind", unfollowed := true, recurses := true, named := ["math/bits.divideError", "math/bits.overflowError"], apart := false }
def CalcBehindSaid : Prop := calcBehindRow.holds Try.pinned (OpenSpec.ofChange calcBehindSpec)

/-- ITS FALSE NEIGHBOUR: 'it returns false'. Refute it at one input. -/
def calcBehindWrong : ChangeSpec := { name := "calcBehind", fn := fun _ => fun
  | [d] => { results := [.lit (.bool false)], args := [d] }
  | _ => none }
def CalcBehindWrongFalsely : Prop := calcBehindRow.holds Try.pinned (OpenSpec.ofChange calcBehindWrong)

/-- 'maquettelaw3.CalcNested': WHATEVER THE INPUT: true; the input reads as it did. -/
def calcNestedSpec : ChangeSpec := { name := "calcNested", fn := fun _ => fun
  | [d1, d2, d3] => { results := [.lit (.bool true)], args := [d1, d2, d3] }
  | _ => none }
def calcNestedRow : OpenClaim := { program := "ytaagpkacningdaa", sum := "972e5e5c59515d0345a0dde6a48f3331c098ae4197c4dccba9d2103f0dbd8e68", func := "maquette/maquettelaw3.CalcNested", spec := "calcNested", unfollowed := true, recurses := true, named := ["math/bits.divideError", "math/bits.overflowError"], apart := false }
def CalcNestedSaid : Prop := calcNestedRow.holds Try.pinned (OpenSpec.ofChange calcNestedSpec)

/-- ITS FALSE NEIGHBOUR: 'it returns false'. Refute it at one input. -/
def calcNestedWrong : ChangeSpec := { name := "calcNested", fn := fun _ => fun
  | [d1, d2, d3] => { results := [.lit (.bool false)], args := [d1, d2, d3] }
  | _ => none }
def CalcNestedWrongFalsely : Prop := calcNestedRow.holds Try.pinned (OpenSpec.ofChange calcNestedWrong)

/-- 'maquettelaw3.CalcOrder': WHATEVER THE INPUT: true; the input reads as it did. -/
def calcOrderSpec : ChangeSpec := { name := "calcOrder", fn := fun _ => fun
  | [d1, d2] => { results := [.lit (.bool true)], args := [d1, d2] }
  | _ => none }
def calcOrderRow : OpenClaim := { program := "ytaagpkacningdaa", sum := "972e5e5c59515d0345a0dde6a48f3331c098ae4197c4dccba9d2103f0dbd8e68", func := "maquette/maquettelaw3.CalcOrder", spec := "calcOrder", unfollowed := true, recurses := true, named := ["math/bits.divideError", "math/bits.overflowError"], apart := false }
def CalcOrderSaid : Prop := calcOrderRow.holds Try.pinned (OpenSpec.ofChange calcOrderSpec)

/-- ITS FALSE NEIGHBOUR: 'it returns false'. Refute it at one input. -/
def calcOrderWrong : ChangeSpec := { name := "calcOrder", fn := fun _ => fun
  | [d1, d2] => { results := [.lit (.bool false)], args := [d1, d2] }
  | _ => none }
def CalcOrderWrongFalsely : Prop := calcOrderRow.holds Try.pinned (OpenSpec.ofChange calcOrderWrong)

/-- 'maquettelaw3.CalcDots': WHATEVER THE INPUT: true; the input reads as it did. -/
def calcDotsSpec : ChangeSpec := { name := "calcDots", fn := fun _ => fun
  | [d] => { results := [.lit (.bool true)], args := [d] }
  | _ => none }
def calcDotsRow : OpenClaim := { program := "ytaagpkacningdaa", sum := "972e5e5c59515d0345a0dde6a48f3331c098ae4197c4dccba9d2103f0dbd8e68", func := "maquette/maquettelaw3.CalcDots", spec := "calcDots", unfollowed := true, recurses := true, named := ["math/bits.divideError", "math/bits.overflowError"], apart := false }
def CalcDotsSaid : Prop := calcDotsRow.holds Try.pinned (OpenSpec.ofChange calcDotsSpec)

/-- ITS FALSE NEIGHBOUR: 'it returns false'. Refute it at one input. -/
def calcDotsWrong : ChangeSpec := { name := "calcDots", fn := fun _ => fun
  | [d] => { results := [.lit (.bool false)], args := [d] }
  | _ => none }
def CalcDotsWrongFalsely : Prop := calcDotsRow.holds Try.pinned (OpenSpec.ofChange calcDotsWrong)

/-- 'maquettelaw3.CalcTells': WHATEVER THE INPUT: true; the input reads as it did. -/
def calcTellsSpec : ChangeSpec := { name := "calcTells", fn := fun _ => fun
  | [d1, d2, d3] => { results := [.lit (.bool true)], args := [d1, d2, d3] }
  | _ => none }
def calcTellsRow : OpenClaim := { program := "ytaagpkacningdaa", sum := "972e5e5c59515d0345a0dde6a48f3331c098ae4197c4dccba9d2103f0dbd8e68", func := "maquette/maquettelaw3.CalcTells", spec := "calcTells", unfollowed := true, recurses := true, named := ["math/bits.divideError", "math/bits.overflowError"], apart := false }
def CalcTellsSaid : Prop := calcTellsRow.holds Try.pinned (OpenSpec.ofChange calcTellsSpec)

/-- ITS FALSE NEIGHBOUR: 'it returns false'. Refute it at one input. -/
def calcTellsWrong : ChangeSpec := { name := "calcTells", fn := fun _ => fun
  | [d1, d2, d3] => { results := [.lit (.bool false)], args := [d1, d2, d3] }
  | _ => none }
def CalcTellsWrongFalsely : Prop := calcTellsRow.holds Try.pinned (OpenSpec.ofChange calcTellsWrong)

/-- 'maquettelaw3.CalcValues': WHATEVER THE INPUT: true; the input reads as it did. -/
def calcValuesSpec : ChangeSpec := { name := "calcValues", fn := fun _ => fun
  | [d1, d2] => { results := [.lit (.bool true)], args := [d1, d2] }
  | _ => none }
def calcValuesRow : OpenClaim := { program := "ytaagpkacningdaa", sum := "972e5e5c59515d0345a0dde6a48f3331c098ae4197c4dccba9d2103f0dbd8e68", func := "maquette/maquettelaw3.CalcValues", spec := "calcValues", unfollowed := true, recurses := true, named := ["math/bits.divideError", "math/bits.overflowError"], apart := false }
def CalcValuesSaid : Prop := calcValuesRow.holds Try.pinned (OpenSpec.ofChange calcValuesSpec)

/-- ITS FALSE NEIGHBOUR: 'it returns false'. Refute it at one input. -/
def calcValuesWrong : ChangeSpec := { name := "calcValues", fn := fun _ => fun
  | [d1, d2] => { results := [.lit (.bool false)], args := [d1, d2] }
  | _ => none }
def CalcValuesWrongFalsely : Prop := calcValuesRow.holds Try.pinned (OpenSpec.ofChange calcValuesWrong)

/-- 'maquettelaw6.VecUnits': WHATEVER THE INPUT: true; the input reads as it did. -/
def vecUnitsSpec : ChangeSpec := { name := "vecUnits", fn := fun _ => fun
  | [d] => { results := [.lit (.bool true)], args := [d] }
  | _ => none }
def vecUnitsRow : OpenClaim := { program := "ytaagpkacningdaa", sum := "972e5e5c59515d0345a0dde6a48f3331c098ae4197c4dccba9d2103f0dbd8e68", func := "maquette/maquettelaw6.VecUnits", spec := "vecUnits", inPlace := ["math/bits.Add64"], unfollowed := true, recurses := true, named := ["math/bits.divideError", "math/bits.overflowError"], apart := false }
def VecUnitsSaid : Prop := vecUnitsRow.holds Try.pinned (OpenSpec.ofChange vecUnitsSpec)

/-- ITS FALSE NEIGHBOUR: 'it returns false'. Refute it at one input. -/
def vecUnitsWrong : ChangeSpec := { name := "vecUnits", fn := fun _ => fun
  | [d] => { results := [.lit (.bool false)], args := [d] }
  | _ => none }
def VecUnitsWrongFalsely : Prop := vecUnitsRow.holds Try.pinned (OpenSpec.ofChange vecUnitsWrong)

/-- 'maquettelaw6.VecLengths': WHATEVER THE INPUT: true; the input reads as it did. -/
def vecLengthsSpec : ChangeSpec := { name := "vecLengths", fn := fun _ => fun
  | [d] => { results := [.lit (.bool true)], args := [d] }
  | _ => none }
def vecLengthsRow : OpenClaim := { program := "ytaagpkacningdaa", sum := "972e5e5c59515d0345a0dde6a48f3331c098ae4197c4dccba9d2103f0dbd8e68", func := "maquette/maquettelaw6.VecLengths", spec := "vecLengths", inPlace := ["math/bits.Add64"], unfollowed := true, recurses := true, named := ["math/bits.divideError", "math/bits.overflowError"], apart := false }
def VecLengthsSaid : Prop := vecLengthsRow.holds Try.pinned (OpenSpec.ofChange vecLengthsSpec)

/-- ITS FALSE NEIGHBOUR: 'it returns false'. Refute it at one input. -/
def vecLengthsWrong : ChangeSpec := { name := "vecLengths", fn := fun _ => fun
  | [d] => { results := [.lit (.bool false)], args := [d] }
  | _ => none }
def VecLengthsWrongFalsely : Prop := vecLengthsRow.holds Try.pinned (OpenSpec.ofChange vecLengthsWrong)

/-- 'maquettelaw6.VecShares': WHATEVER THE INPUT: true; the input reads as it did. -/
def vecSharesSpec : ChangeSpec := { name := "vecShares", fn := fun _ => fun
  | [d1, d2] => { results := [.lit (.bool true)], args := [d1, d2] }
  | _ => none }
def vecSharesRow : OpenClaim := { program := "ytaagpkacningdaa", sum := "972e5e5c59515d0345a0dde6a48f3331c098ae4197c4dccba9d2103f0dbd8e68", func := "maquette/maquettelaw6.VecShares", spec := "vecShares", inPlace := ["math/bits.Add64"], unfollowed := true, recurses := true, named := ["math/bits.divideError", "math/bits.overflowError"], apart := false }
def VecSharesSaid : Prop := vecSharesRow.holds Try.pinned (OpenSpec.ofChange vecSharesSpec)

/-- ITS FALSE NEIGHBOUR: 'it returns false'. Refute it at one input. -/
def vecSharesWrong : ChangeSpec := { name := "vecShares", fn := fun _ => fun
  | [d1, d2] => { results := [.lit (.bool false)], args := [d1, d2] }
  | _ => none }
def VecSharesWrongFalsely : Prop := vecSharesRow.holds Try.pinned (OpenSpec.ofChange vecSharesWrong)

/-- 'maquettelaw6.VecDots': WHATEVER THE INPUT: true; the input reads as it did. -/
def vecDotsSpec : ChangeSpec := { name := "vecDots", fn := fun _ => fun
  | [d1, d2] => { results := [.lit (.bool true)], args := [d1, d2] }
  | _ => none }
def vecDotsRow : OpenClaim := { program := "ytaagpkacningdaa", sum := "972e5e5c59515d0345a0dde6a48f3331c098ae4197c4dccba9d2103f0dbd8e68", func := "maquette/maquettelaw6.VecDots", spec := "vecDots", inPlace := ["math/bits.Add64"], unfollowed := true, recurses := true, named := ["math/bits.divideError", "math/bits.overflowError"], apart := false }
def VecDotsSaid : Prop := vecDotsRow.holds Try.pinned (OpenSpec.ofChange vecDotsSpec)

/-- ITS FALSE NEIGHBOUR: 'it returns false'. Refute it at one input. -/
def vecDotsWrong : ChangeSpec := { name := "vecDots", fn := fun _ => fun
  | [d1, d2] => { results := [.lit (.bool false)], args := [d1, d2] }
  | _ => none }
def VecDotsWrongFalsely : Prop := vecDotsRow.holds Try.pinned (OpenSpec.ofChange vecDotsWrong)

/-- 'maquettelaw11.PushApart': WHATEVER THE INPUT: true; the input reads as it did. -/
def pushApartSpec : ChangeSpec := { name := "pushApart", fn := fun _ => fun
  | [d1, d2, d3] => { results := [.lit (.bool true)], args := [d1, d2, d3] }
  | _ => none }
def pushApartRow : OpenClaim := { program := "ytaagpkacningdaa", sum := "972e5e5c59515d0345a0dde6a48f3331c098ae4197c4dccba9d2103f0dbd8e68", func := "maquette/maquettelaw11.PushApart", spec := "pushApart", unfollowed := true, recurses := true, named := ["math/bits.divideError", "math/bits.overflowError"], apart := false }
def PushApartSaid : Prop := pushApartRow.holds Try.pinned (OpenSpec.ofChange pushApartSpec)

/-- ITS FALSE NEIGHBOUR: 'it returns false'. Refute it at one input. -/
def pushApartWrong : ChangeSpec := { name := "pushApart", fn := fun _ => fun
  | [d1, d2, d3] => { results := [.lit (.bool false)], args := [d1, d2, d3] }
  | _ => none }
def PushApartWrongFalsely : Prop := pushApartRow.holds Try.pinned (OpenSpec.ofChange pushApartWrong)

/-- 'maquettelaw11.PushSlows': WHATEVER THE INPUT: true; the input reads as it did. -/
def pushSlowsSpec : ChangeSpec := { name := "pushSlows", fn := fun _ => fun
  | [d1, d2, d3, d4] => { results := [.lit (.bool true)], args := [d1, d2, d3, d4] }
  | _ => none }
def pushSlowsRow : OpenClaim := { program := "ytaagpkacningdaa", sum := "972e5e5c59515d0345a0dde6a48f3331c098ae4197c4dccba9d2103f0dbd8e68", func := "maquette/maquettelaw11.PushSlows", spec := "pushSlows", unfollowed := true, recurses := true, named := ["math/bits.divideError", "math/bits.overflowError"], apart := false }
def PushSlowsSaid : Prop := pushSlowsRow.holds Try.pinned (OpenSpec.ofChange pushSlowsSpec)

/-- ITS FALSE NEIGHBOUR: 'it returns false'. Refute it at one input. -/
def pushSlowsWrong : ChangeSpec := { name := "pushSlows", fn := fun _ => fun
  | [d1, d2, d3, d4] => { results := [.lit (.bool false)], args := [d1, d2, d3, d4] }
  | _ => none }
def PushSlowsWrongFalsely : Prop := pushSlowsRow.holds Try.pinned (OpenSpec.ofChange pushSlowsWrong)

/-- 'maquettelaw6.VecSums': WHATEVER THE INPUT: true; the input reads as it did. -/
def vecSumsSpec : ChangeSpec := { name := "vecSums", fn := fun _ => fun
  | [d1, d2] => { results := [.lit (.bool true)], args := [d1, d2] }
  | _ => none }
def vecSumsRow : OpenClaim := { program := "ytaagpkacningdaa", sum := "972e5e5c59515d0345a0dde6a48f3331c098ae4197c4dccba9d2103f0dbd8e68", func := "maquette/maquettelaw6.VecSums", spec := "vecSums", inPlace := ["math/bits.Add64"], unfollowed := true, recurses := true, named := ["math/bits.divideError", "math/bits.overflowError"], apart := false }
def VecSumsSaid : Prop := vecSumsRow.holds Try.pinned (OpenSpec.ofChange vecSumsSpec)

/-- ITS FALSE NEIGHBOUR: 'it returns false'. Refute it at one input. -/
def vecSumsWrong : ChangeSpec := { name := "vecSums", fn := fun _ => fun
  | [d1, d2] => { results := [.lit (.bool false)], args := [d1, d2] }
  | _ => none }
def VecSumsWrongFalsely : Prop := vecSumsRow.holds Try.pinned (OpenSpec.ofChange vecSumsWrong)

/-- 'maquettelaw6.VecTells': WHATEVER THE INPUT: true; the input reads as it did. -/
def vecTellsSpec : ChangeSpec := { name := "vecTells", fn := fun _ => fun
  | [d1, d2, d3, d4] => { results := [.lit (.bool true)], args := [d1, d2, d3, d4] }
  | _ => none }
def vecTellsRow : OpenClaim := { program := "ytaagpkacningdaa", sum := "972e5e5c59515d0345a0dde6a48f3331c098ae4197c4dccba9d2103f0dbd8e68", func := "maquette/maquettelaw6.VecTells", spec := "vecTells", inPlace := ["math/bits.Add64"], unfollowed := true, recurses := true, named := ["math/bits.divideError", "math/bits.overflowError"], apart := false }
def VecTellsSaid : Prop := vecTellsRow.holds Try.pinned (OpenSpec.ofChange vecTellsSpec)

/-- ITS FALSE NEIGHBOUR: 'it returns false'. Refute it at one input. -/
def vecTellsWrong : ChangeSpec := { name := "vecTells", fn := fun _ => fun
  | [d1, d2, d3, d4] => { results := [.lit (.bool false)], args := [d1, d2, d3, d4] }
  | _ => none }
def VecTellsWrongFalsely : Prop := vecTellsRow.holds Try.pinned (OpenSpec.ofChange vecTellsWrong)

/-- 'maquettelaw11.PushNothing': WHATEVER THE INPUT: true; the input reads as it did. -/
def pushNothingSpec : ChangeSpec := { name := "pushNothing", fn := fun _ => fun
  | [d1, d2, d3] => { results := [.lit (.bool true)], args := [d1, d2, d3] }
  | _ => none }
def pushNothingRow : OpenClaim := { program := "ytaagpkacningdaa", sum := "972e5e5c59515d0345a0dde6a48f3331c098ae4197c4dccba9d2103f0dbd8e68", func := "maquette/maquettelaw11.PushNothing", spec := "pushNothing", inPlace := ["math/bits.Add64"], unfollowed := true, recurses := true, named := ["math/bits.divideError", "math/bits.overflowError"], apart := false }
def PushNothingSaid : Prop := pushNothingRow.holds Try.pinned (OpenSpec.ofChange pushNothingSpec)

/-- ITS FALSE NEIGHBOUR: 'it returns false'. Refute it at one input. -/
def pushNothingWrong : ChangeSpec := { name := "pushNothing", fn := fun _ => fun
  | [d1, d2, d3] => { results := [.lit (.bool false)], args := [d1, d2, d3] }
  | _ => none }
def PushNothingWrongFalsely : Prop := pushNothingRow.holds Try.pinned (OpenSpec.ofChange pushNothingWrong)

/-- 'maquettelaw11.PushPulls': WHATEVER THE INPUT: true; the input reads as it did. -/
def pushPullsSpec : ChangeSpec := { name := "pushPulls", fn := fun _ => fun
  | [d1, d2] => { results := [.lit (.bool true)], args := [d1, d2] }
  | _ => none }
def pushPullsRow : OpenClaim := { program := "ytaagpkacningdaa", sum := "972e5e5c59515d0345a0dde6a48f3331c098ae4197c4dccba9d2103f0dbd8e68", func := "maquette/maquettelaw11.PushPulls", spec := "pushPulls", inPlace := ["math/bits.Add64"], unfollowed := true, recurses := true, named := ["math/bits.divideError", "math/bits.overflowError"], apart := false }
def PushPullsSaid : Prop := pushPullsRow.holds Try.pinned (OpenSpec.ofChange pushPullsSpec)

/-- ITS FALSE NEIGHBOUR: 'it returns false'. Refute it at one input. -/
def pushPullsWrong : ChangeSpec := { name := "pushPulls", fn := fun _ => fun
  | [d1, d2] => { results := [.lit (.bool false)], args := [d1, d2] }
  | _ => none }
def PushPullsWrongFalsely : Prop := pushPullsRow.holds Try.pinned (OpenSpec.ofChange pushPullsWrong)

/-- 'maquettelaw11.PushTells': WHATEVER THE INPUT: true; the input reads as it did. -/
def pushTellsSpec : ChangeSpec := { name := "pushTells", fn := fun _ => fun
  | [d1, d2, d3, d4, d5] => { results := [.lit (.bool true)], args := [d1, d2, d3, d4, d5] }
  | _ => none }
def pushTellsRow : OpenClaim := { program := "ytaagpkacningdaa", sum := "972e5e5c59515d0345a0dde6a48f3331c098ae4197c4dccba9d2103f0dbd8e68", func := "maquette/maquettelaw11.PushTells", spec := "pushTells", inPlace := ["math/bits.Add64"], unfollowed := true, recurses := true, named := ["math/bits.divideError", "math/bits.overflowError"], apart := false }
def PushTellsSaid : Prop := pushTellsRow.holds Try.pinned (OpenSpec.ofChange pushTellsSpec)

/-- ITS FALSE NEIGHBOUR: 'it returns false'. Refute it at one input. -/
def pushTellsWrong : ChangeSpec := { name := "pushTells", fn := fun _ => fun
  | [d1, d2, d3, d4, d5] => { results := [.lit (.bool false)], args := [d1, d2, d3, d4, d5] }
  | _ => none }
def PushTellsWrongFalsely : Prop := pushTellsRow.holds Try.pinned (OpenSpec.ofChange pushTellsWrong)

/-- 'maquettelaw11.PushKeeps': WHATEVER THE INPUT: true; the input reads as it did. -/
def pushKeepsSpec : ChangeSpec := { name := "pushKeeps", fn := fun _ => fun
  | [d1, d2, d3, d4, d5] => { results := [.lit (.bool true)], args := [d1, d2, d3, d4, d5] }
  | _ => none }
def pushKeepsRow : OpenClaim := { program := "ytaagpkacningdaa", sum := "972e5e5c59515d0345a0dde6a48f3331c098ae4197c4dccba9d2103f0dbd8e68", func := "maquette/maquettelaw11.PushKeeps", spec := "pushKeeps", inPlace := ["math/bits.Add64"], unfollowed := true, recurses := true, named := ["math/bits.divideError", "math/bits.overflowError"], apart := false }
def PushKeepsSaid : Prop := pushKeepsRow.holds Try.pinned (OpenSpec.ofChange pushKeepsSpec)

/-- ITS FALSE NEIGHBOUR: 'it returns false'. Refute it at one input. -/
def pushKeepsWrong : ChangeSpec := { name := "pushKeeps", fn := fun _ => fun
  | [d1, d2, d3, d4, d5] => { results := [.lit (.bool false)], args := [d1, d2, d3, d4, d5] }
  | _ => none }
def PushKeepsWrongFalsely : Prop := pushKeepsRow.holds Try.pinned (OpenSpec.ofChange pushKeepsWrong)

/-- 'maquettelaw11.PushFixed': WHATEVER THE INPUT: true; the input reads as it did. -/
def pushFixedSpec : ChangeSpec := { name := "pushFixed", fn := fun _ => fun
  | [d1, d2, d3, d4] => { results := [.lit (.bool true)], args := [d1, d2, d3, d4] }
  | _ => none }
def pushFixedRow : OpenClaim := { program := "ytaagpkacningdaa", sum := "972e5e5c59515d0345a0dde6a48f3331c098ae4197c4dccba9d2103f0dbd8e68", func := "maquette/maquettelaw11.PushFixed", spec := "pushFixed", inPlace := ["math/bits.Add64"], unfollowed := true, recurses := true, named := ["math/bits.divideError", "math/bits.overflowError"], apart := false }
def PushFixedSaid : Prop := pushFixedRow.holds Try.pinned (OpenSpec.ofChange pushFixedSpec)

/-- ITS FALSE NEIGHBOUR: 'it returns false'. Refute it at one input. -/
def pushFixedWrong : ChangeSpec := { name := "pushFixed", fn := fun _ => fun
  | [d1, d2, d3, d4] => { results := [.lit (.bool false)], args := [d1, d2, d3, d4] }
  | _ => none }
def PushFixedWrongFalsely : Prop := pushFixedRow.holds Try.pinned (OpenSpec.ofChange pushFixedWrong)

/-- 'maquettelaw10.TouchTells': WHATEVER THE INPUT: true; the input reads as it did. -/
def touchTellsSpec : ChangeSpec := { name := "touchTells", fn := fun _ => fun
  | [d1, d2] => { results := [.lit (.bool true)], args := [d1, d2] }
  | _ => none }
def touchTellsRow : OpenClaim := { program := "ytaagpkacningdaa", sum := "972e5e5c59515d0345a0dde6a48f3331c098ae4197c4dccba9d2103f0dbd8e68", func := "maquette/maquettelaw10.TouchTells", spec := "touchTells", inPlace := ["math/bits.Add64"], unfollowed := true, recurses := true, named := ["math/bits.divideError", "math/bits.overflowError"], apart := false }
def TouchTellsSaid : Prop := touchTellsRow.holds Try.pinned (OpenSpec.ofChange touchTellsSpec)

/-- ITS FALSE NEIGHBOUR: 'it returns false'. Refute it at one input. -/
def touchTellsWrong : ChangeSpec := { name := "touchTells", fn := fun _ => fun
  | [d1, d2] => { results := [.lit (.bool false)], args := [d1, d2] }
  | _ => none }
def TouchTellsWrongFalsely : Prop := touchTellsRow.holds Try.pinned (OpenSpec.ofChange touchTellsWrong)

/-- 'maquettelaw10.TouchBoth': WHATEVER THE INPUT: true; the input reads as it did. -/
def touchBothSpec : ChangeSpec := { name := "touchBoth", fn := fun _ => fun
  | [d1, d2] => { results := [.lit (.bool true)], args := [d1, d2] }
  | _ => none }
def touchBothRow : OpenClaim := { program := "ytaagpkacningdaa", sum := "972e5e5c59515d0345a0dde6a48f3331c098ae4197c4dccba9d2103f0dbd8e68", func := "maquette/maquettelaw10.TouchBoth", spec := "touchBoth", inPlace := ["math/bits.Add64"], unfollowed := true, recurses := true, named := ["math/bits.divideError", "math/bits.overflowError"], apart := false }
def TouchBothSaid : Prop := touchBothRow.holds Try.pinned (OpenSpec.ofChange touchBothSpec)

/-- ITS FALSE NEIGHBOUR: 'it returns false'. Refute it at one input. -/
def touchBothWrong : ChangeSpec := { name := "touchBoth", fn := fun _ => fun
  | [d1, d2] => { results := [.lit (.bool false)], args := [d1, d2] }
  | _ => none }
def TouchBothWrongFalsely : Prop := touchBothRow.holds Try.pinned (OpenSpec.ofChange touchBothWrong)

/-- 'maquettelaw10.TouchBalls': WHATEVER THE INPUT: true; the input reads as it did. -/
def touchBallsSpec : ChangeSpec := { name := "touchBalls", fn := fun _ => fun
  | [d1, d2, d3] => { results := [.lit (.bool true)], args := [d1, d2, d3] }
  | _ => none }
def touchBallsRow : OpenClaim := { program := "ytaagpkacningdaa", sum := "972e5e5c59515d0345a0dde6a48f3331c098ae4197c4dccba9d2103f0dbd8e68", func := "maquette/maquettelaw10.TouchBalls", spec := "touchBalls", inPlace := ["math/bits.Add64"], unfollowed := true, recurses := true, named := ["math/bits.divideError", "math/bits.overflowError"], apart := false }
def TouchBallsSaid : Prop := touchBallsRow.holds Try.pinned (OpenSpec.ofChange touchBallsSpec)

/-- ITS FALSE NEIGHBOUR: 'it returns false'. Refute it at one input. -/
def touchBallsWrong : ChangeSpec := { name := "touchBalls", fn := fun _ => fun
  | [d1, d2, d3] => { results := [.lit (.bool false)], args := [d1, d2, d3] }
  | _ => none }
def TouchBallsWrongFalsely : Prop := touchBallsRow.holds Try.pinned (OpenSpec.ofChange touchBallsWrong)

/-- 'maquettelaw10.TouchMoves': WHATEVER THE INPUT: true; the input reads as it did. -/
def touchMovesSpec : ChangeSpec := { name := "touchMoves", fn := fun _ => fun
  | [d1, d2, d3] => { results := [.lit (.bool true)], args := [d1, d2, d3] }
  | _ => none }
def touchMovesRow : OpenClaim := { program := "ytaagpkacningdaa", sum := "972e5e5c59515d0345a0dde6a48f3331c098ae4197c4dccba9d2103f0dbd8e68", func := "maquette/maquettelaw10.TouchMoves", spec := "touchMoves", inPlace := ["math/bits.Add64"], unfollowed := true, recurses := true, named := ["math/bits.divideError", "math/bits.overflowError"], apart := false }
def TouchMovesSaid : Prop := touchMovesRow.holds Try.pinned (OpenSpec.ofChange touchMovesSpec)

/-- ITS FALSE NEIGHBOUR: 'it returns false'. Refute it at one input. -/
def touchMovesWrong : ChangeSpec := { name := "touchMoves", fn := fun _ => fun
  | [d1, d2, d3] => { results := [.lit (.bool false)], args := [d1, d2, d3] }
  | _ => none }
def TouchMovesWrongFalsely : Prop := touchMovesRow.holds Try.pinned (OpenSpec.ofChange touchMovesWrong)

/-- 'maquettelaw10.TouchSelf': WHATEVER THE INPUT: true; the input reads as it did. -/
def touchSelfSpec : ChangeSpec := { name := "touchSelf", fn := fun _ => fun
  | [d] => { results := [.lit (.bool true)], args := [d] }
  | _ => none }
def touchSelfRow : OpenClaim := { program := "ytaagpkacningdaa", sum := "972e5e5c59515d0345a0dde6a48f3331c098ae4197c4dccba9d2103f0dbd8e68", func := "maquette/maquettelaw10.TouchSelf", spec := "touchSelf", inPlace := ["math/bits.Add64"], unfollowed := true, recurses := true, named := ["math/bits.divideError", "math/bits.overflowError"], apart := false }
def TouchSelfSaid : Prop := touchSelfRow.holds Try.pinned (OpenSpec.ofChange touchSelfSpec)

/-- ITS FALSE NEIGHBOUR: 'it returns false'. Refute it at one input. -/
def touchSelfWrong : ChangeSpec := { name := "touchSelf", fn := fun _ => fun
  | [d] => { results := [.lit (.bool false)], args := [d] }
  | _ => none }
def TouchSelfWrongFalsely : Prop := touchSelfRow.holds Try.pinned (OpenSpec.ofChange touchSelfWrong)

/-- 'maquettelaw10.TouchFlips': WHATEVER THE INPUT: true; the input reads as it did. -/
def touchFlipsSpec : ChangeSpec := { name := "touchFlips", fn := fun _ => fun
  | [d1, d2] => { results := [.lit (.bool true)], args := [d1, d2] }
  | _ => none }
def touchFlipsRow : OpenClaim := { program := "ytaagpkacningdaa", sum := "972e5e5c59515d0345a0dde6a48f3331c098ae4197c4dccba9d2103f0dbd8e68", func := "maquette/maquettelaw10.TouchFlips", spec := "touchFlips", inPlace := ["math/bits.Add64"], unfollowed := true, recurses := true, named := ["math/bits.divideError", "math/bits.overflowError"], apart := false }
def TouchFlipsSaid : Prop := touchFlipsRow.holds Try.pinned (OpenSpec.ofChange touchFlipsSpec)

/-- ITS FALSE NEIGHBOUR: 'it returns false'. Refute it at one input. -/
def touchFlipsWrong : ChangeSpec := { name := "touchFlips", fn := fun _ => fun
  | [d1, d2] => { results := [.lit (.bool false)], args := [d1, d2] }
  | _ => none }
def TouchFlipsWrongFalsely : Prop := touchFlipsRow.holds Try.pinned (OpenSpec.ofChange touchFlipsWrong)

/-- 'maquettelaw10.TouchFar': WHATEVER THE INPUT: true; the input reads as it did. -/
def touchFarSpec : ChangeSpec := { name := "touchFar", fn := fun _ => fun
  | [d1, d2, d3] => { results := [.lit (.bool true)], args := [d1, d2, d3] }
  | _ => none }
def touchFarRow : OpenClaim := { program := "ytaagpkacningdaa", sum := "972e5e5c59515d0345a0dde6a48f3331c098ae4197c4dccba9d2103f0dbd8e68", func := "maquette/maquettelaw10.TouchFar", spec := "touchFar", inPlace := ["math/bits.Add64"], unfollowed := true, recurses := true, named := ["math/bits.divideError", "math/bits.overflowError"], apart := false }
def TouchFarSaid : Prop := touchFarRow.holds Try.pinned (OpenSpec.ofChange touchFarSpec)

/-- ITS FALSE NEIGHBOUR: 'it returns false'. Refute it at one input. -/
def touchFarWrong : ChangeSpec := { name := "touchFar", fn := fun _ => fun
  | [d1, d2, d3] => { results := [.lit (.bool false)], args := [d1, d2, d3] }
  | _ => none }
def TouchFarWrongFalsely : Prop := touchFarRow.holds Try.pinned (OpenSpec.ofChange touchFarWrong)

/- THE SECOND FORM. 'bulk': how many values and letters a reading holds, each counted each time it is reached (what is shared counts as often as it is met; a slice's spare places count too). A statement '..UptoSaid' is the law's where the arguments, and the package variables that the reading takes, are together of bulk at most 1048576: NARROWER than '..Said'. Prove '..Said' where nothing that the law and all that it calls make is longer than what came in: it says more and counts as full. Else prove '..UptoSaid'. A law counts once. -/
mutual
def uptoBulk {H : Type} : DataW H → Nat
  | .lit (.string bytes) => bytes.length + 1
  | .lit _ => 1
  | .nil => 1
  | .ptr d => uptoBulk d + 1
  | .slice elems spare => uptoBulkAll elems + uptoBulkAll spare + 1
  | .agg parts => uptoBulkAll parts + 1
  | .iface _ d => uptoBulk d + 1
  | .map entries => uptoBulkEntries entries + 1
  | .held _ => 1
def uptoBulkAll {H : Type} : List (DataW H) → Nat
  | [] => 0
  | d :: r => uptoBulk d + uptoBulkAll r
def uptoBulkEntries {H : Type} : List (Lit × DataW H) → Nat
  | [] => 0
  | x :: r => uptoBulkEntry x + uptoBulkEntries r
def uptoBulkEntry {H : Type} : Lit × DataW H → Nat
  | (.string bytes, d) => bytes.length + uptoBulk d + 1
  | (_, d) => uptoBulk d + 1
 end
def uptoSmall : (H : Type) → List (DataW H) → Bool := fun _ ds => decide (uptoBulkAll ds ≤ 1048576)
def OpenSpec.upto (s : _root_.Go.ChangeSpec) : _root_.Go.OpenSpec := { _root_.Go.OpenSpec.ofChange s with cond := some uptoSmall }

/-- 'maquettelaw8.BoundsMeet', WHERE WHAT IT READS IS OF BULK AT MOST 1048576: true; the input reads as it did. -/
def boundsMeetUptoRow : OpenClaim := { program := "ytaagpkacningdaa", sum := "972e5e5c59515d0345a0dde6a48f3331c098ae4197c4dccba9d2103f0dbd8e68", func := "maquette/maquettelaw8.BoundsMeet", spec := "boundsMeet", unfollowed := true, recurses := true, apart := false, narrowed := true }
def BoundsMeetUptoSaid : Prop := boundsMeetUptoRow.holds Try.pinned (OpenSpec.upto boundsMeetSpec)

/-- 'maquettelaw8.BoundsOf', WHERE WHAT IT READS IS OF BULK AT MOST 1048576: true; the input reads as it did. -/
def boundsOfUptoRow : OpenClaim := { program := "ytaagpkacningdaa", sum := "972e5e5c59515d0345a0dde6a48f3331c098ae4197c4dccba9d2103f0dbd8e68", func := "maquette/maquettelaw8.BoundsOf", spec := "boundsOf", unfollowed := true, recurses := true, apart := false, narrowed := true }
def BoundsOfUptoSaid : Prop := boundsOfUptoRow.holds Try.pinned (OpenSpec.upto boundsOfSpec)

/-- 'maquettelaw8.BoundsClamps', WHERE WHAT IT READS IS OF BULK AT MOST 1048576: true; the input reads as it did. -/
def boundsClampsUptoRow : OpenClaim := { program := "ytaagpkacningdaa", sum := "972e5e5c59515d0345a0dde6a48f3331c098ae4197c4dccba9d2103f0dbd8e68", func := "maquette/maquettelaw8.BoundsClamps", spec := "boundsClamps", unfollowed := true, recurses := true, apart := false, narrowed := true }
def BoundsClampsUptoSaid : Prop := boundsClampsUptoRow.holds Try.pinned (OpenSpec.upto boundsClampsSpec)

/-- 'maquettelaw8.BoundsTells', WHERE WHAT IT READS IS OF BULK AT MOST 1048576: true; the input reads as it did. -/
def boundsTellsUptoRow : OpenClaim := { program := "ytaagpkacningdaa", sum := "972e5e5c59515d0345a0dde6a48f3331c098ae4197c4dccba9d2103f0dbd8e68", func := "maquette/maquettelaw8.BoundsTells", spec := "boundsTells", unfollowed := true, recurses := true, apart := false, narrowed := true }
def BoundsTellsUptoSaid : Prop := boundsTellsUptoRow.holds Try.pinned (OpenSpec.upto boundsTellsSpec)

/-- 'maquettelaw8.BoundsBoth', WHERE WHAT IT READS IS OF BULK AT MOST 1048576: true; the input reads as it did. -/
def boundsBothUptoRow : OpenClaim := { program := "ytaagpkacningdaa", sum := "972e5e5c59515d0345a0dde6a48f3331c098ae4197c4dccba9d2103f0dbd8e68", func := "maquette/maquettelaw8.BoundsBoth", spec := "boundsBoth", unfollowed := true, recurses := true, apart := false, narrowed := true }
def BoundsBothUptoSaid : Prop := boundsBothUptoRow.holds Try.pinned (OpenSpec.upto boundsBothSpec)

/-- 'maquettelaw7.ShapeTells', WHERE WHAT IT READS IS OF BULK AT MOST 1048576: true; the input reads as it did. -/
def shapeTellsUptoRow : OpenClaim := { program := "ytaagpkacningdaa", sum := "972e5e5c59515d0345a0dde6a48f3331c098ae4197c4dccba9d2103f0dbd8e68", func := "maquette/maquettelaw7.ShapeTells", spec := "shapeTells", unfollowed := true, recurses := true, named := ["math/bits.divideError", "math/bits.overflowError"], apart := false, narrowed := true }
def ShapeTellsUptoSaid : Prop := shapeTellsUptoRow.holds Try.pinned (OpenSpec.upto shapeTellsSpec)

/-- 'maquettelaw7.ShapeEdges', WHERE WHAT IT READS IS OF BULK AT MOST 1048576: true; the input reads as it did. -/
def shapeEdgesUptoRow : OpenClaim := { program := "ytaagpkacningdaa", sum := "972e5e5c59515d0345a0dde6a48f3331c098ae4197c4dccba9d2103f0dbd8e68", func := "maquette/maquettelaw7.ShapeEdges", spec := "shapeEdges", unfollowed := true, recurses := true, named := ["math/bits.divideError", "math/bits.overflowError"], apart := false, narrowed := true }
def ShapeEdgesUptoSaid : Prop := shapeEdgesUptoRow.holds Try.pinned (OpenSpec.upto shapeEdgesSpec)

/-- 'maquettelaw7.ShapeSpeeds', WHERE WHAT IT READS IS OF BULK AT MOST 1048576: true; the input reads as it did. -/
def shapeSpeedsUptoRow : OpenClaim := { program := "ytaagpkacningdaa", sum := "972e5e5c59515d0345a0dde6a48f3331c098ae4197c4dccba9d2103f0dbd8e68", func := "maquette/maquettelaw7.ShapeSpeeds", spec := "shapeSpeeds", unfollowed := true, recurses := true, named := ["math/bits.divideError", "math/bits.overflowError"], apart := false, narrowed := true }
def ShapeSpeedsUptoSaid : Prop := shapeSpeedsUptoRow.holds Try.pinned (OpenSpec.upto shapeSpeedsSpec)

/-- 'maquettelaw7.ShapeNames', WHERE WHAT IT READS IS OF BULK AT MOST 1048576: true; the input reads as it did. -/
def shapeNamesUptoRow : OpenClaim := { program := "ytaagpkacningdaa", sum := "972e5e5c59515d0345a0dde6a48f3331c098ae4197c4dccba9d2103f0dbd8e68", func := "maquette/maquettelaw7.ShapeNames", spec := "shapeNames", unfollowed := true, recurses := true, named := ["math/bits.divideError", "math/bits.overflowError"], apart := false, narrowed := true }
def ShapeNamesUptoSaid : Prop := shapeNamesUptoRow.holds Try.pinned (OpenSpec.upto shapeNamesSpec)

/-- 'maquettelaw7.ShapeMoves', WHERE WHAT IT READS IS OF BULK AT MOST 1048576: true; the input reads as it did. -/
def shapeMovesUptoRow : OpenClaim := { program := "ytaagpkacningdaa", sum := "972e5e5c59515d0345a0dde6a48f3331c098ae4197c4dccba9d2103f0dbd8e68", func := "maquette/maquettelaw7.ShapeMoves", spec := "shapeMoves", unfollowed := true, recurses := true, named := ["math/bits.divideError", "math/bits.overflowError"], apart := false, narrowed := true }
def ShapeMovesUptoSaid : Prop := shapeMovesUptoRow.holds Try.pinned (OpenSpec.upto shapeMovesSpec)

/-- 'maquettelaw3.CalcPanics', WHERE WHAT IT READS IS OF BULK AT MOST 1048576: true; the input reads as it did. -/
def calcPanicsUptoRow : OpenClaim := { program := "ytaagpkacningdaa", sum := "972e5e5c59515d0345a0dde6a48f3331c098ae4197c4dccba9d2103f0dbd8e68", func := "maquette/maquettelaw3.CalcPanics", spec := "calcPanics", unfollowed := true, recurses := true, named := ["math/bits.divideError", "math/bits.overflowError"], apart := false, narrowed := true }
def CalcPanicsUptoSaid : Prop := calcPanicsUptoRow.holds Try.pinned (OpenSpec.upto calcPanicsSpec)

/-- 'maquettelaw3.CalcSums', WHERE WHAT IT READS IS OF BULK AT MOST 1048576: true; the input reads as it did. -/
def calcSumsUptoRow : OpenClaim := { program := "ytaagpkacningdaa", sum := "972e5e5c59515d0345a0dde6a48f3331c098ae4197c4dccba9d2103f0dbd8e68", func := "maquette/maquettelaw3.CalcSums", spec := "calcSums", unfollowed := true, recurses := true, named := ["math/bits.divideError", "math/bits.overflowError"], apart := false, narrowed := true }
def CalcSumsUptoSaid : Prop := calcSumsUptoRow.holds Try.pinned (OpenSpec.upto calcSumsSpec)

/-- 'maquettelaw3.CalcBehind', WHERE WHAT IT READS IS OF BULK AT MOST 1048576: true; the input reads as it did. -/
def calcBehindUptoRow : OpenClaim := { program := "ytaagpkacningdaa", sum := "972e5e5c59515d0345a0dde6a48f3331c098ae4197c4dccba9d2103f0dbd8e68", func := "maquette/maquettelaw3.CalcBehind", spec := "calcBehind", unfollowed := true, recurses := true, named := ["math/bits.divideError", "math/bits.overflowError"], apart := false, narrowed := true }
def CalcBehindUptoSaid : Prop := calcBehindUptoRow.holds Try.pinned (OpenSpec.upto calcBehindSpec)

/-- 'maquettelaw3.CalcNested', WHERE WHAT IT READS IS OF BULK AT MOST 1048576: true; the input reads as it did. -/
def calcNestedUptoRow : OpenClaim := { program := "ytaagpkacningdaa", sum := "972e5e5c59515d0345a0dde6a48f3331c098ae4197c4dccba9d2103f0dbd8e68", func := "maquette/maquettelaw3.CalcNested", spec := "calcNested", unfollowed := true, recurses := true, named := ["math/bits.divideError", "math/bits.overflowError"], apart := false, narrowed := true }
def CalcNestedUptoSaid : Prop := calcNestedUptoRow.holds Try.pinned (OpenSpec.upto calcNestedSpec)

/-- 'maquettelaw3.CalcOrder', WHERE WHAT IT READS IS OF BULK AT MOST 1048576: true; the input reads as it did. -/
def calcOrderUptoRow : OpenClaim := { program := "ytaagpkacningdaa", sum := "972e5e5c59515d0345a0dde6a48f3331c098ae4197c4dccba9d2103f0dbd8e68", func := "maquette/maquettelaw3.CalcOrder", spec := "calcOrder", unfollowed := true, recurses := true, named := ["math/bits.divideError", "math/bits.overflowError"], apart := false, narrowed := true }
def CalcOrderUptoSaid : Prop := calcOrderUptoRow.holds Try.pinned (OpenSpec.upto calcOrderSpec)

/-- 'maquettelaw3.CalcDots', WHERE WHAT IT READS IS OF BULK AT MOST 1048576: true; the input reads as it did. -/
def calcDotsUptoRow : OpenClaim := { program := "ytaagpkacningdaa", sum := "972e5e5c59515d0345a0dde6a48f3331c098ae4197c4dccba9d2103f0dbd8e68", func := "maquette/maquettelaw3.CalcDots", spec := "calcDots", unfollowed := true, recurses := true, named := ["math/bits.divideError", "math/bits.overflowError"], apart := false, narrowed := true }
def CalcDotsUptoSaid : Prop := calcDotsUptoRow.holds Try.pinned (OpenSpec.upto calcDotsSpec)

/-- 'maquettelaw3.CalcTells', WHERE WHAT IT READS IS OF BULK AT MOST 1048576: true; the input reads as it did. -/
def calcTellsUptoRow : OpenClaim := { program := "ytaagpkacningdaa", sum := "972e5e5c59515d0345a0dde6a48f3331c098ae4197c4dccba9d2103f0dbd8e68", func := "maquette/maquettelaw3.CalcTells", spec := "calcTells", unfollowed := true, recurses := true, named := ["math/bits.divideError", "math/bits.overflowError"], apart := false, narrowed := true }
def CalcTellsUptoSaid : Prop := calcTellsUptoRow.holds Try.pinned (OpenSpec.upto calcTellsSpec)

/-- 'maquettelaw3.CalcValues', WHERE WHAT IT READS IS OF BULK AT MOST 1048576: true; the input reads as it did. -/
def calcValuesUptoRow : OpenClaim := { program := "ytaagpkacningdaa", sum := "972e5e5c59515d0345a0dde6a48f3331c098ae4197c4dccba9d2103f0dbd8e68", func := "maquette/maquettelaw3.CalcValues", spec := "calcValues", unfollowed := true, recurses := true, named := ["math/bits.divideError", "math/bits.overflowError"], apart := false, narrowed := true }
def CalcValuesUptoSaid : Prop := calcValuesUptoRow.holds Try.pinned (OpenSpec.upto calcValuesSpec)

/-- 'maquettelaw6.VecUnits', WHERE WHAT IT READS IS OF BULK AT MOST 1048576: true; the input reads as it did. -/
def vecUnitsUptoRow : OpenClaim := { program := "ytaagpkacningdaa", sum := "972e5e5c59515d0345a0dde6a48f3331c098ae4197c4dccba9d2103f0dbd8e68", func := "maquette/maquettelaw6.VecUnits", spec := "vecUnits", inPlace := ["math/bits.Add64"], unfollowed := true, recurses := true, named := ["math/bits.divideError", "math/bits.overflowError"], apart := false, narrowed := true }
def VecUnitsUptoSaid : Prop := vecUnitsUptoRow.holds Try.pinned (OpenSpec.upto vecUnitsSpec)

/-- 'maquettelaw6.VecLengths', WHERE WHAT IT READS IS OF BULK AT MOST 1048576: true; the input reads as it did. -/
def vecLengthsUptoRow : OpenClaim := { program := "ytaagpkacningdaa", sum := "972e5e5c59515d0345a0dde6a48f3331c098ae4197c4dccba9d2103f0dbd8e68", func := "maquette/maquettelaw6.VecLengths", spec := "vecLengths", inPlace := ["math/bits.Add64"], unfollowed := true, recurses := true, named := ["math/bits.divideError", "math/bits.overflowError"], apart := false, narrowed := true }
def VecLengthsUptoSaid : Prop := vecLengthsUptoRow.holds Try.pinned (OpenSpec.upto vecLengthsSpec)

/-- 'maquettelaw6.VecShares', WHERE WHAT IT READS IS OF BULK AT MOST 1048576: true; the input reads as it did. -/
def vecSharesUptoRow : OpenClaim := { program := "ytaagpkacningdaa", sum := "972e5e5c59515d0345a0dde6a48f3331c098ae4197c4dccba9d2103f0dbd8e68", func := "maquette/maquettelaw6.VecShares", spec := "vecShares", inPlace := ["math/bits.Add64"], unfollowed := true, recurses := true, named := ["math/bits.divideError", "math/bits.overflowError"], apart := false, narrowed := true }
def VecSharesUptoSaid : Prop := vecSharesUptoRow.holds Try.pinned (OpenSpec.upto vecSharesSpec)

/-- 'maquettelaw6.VecDots', WHERE WHAT IT READS IS OF BULK AT MOST 1048576: true; the input reads as it did. -/
def vecDotsUptoRow : OpenClaim := { program := "ytaagpkacningdaa", sum := "972e5e5c59515d0345a0dde6a48f3331c098ae4197c4dccba9d2103f0dbd8e68", func := "maquette/maquettelaw6.VecDots", spec := "vecDots", inPlace := ["math/bits.Add64"], unfollowed := true, recurses := true, named := ["math/bits.divideError", "math/bits.overflowError"], apart := false, narrowed := true }
def VecDotsUptoSaid : Prop := vecDotsUptoRow.holds Try.pinned (OpenSpec.upto vecDotsSpec)

/-- 'maquettelaw11.PushApart', WHERE WHAT IT READS IS OF BULK AT MOST 1048576: true; the input reads as it did. -/
def pushApartUptoRow : OpenClaim := { program := "ytaagpkacningdaa", sum := "972e5e5c59515d0345a0dde6a48f3331c098ae4197c4dccba9d2103f0dbd8e68", func := "maquette/maquettelaw11.PushApart", spec := "pushApart", unfollowed := true, recurses := true, named := ["math/bits.divideError", "math/bits.overflowError"], apart := false, narrowed := true }
def PushApartUptoSaid : Prop := pushApartUptoRow.holds Try.pinned (OpenSpec.upto pushApartSpec)

/-- 'maquettelaw11.PushSlows', WHERE WHAT IT READS IS OF BULK AT MOST 1048576: true; the input reads as it did. -/
def pushSlowsUptoRow : OpenClaim := { program := "ytaagpkacningdaa", sum := "972e5e5c59515d0345a0dde6a48f3331c098ae4197c4dccba9d2103f0dbd8e68", func := "maquette/maquettelaw11.PushSlows", spec := "pushSlows", unfollowed := true, recurses := true, named := ["math/bits.divideError", "math/bits.overflowError"], apart := false, narrowed := true }
def PushSlowsUptoSaid : Prop := pushSlowsUptoRow.holds Try.pinned (OpenSpec.upto pushSlowsSpec)

/-- 'maquettelaw6.VecSums', WHERE WHAT IT READS IS OF BULK AT MOST 1048576: true; the input reads as it did. -/
def vecSumsUptoRow : OpenClaim := { program := "ytaagpkacningdaa", sum := "972e5e5c59515d0345a0dde6a48f3331c098ae4197c4dccba9d2103f0dbd8e68", func := "maquette/maquettelaw6.VecSums", spec := "vecSums", inPlace := ["math/bits.Add64"], unfollowed := true, recurses := true, named := ["math/bits.divideError", "math/bits.overflowError"], apart := false, narrowed := true }
def VecSumsUptoSaid : Prop := vecSumsUptoRow.holds Try.pinned (OpenSpec.upto vecSumsSpec)

/-- 'maquettelaw6.VecTells', WHERE WHAT IT READS IS OF BULK AT MOST 1048576: true; the input reads as it did. -/
def vecTellsUptoRow : OpenClaim := { program := "ytaagpkacningdaa", sum := "972e5e5c59515d0345a0dde6a48f3331c098ae4197c4dccba9d2103f0dbd8e68", func := "maquette/maquettelaw6.VecTells", spec := "vecTells", inPlace := ["math/bits.Add64"], unfollowed := true, recurses := true, named := ["math/bits.divideError", "math/bits.overflowError"], apart := false, narrowed := true }
def VecTellsUptoSaid : Prop := vecTellsUptoRow.holds Try.pinned (OpenSpec.upto vecTellsSpec)

/-- 'maquettelaw11.PushNothing', WHERE WHAT IT READS IS OF BULK AT MOST 1048576: true; the input reads as it did. -/
def pushNothingUptoRow : OpenClaim := { program := "ytaagpkacningdaa", sum := "972e5e5c59515d0345a0dde6a48f3331c098ae4197c4dccba9d2103f0dbd8e68", func := "maquette/maquettelaw11.PushNothing", spec := "pushNothing", inPlace := ["math/bits.Add64"], unfollowed := true, recurses := true, named := ["math/bits.divideError", "math/bits.overflowError"], apart := false, narrowed := true }
def PushNothingUptoSaid : Prop := pushNothingUptoRow.holds Try.pinned (OpenSpec.upto pushNothingSpec)

/-- 'maquettelaw11.PushPulls', WHERE WHAT IT READS IS OF BULK AT MOST 1048576: true; the input reads as it did. -/
def pushPullsUptoRow : OpenClaim := { program := "ytaagpkacningdaa", sum := "972e5e5c59515d0345a0dde6a48f3331c098ae4197c4dccba9d2103f0dbd8e68", func := "maquette/maquettelaw11.PushPulls", spec := "pushPulls", inPlace := ["math/bits.Add64"], unfollowed := true, recurses := true, named := ["math/bits.divideError", "math/bits.overflowError"], apart := false, narrowed := true }
def PushPullsUptoSaid : Prop := pushPullsUptoRow.holds Try.pinned (OpenSpec.upto pushPullsSpec)

/-- 'maquettelaw11.PushTells', WHERE WHAT IT READS IS OF BULK AT MOST 1048576: true; the input reads as it did. -/
def pushTellsUptoRow : OpenClaim := { program := "ytaagpkacningdaa", sum := "972e5e5c59515d0345a0dde6a48f3331c098ae4197c4dccba9d2103f0dbd8e68", func := "maquette/maquettelaw11.PushTells", spec := "pushTells", inPlace := ["math/bits.Add64"], unfollowed := true, recurses := true, named := ["math/bits.divideError", "math/bits.overflowError"], apart := false, narrowed := true }
def PushTellsUptoSaid : Prop := pushTellsUptoRow.holds Try.pinned (OpenSpec.upto pushTellsSpec)

/-- 'maquettelaw11.PushKeeps', WHERE WHAT IT READS IS OF BULK AT MOST 1048576: true; the input reads as it did. -/
def pushKeepsUptoRow : OpenClaim := { program := "ytaagpkacningdaa", sum := "972e5e5c59515d0345a0dde6a48f3331c098ae4197c4dccba9d2103f0dbd8e68", func := "maquette/maquettelaw11.PushKeeps", spec := "pushKeeps", inPlace := ["math/bits.Add64"], unfollowed := true, recurses := true, named := ["math/bits.divideError", "math/bits.overflowError"], apart := false, narrowed := true }
def PushKeepsUptoSaid : Prop := pushKeepsUptoRow.holds Try.pinned (OpenSpec.upto pushKeepsSpec)

/-- 'maquettelaw11.PushFixed', WHERE WHAT IT READS IS OF BULK AT MOST 1048576: true; the input reads as it did. -/
def pushFixedUptoRow : OpenClaim := { program := "ytaagpkacningdaa", sum := "972e5e5c59515d0345a0dde6a48f3331c098ae4197c4dccba9d2103f0dbd8e68", func := "maquette/maquettelaw11.PushFixed", spec := "pushFixed", inPlace := ["math/bits.Add64"], unfollowed := true, recurses := true, named := ["math/bits.divideError", "math/bits.overflowError"], apart := false, narrowed := true }
def PushFixedUptoSaid : Prop := pushFixedUptoRow.holds Try.pinned (OpenSpec.upto pushFixedSpec)

/-- 'maquettelaw10.TouchTells', WHERE WHAT IT READS IS OF BULK AT MOST 1048576: true; the input reads as it did. -/
def touchTellsUptoRow : OpenClaim := { program := "ytaagpkacningdaa", sum := "972e5e5c59515d0345a0dde6a48f3331c098ae4197c4dccba9d2103f0dbd8e68", func := "maquette/maquettelaw10.TouchTells", spec := "touchTells", inPlace := ["math/bits.Add64"], unfollowed := true, recurses := true, named := ["math/bits.divideError", "math/bits.overflowError"], apart := false, narrowed := true }
def TouchTellsUptoSaid : Prop := touchTellsUptoRow.holds Try.pinned (OpenSpec.upto touchTellsSpec)

/-- 'maquettelaw10.TouchBoth', WHERE WHAT IT READS IS OF BULK AT MOST 1048576: true; the input reads as it did. -/
def touchBothUptoRow : OpenClaim := { program := "ytaagpkacningdaa", sum := "972e5e5c59515d0345a0dde6a48f3331c098ae4197c4dccba9d2103f0dbd8e68", func := "maquette/maquettelaw10.TouchBoth", spec := "touchBoth", inPlace := ["math/bits.Add64"], unfollowed := true, recurses := true, named := ["math/bits.divideError", "math/bits.overflowError"], apart := false, narrowed := true }
def TouchBothUptoSaid : Prop := touchBothUptoRow.holds Try.pinned (OpenSpec.upto touchBothSpec)

/-- 'maquettelaw10.TouchBalls', WHERE WHAT IT READS IS OF BULK AT MOST 1048576: true; the input reads as it did. -/
def touchBallsUptoRow : OpenClaim := { program := "ytaagpkacningdaa", sum := "972e5e5c59515d0345a0dde6a48f3331c098ae4197c4dccba9d2103f0dbd8e68", func := "maquette/maquettelaw10.TouchBalls", spec := "touchBalls", inPlace := ["math/bits.Add64"], unfollowed := true, recurses := true, named := ["math/bits.divideError", "math/bits.overflowError"], apart := false, narrowed := true }
def TouchBallsUptoSaid : Prop := touchBallsUptoRow.holds Try.pinned (OpenSpec.upto touchBallsSpec)

/-- 'maquettelaw10.TouchMoves', WHERE WHAT IT READS IS OF BULK AT MOST 1048576: true; the input reads as it did. -/
def touchMovesUptoRow : OpenClaim := { program := "ytaagpkacningdaa", sum := "972e5e5c59515d0345a0dde6a48f3331c098ae4197c4dccba9d2103f0dbd8e68", func := "maquette/maquettelaw10.TouchMoves", spec := "touchMoves", inPlace := ["math/bits.Add64"], unfollowed := true, recurses := true, named := ["math/bits.divideError", "math/bits.overflowError"], apart := false, narrowed := true }
def TouchMovesUptoSaid : Prop := touchMovesUptoRow.holds Try.pinned (OpenSpec.upto touchMovesSpec)

/-- 'maquettelaw10.TouchSelf', WHERE WHAT IT READS IS OF BULK AT MOST 1048576: true; the input reads as it did. -/
def touchSelfUptoRow : OpenClaim := { program := "ytaagpkacningdaa", sum := "972e5e5c59515d0345a0dde6a48f3331c098ae4197c4dccba9d2103f0dbd8e68", func := "maquette/maquettelaw10.TouchSelf", spec := "touchSelf", inPlace := ["math/bits.Add64"], unfollowed := true, recurses := true, named := ["math/bits.divideError", "math/bits.overflowError"], apart := false, narrowed := true }
def TouchSelfUptoSaid : Prop := touchSelfUptoRow.holds Try.pinned (OpenSpec.upto touchSelfSpec)

/-- 'maquettelaw10.TouchFlips', WHERE WHAT IT READS IS OF BULK AT MOST 1048576: true; the input reads as it did. -/
def touchFlipsUptoRow : OpenClaim := { program := "ytaagpkacningdaa", sum := "972e5e5c59515d0345a0dde6a48f3331c098ae4197c4dccba9d2103f0dbd8e68", func := "maquette/maquettelaw10.TouchFlips", spec := "touchFlips", inPlace := ["math/bits.Add64"], unfollowed := true, recurses := true, named := ["math/bits.divideError", "math/bits.overflowError"], apart := false, narrowed := true }
def TouchFlipsUptoSaid : Prop := touchFlipsUptoRow.holds Try.pinned (OpenSpec.upto touchFlipsSpec)

/-- 'maquettelaw10.TouchFar', WHERE WHAT IT READS IS OF BULK AT MOST 1048576: true; the input reads as it did. -/
def touchFarUptoRow : OpenClaim := { program := "ytaagpkacningdaa", sum := "972e5e5c59515d0345a0dde6a48f3331c098ae4197c4dccba9d2103f0dbd8e68", func := "maquette/maquettelaw10.TouchFar", spec := "touchFar", inPlace := ["math/bits.Add64"], unfollowed := true, recurses := true, named := ["math/bits.divideError", "math/bits.overflowError"], apart := false, narrowed := true }
def TouchFarUptoSaid : Prop := touchFarUptoRow.holds Try.pinned (OpenSpec.upto touchFarSpec)

end Rows
end Go.Proofs.Ytaagpkacningdaa
