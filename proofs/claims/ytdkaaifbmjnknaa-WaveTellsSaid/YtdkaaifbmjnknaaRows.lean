/-
  No cell of these rows narrows 'for every input' (looked for: loops, veiled, ifaces, maps, wideKeys, modest, calm, conditions, laid).
  DERIVED. THE GIVEN ROWS OF THIS SEAT. 22 by the template 'for every input the law returns true; each argument reads behind the call as it read before'; 0 by the template 'total and deterministic' (their statements: YtdkaaifbmjnknaaTotals.lean).
  GIVEN WITH THE SEED: the statements are not yours to turn. If you find one false, say at which input.
  Laid BY PROGRAM, IN A SANDBOX (cutbox-rows.mjs): the forced cells as the released guide's own fill.sh prints them over the translation c77d8df1adc89fb1… (all of the seat's roots in one cut). By AI agents, Wed Nov 11 2026. No macro, syntax, notation, axiom, sorry.
-/
import Derived.Test.YtdkaaifbmjnknaaChecked
import GoSem.Claim
import GoSem.ClaimJoined
import GoSem.ClaimMapViews
import Derived.JoinedTies
import Derived.KernelRfl
namespace Go.Proofs.Ytdkaaifbmjnknaa
/- THE CELL 'sum', in the pinned program and in every row, IS THE sha256 OF THE DUMP (.gsa) THAT YtdkaaifbmjnknaaProg.lean LOADS. Nothing in Lean hashes anything: it is a label: what it is worth is what the hold of that sum in a sandbox is worth. -/
noncomputable def Try.pinned : Pinned := { name := "ytdkaaifbmjnknaa", sum := "c77d8df1adc89fb122cf8417fa2f319bad9c0b91cedb5e1672c57e9d012c3778", checked := Try.checked }
namespace Rows
def none {H : Type} : Left H := { results := [], args := [] }

/-- 'maquettelaw4.RootTells': WHATEVER THE INPUT: true; the input reads as it did. -/
def rootTellsSpec : ChangeSpec := { name := "rootTells", fn := fun _ => fun
  | [d1, d2, d3] => { results := [.lit (.bool true)], args := [d1, d2, d3] }
  | _ => none }
def rootTellsRow : OpenClaim := { program := "ytdkaaifbmjnknaa", sum := "c77d8df1adc89fb122cf8417fa2f319bad9c0b91cedb5e1672c57e9d012c3778", func := "maquette/maquettelaw4.RootTells", spec := "rootTells", inPlace := ["math/bits.Add64"], apart := false }
def RootTellsSaid : Prop := rootTellsRow.holds Try.pinned (OpenSpec.ofChange rootTellsSpec)

/-- ITS FALSE NEIGHBOUR: 'it returns false'. Refute it at one input. -/
def rootTellsWrong : ChangeSpec := { name := "rootTells", fn := fun _ => fun
  | [d1, d2, d3] => { results := [.lit (.bool false)], args := [d1, d2, d3] }
  | _ => none }
def RootTellsWrongFalsely : Prop := rootTellsRow.holds Try.pinned (OpenSpec.ofChange rootTellsWrong)

/-- 'maquettelaw4.RootSquares': WHATEVER THE INPUT: true; the input reads as it did. -/
def rootSquaresSpec : ChangeSpec := { name := "rootSquares", fn := fun _ => fun
  | [d1, d2] => { results := [.lit (.bool true)], args := [d1, d2] }
  | _ => none }
def rootSquaresRow : OpenClaim := { program := "ytdkaaifbmjnknaa", sum := "c77d8df1adc89fb122cf8417fa2f319bad9c0b91cedb5e1672c57e9d012c3778", func := "maquette/maquettelaw4.RootSquares", spec := "rootSquares", inPlace := ["math/bits.Add64"], apart := false }
def RootSquaresSaid : Prop := rootSquaresRow.holds Try.pinned (OpenSpec.ofChange rootSquaresSpec)

/-- ITS FALSE NEIGHBOUR: 'it returns false'. Refute it at one input. -/
def rootSquaresWrong : ChangeSpec := { name := "rootSquares", fn := fun _ => fun
  | [d1, d2] => { results := [.lit (.bool false)], args := [d1, d2] }
  | _ => none }
def RootSquaresWrongFalsely : Prop := rootSquaresRow.holds Try.pinned (OpenSpec.ofChange rootSquaresWrong)

/-- 'maquettelaw4.RootLengths': WHATEVER THE INPUT: true; the input reads as it did. -/
def rootLengthsSpec : ChangeSpec := { name := "rootLengths", fn := fun _ => fun
  | [d1, d2] => { results := [.lit (.bool true)], args := [d1, d2] }
  | _ => none }
def rootLengthsRow : OpenClaim := { program := "ytdkaaifbmjnknaa", sum := "c77d8df1adc89fb122cf8417fa2f319bad9c0b91cedb5e1672c57e9d012c3778", func := "maquette/maquettelaw4.RootLengths", spec := "rootLengths", inPlace := ["math/bits.Add64"], apart := false }
def RootLengthsSaid : Prop := rootLengthsRow.holds Try.pinned (OpenSpec.ofChange rootLengthsSpec)

/-- ITS FALSE NEIGHBOUR: 'it returns false'. Refute it at one input. -/
def rootLengthsWrong : ChangeSpec := { name := "rootLengths", fn := fun _ => fun
  | [d1, d2] => { results := [.lit (.bool false)], args := [d1, d2] }
  | _ => none }
def RootLengthsWrongFalsely : Prop := rootLengthsRow.holds Try.pinned (OpenSpec.ofChange rootLengthsWrong)

/-- 'maquettelaw4.RootRises': WHATEVER THE INPUT: true; the input reads as it did. -/
def rootRisesSpec : ChangeSpec := { name := "rootRises", fn := fun _ => fun
  | [d1, d2, d3] => { results := [.lit (.bool true)], args := [d1, d2, d3] }
  | _ => none }
def rootRisesRow : OpenClaim := { program := "ytdkaaifbmjnknaa", sum := "c77d8df1adc89fb122cf8417fa2f319bad9c0b91cedb5e1672c57e9d012c3778", func := "maquette/maquettelaw4.RootRises", spec := "rootRises", inPlace := ["math/bits.Add64"], apart := false }
def RootRisesSaid : Prop := rootRisesRow.holds Try.pinned (OpenSpec.ofChange rootRisesSpec)

/-- ITS FALSE NEIGHBOUR: 'it returns false'. Refute it at one input. -/
def rootRisesWrong : ChangeSpec := { name := "rootRises", fn := fun _ => fun
  | [d1, d2, d3] => { results := [.lit (.bool false)], args := [d1, d2, d3] }
  | _ => none }
def RootRisesWrongFalsely : Prop := rootRisesRow.holds Try.pinned (OpenSpec.ofChange rootRisesWrong)

/-- 'maquettelaw4.RootSides': WHATEVER THE INPUT: true; the input reads as it did. -/
def rootSidesSpec : ChangeSpec := { name := "rootSides", fn := fun _ => fun
  | [d1, d2] => { results := [.lit (.bool true)], args := [d1, d2] }
  | _ => none }
def rootSidesRow : OpenClaim := { program := "ytdkaaifbmjnknaa", sum := "c77d8df1adc89fb122cf8417fa2f319bad9c0b91cedb5e1672c57e9d012c3778", func := "maquette/maquettelaw4.RootSides", spec := "rootSides", inPlace := ["math/bits.Add64"], apart := false }
def RootSidesSaid : Prop := rootSidesRow.holds Try.pinned (OpenSpec.ofChange rootSidesSpec)

/-- ITS FALSE NEIGHBOUR: 'it returns false'. Refute it at one input. -/
def rootSidesWrong : ChangeSpec := { name := "rootSides", fn := fun _ => fun
  | [d1, d2] => { results := [.lit (.bool false)], args := [d1, d2] }
  | _ => none }
def RootSidesWrongFalsely : Prop := rootSidesRow.holds Try.pinned (OpenSpec.ofChange rootSidesWrong)

/-- 'maquettelaw4.RootScales': WHATEVER THE INPUT: true; the input reads as it did. -/
def rootScalesSpec : ChangeSpec := { name := "rootScales", fn := fun _ => fun
  | [d] => { results := [.lit (.bool true)], args := [d] }
  | _ => none }
def rootScalesRow : OpenClaim := { program := "ytdkaaifbmjnknaa", sum := "c77d8df1adc89fb122cf8417fa2f319bad9c0b91cedb5e1672c57e9d012c3778", func := "maquette/maquettelaw4.RootScales", spec := "rootScales", inPlace := ["math/bits.Add64"], apart := false }
def RootScalesSaid : Prop := rootScalesRow.holds Try.pinned (OpenSpec.ofChange rootScalesSpec)

/-- ITS FALSE NEIGHBOUR: 'it returns false'. Refute it at one input. -/
def rootScalesWrong : ChangeSpec := { name := "rootScales", fn := fun _ => fun
  | [d] => { results := [.lit (.bool false)], args := [d] }
  | _ => none }
def RootScalesWrongFalsely : Prop := rootScalesRow.holds Try.pinned (OpenSpec.ofChange rootScalesWrong)

/-- 'maquettelaw4.RootBelow': WHATEVER THE INPUT: true; the input reads as it did. -/
def rootBelowSpec : ChangeSpec := { name := "rootBelow", fn := fun _ => fun
  | [d] => { results := [.lit (.bool true)], args := [d] }
  | _ => none }
def rootBelowRow : OpenClaim := { program := "ytdkaaifbmjnknaa", sum := "c77d8df1adc89fb122cf8417fa2f319bad9c0b91cedb5e1672c57e9d012c3778", func := "maquette/maquettelaw4.RootBelow", spec := "rootBelow", inPlace := ["math/bits.Add64"], apart := false }
def RootBelowSaid : Prop := rootBelowRow.holds Try.pinned (OpenSpec.ofChange rootBelowSpec)

/-- ITS FALSE NEIGHBOUR: 'it returns false'. Refute it at one input. -/
def rootBelowWrong : ChangeSpec := { name := "rootBelow", fn := fun _ => fun
  | [d] => { results := [.lit (.bool false)], args := [d] }
  | _ => none }
def RootBelowWrongFalsely : Prop := rootBelowRow.holds Try.pinned (OpenSpec.ofChange rootBelowWrong)

/-- 'maquettelaw1.FixDivides': WHATEVER THE INPUT: true; the input reads as it did. -/
def fixDividesSpec : ChangeSpec := { name := "fixDivides", fn := fun _ => fun
  | [d1, d2] => { results := [.lit (.bool true)], args := [d1, d2] }
  | _ => none }
def fixDividesRow : OpenClaim := { program := "ytdkaaifbmjnknaa", sum := "c77d8df1adc89fb122cf8417fa2f319bad9c0b91cedb5e1672c57e9d012c3778", func := "maquette/maquettelaw1.FixDivides", spec := "fixDivides", named := ["math/bits.divideError", "math/bits.overflowError"], apart := false }
def FixDividesSaid : Prop := fixDividesRow.holds Try.pinned (OpenSpec.ofChange fixDividesSpec)

/-- ITS FALSE NEIGHBOUR: 'it returns false'. Refute it at one input. -/
def fixDividesWrong : ChangeSpec := { name := "fixDivides", fn := fun _ => fun
  | [d1, d2] => { results := [.lit (.bool false)], args := [d1, d2] }
  | _ => none }
def FixDividesWrongFalsely : Prop := fixDividesRow.holds Try.pinned (OpenSpec.ofChange fixDividesWrong)

/-- 'maquettelaw1.FixHalves': WHATEVER THE INPUT: true; the input reads as it did. -/
def fixHalvesSpec : ChangeSpec := { name := "fixHalves", fn := fun _ => fun
  | [d] => { results := [.lit (.bool true)], args := [d] }
  | _ => none }
def fixHalvesRow : OpenClaim := { program := "ytdkaaifbmjnknaa", sum := "c77d8df1adc89fb122cf8417fa2f319bad9c0b91cedb5e1672c57e9d012c3778", func := "maquette/maquettelaw1.FixHalves", spec := "fixHalves", named := ["math/bits.divideError", "math/bits.overflowError"], apart := false }
def FixHalvesSaid : Prop := fixHalvesRow.holds Try.pinned (OpenSpec.ofChange fixHalvesSpec)

/-- ITS FALSE NEIGHBOUR: 'it returns false'. Refute it at one input. -/
def fixHalvesWrong : ChangeSpec := { name := "fixHalves", fn := fun _ => fun
  | [d] => { results := [.lit (.bool false)], args := [d] }
  | _ => none }
def FixHalvesWrongFalsely : Prop := fixHalvesRow.holds Try.pinned (OpenSpec.ofChange fixHalvesWrong)

/-- 'maquettelaw1.FixOrders': WHATEVER THE INPUT: true; the input reads as it did. -/
def fixOrdersSpec : ChangeSpec := { name := "fixOrders", fn := fun _ => fun
  | [d1, d2, d3] => { results := [.lit (.bool true)], args := [d1, d2, d3] }
  | _ => none }
def fixOrdersRow : OpenClaim := { program := "ytdkaaifbmjnknaa", sum := "c77d8df1adc89fb122cf8417fa2f319bad9c0b91cedb5e1672c57e9d012c3778", func := "maquette/maquettelaw1.FixOrders", spec := "fixOrders", named := ["math/bits.divideError", "math/bits.overflowError"], apart := false }
def FixOrdersSaid : Prop := fixOrdersRow.holds Try.pinned (OpenSpec.ofChange fixOrdersSpec)

/-- ITS FALSE NEIGHBOUR: 'it returns false'. Refute it at one input. -/
def fixOrdersWrong : ChangeSpec := { name := "fixOrders", fn := fun _ => fun
  | [d1, d2, d3] => { results := [.lit (.bool false)], args := [d1, d2, d3] }
  | _ => none }
def FixOrdersWrongFalsely : Prop := fixOrdersRow.holds Try.pinned (OpenSpec.ofChange fixOrdersWrong)

/-- 'maquettelaw1.FixLaws': WHATEVER THE INPUT: true; the input reads as it did. -/
def fixLawsSpec : ChangeSpec := { name := "fixLaws", fn := fun _ => fun
  | [d1, d2] => { results := [.lit (.bool true)], args := [d1, d2] }
  | _ => none }
def fixLawsRow : OpenClaim := { program := "ytdkaaifbmjnknaa", sum := "c77d8df1adc89fb122cf8417fa2f319bad9c0b91cedb5e1672c57e9d012c3778", func := "maquette/maquettelaw1.FixLaws", spec := "fixLaws", named := ["math/bits.divideError", "math/bits.overflowError"], apart := false }
def FixLawsSaid : Prop := fixLawsRow.holds Try.pinned (OpenSpec.ofChange fixLawsSpec)

/-- ITS FALSE NEIGHBOUR: 'it returns false'. Refute it at one input. -/
def fixLawsWrong : ChangeSpec := { name := "fixLaws", fn := fun _ => fun
  | [d1, d2] => { results := [.lit (.bool false)], args := [d1, d2] }
  | _ => none }
def FixLawsWrongFalsely : Prop := fixLawsRow.holds Try.pinned (OpenSpec.ofChange fixLawsWrong)

/-- 'maquettelaw1.FixWholes': WHATEVER THE INPUT: true; the input reads as it did. -/
def fixWholesSpec : ChangeSpec := { name := "fixWholes", fn := fun _ => fun
  | [d1, d2] => { results := [.lit (.bool true)], args := [d1, d2] }
  | _ => none }
def fixWholesRow : OpenClaim := { program := "ytdkaaifbmjnknaa", sum := "c77d8df1adc89fb122cf8417fa2f319bad9c0b91cedb5e1672c57e9d012c3778", func := "maquette/maquettelaw1.FixWholes", spec := "fixWholes", named := ["math/bits.divideError", "math/bits.overflowError"], apart := false }
def FixWholesSaid : Prop := fixWholesRow.holds Try.pinned (OpenSpec.ofChange fixWholesSpec)

/-- ITS FALSE NEIGHBOUR: 'it returns false'. Refute it at one input. -/
def fixWholesWrong : ChangeSpec := { name := "fixWholes", fn := fun _ => fun
  | [d1, d2] => { results := [.lit (.bool false)], args := [d1, d2] }
  | _ => none }
def FixWholesWrongFalsely : Prop := fixWholesRow.holds Try.pinned (OpenSpec.ofChange fixWholesWrong)

/-- 'maquettelaw1.FixTells': WHATEVER THE INPUT: true; the input reads as it did. -/
def fixTellsSpec : ChangeSpec := { name := "fixTells", fn := fun _ => fun
  | [d1, d2, d3] => { results := [.lit (.bool true)], args := [d1, d2, d3] }
  | _ => none }
def fixTellsRow : OpenClaim := { program := "ytdkaaifbmjnknaa", sum := "c77d8df1adc89fb122cf8417fa2f319bad9c0b91cedb5e1672c57e9d012c3778", func := "maquette/maquettelaw1.FixTells", spec := "fixTells", named := ["math/bits.divideError", "math/bits.overflowError"], apart := false }
def FixTellsSaid : Prop := fixTellsRow.holds Try.pinned (OpenSpec.ofChange fixTellsSpec)

/-- ITS FALSE NEIGHBOUR: 'it returns false'. Refute it at one input. -/
def fixTellsWrong : ChangeSpec := { name := "fixTells", fn := fun _ => fun
  | [d1, d2, d3] => { results := [.lit (.bool false)], args := [d1, d2, d3] }
  | _ => none }
def FixTellsWrongFalsely : Prop := fixTellsRow.holds Try.pinned (OpenSpec.ofChange fixTellsWrong)

/-- 'maquettelaw1.FixSigns': WHATEVER THE INPUT: true; the input reads as it did. -/
def fixSignsSpec : ChangeSpec := { name := "fixSigns", fn := fun _ => fun
  | [d1, d2] => { results := [.lit (.bool true)], args := [d1, d2] }
  | _ => none }
def fixSignsRow : OpenClaim := { program := "ytdkaaifbmjnknaa", sum := "c77d8df1adc89fb122cf8417fa2f319bad9c0b91cedb5e1672c57e9d012c3778", func := "maquette/maquettelaw1.FixSigns", spec := "fixSigns", named := ["math/bits.divideError", "math/bits.overflowError"], apart := false }
def FixSignsSaid : Prop := fixSignsRow.holds Try.pinned (OpenSpec.ofChange fixSignsSpec)

/-- ITS FALSE NEIGHBOUR: 'it returns false'. Refute it at one input. -/
def fixSignsWrong : ChangeSpec := { name := "fixSigns", fn := fun _ => fun
  | [d1, d2] => { results := [.lit (.bool false)], args := [d1, d2] }
  | _ => none }
def FixSignsWrongFalsely : Prop := fixSignsRow.holds Try.pinned (OpenSpec.ofChange fixSignsWrong)

/-- 'maquettelaw1.FixEdges': WHATEVER THE INPUT: true; the input reads as it did. -/
def fixEdgesSpec : ChangeSpec := { name := "fixEdges", fn := fun _ => fun
  | [d] => { results := [.lit (.bool true)], args := [d] }
  | _ => none }
def fixEdgesRow : OpenClaim := { program := "ytdkaaifbmjnknaa", sum := "c77d8df1adc89fb122cf8417fa2f319bad9c0b91cedb5e1672c57e9d012c3778", func := "maquette/maquettelaw1.FixEdges", spec := "fixEdges", named := ["math/bits.divideError", "math/bits.overflowError"], apart := false }
def FixEdgesSaid : Prop := fixEdgesRow.holds Try.pinned (OpenSpec.ofChange fixEdgesSpec)

/-- ITS FALSE NEIGHBOUR: 'it returns false'. Refute it at one input. -/
def fixEdgesWrong : ChangeSpec := { name := "fixEdges", fn := fun _ => fun
  | [d] => { results := [.lit (.bool false)], args := [d] }
  | _ => none }
def FixEdgesWrongFalsely : Prop := fixEdgesRow.holds Try.pinned (OpenSpec.ofChange fixEdgesWrong)

/-- 'maquettelaw5.WaveTells': WHATEVER THE INPUT: true; the input reads as it did. -/
def waveTellsSpec : ChangeSpec := { name := "waveTells", fn := fun _ => fun
  | [d1, d2, d3] => { results := [.lit (.bool true)], args := [d1, d2, d3] }
  | _ => none }
def waveTellsRow : OpenClaim := { program := "ytdkaaifbmjnknaa", sum := "c77d8df1adc89fb122cf8417fa2f319bad9c0b91cedb5e1672c57e9d012c3778", func := "maquette/maquettelaw5.WaveTells", spec := "waveTells", unfollowed := true, recurses := true, named := ["math/bits.divideError", "math/bits.overflowError"], apart := false }
def WaveTellsSaid : Prop := waveTellsRow.holds Try.pinned (OpenSpec.ofChange waveTellsSpec)

/-- ITS FALSE NEIGHBOUR: 'it returns false'. Refute it at one input. -/
def waveTellsWrong : ChangeSpec := { name := "waveTells", fn := fun _ => fun
  | [d1, d2, d3] => { results := [.lit (.bool false)], args := [d1, d2, d3] }
  | _ => none }
def WaveTellsWrongFalsely : Prop := waveTellsRow.holds Try.pinned (OpenSpec.ofChange waveTellsWrong)

/-- 'maquettelaw5.WaveTurns': WHATEVER THE INPUT: true; the input reads as it did. -/
def waveTurnsSpec : ChangeSpec := { name := "waveTurns", fn := fun _ => fun
  | [d1, d2] => { results := [.lit (.bool true)], args := [d1, d2] }
  | _ => none }
def waveTurnsRow : OpenClaim := { program := "ytdkaaifbmjnknaa", sum := "c77d8df1adc89fb122cf8417fa2f319bad9c0b91cedb5e1672c57e9d012c3778", func := "maquette/maquettelaw5.WaveTurns", spec := "waveTurns", unfollowed := true, recurses := true, named := ["math/bits.divideError", "math/bits.overflowError"], apart := false }
def WaveTurnsSaid : Prop := waveTurnsRow.holds Try.pinned (OpenSpec.ofChange waveTurnsSpec)

/-- ITS FALSE NEIGHBOUR: 'it returns false'. Refute it at one input. -/
def waveTurnsWrong : ChangeSpec := { name := "waveTurns", fn := fun _ => fun
  | [d1, d2] => { results := [.lit (.bool false)], args := [d1, d2] }
  | _ => none }
def WaveTurnsWrongFalsely : Prop := waveTurnsRow.holds Try.pinned (OpenSpec.ofChange waveTurnsWrong)

/-- 'maquettelaw5.WaveRises': WHATEVER THE INPUT: true; the input reads as it did. -/
def waveRisesSpec : ChangeSpec := { name := "waveRises", fn := fun _ => fun
  | [d1, d2] => { results := [.lit (.bool true)], args := [d1, d2] }
  | _ => none }
def waveRisesRow : OpenClaim := { program := "ytdkaaifbmjnknaa", sum := "c77d8df1adc89fb122cf8417fa2f319bad9c0b91cedb5e1672c57e9d012c3778", func := "maquette/maquettelaw5.WaveRises", spec := "waveRises", unfollowed := true, recurses := true, named := ["math/bits.divideError", "math/bits.overflowError"], apart := false }
def WaveRisesSaid : Prop := waveRisesRow.holds Try.pinned (OpenSpec.ofChange waveRisesSpec)

/-- ITS FALSE NEIGHBOUR: 'it returns false'. Refute it at one input. -/
def waveRisesWrong : ChangeSpec := { name := "waveRises", fn := fun _ => fun
  | [d1, d2] => { results := [.lit (.bool false)], args := [d1, d2] }
  | _ => none }
def WaveRisesWrongFalsely : Prop := waveRisesRow.holds Try.pinned (OpenSpec.ofChange waveRisesWrong)

/-- 'maquettelaw5.WaveRotates': WHATEVER THE INPUT: true; the input reads as it did. -/
def waveRotatesSpec : ChangeSpec := { name := "waveRotates", fn := fun _ => fun
  | [d1, d2, d3] => { results := [.lit (.bool true)], args := [d1, d2, d3] }
  | _ => none }
def waveRotatesRow : OpenClaim := { program := "ytdkaaifbmjnknaa", sum := "c77d8df1adc89fb122cf8417fa2f319bad9c0b91cedb5e1672c57e9d012c3778", func := "maquette/maquettelaw5.WaveRotates", spec := "waveRotates", unfollowed := true, recurses := true, named := ["math/bits.divideError", "math/bits.overflowError"], apart := false }
def WaveRotatesSaid : Prop := waveRotatesRow.holds Try.pinned (OpenSpec.ofChange waveRotatesSpec)

/-- ITS FALSE NEIGHBOUR: 'it returns false'. Refute it at one input. -/
def waveRotatesWrong : ChangeSpec := { name := "waveRotates", fn := fun _ => fun
  | [d1, d2, d3] => { results := [.lit (.bool false)], args := [d1, d2, d3] }
  | _ => none }
def WaveRotatesWrongFalsely : Prop := waveRotatesRow.holds Try.pinned (OpenSpec.ofChange waveRotatesWrong)

/-- 'maquettelaw5.WaveSquares': WHATEVER THE INPUT: true; the input reads as it did. -/
def waveSquaresSpec : ChangeSpec := { name := "waveSquares", fn := fun _ => fun
  | [d] => { results := [.lit (.bool true)], args := [d] }
  | _ => none }
def waveSquaresRow : OpenClaim := { program := "ytdkaaifbmjnknaa", sum := "c77d8df1adc89fb122cf8417fa2f319bad9c0b91cedb5e1672c57e9d012c3778", func := "maquette/maquettelaw5.WaveSquares", spec := "waveSquares", unfollowed := true, recurses := true, named := ["math/bits.divideError", "math/bits.overflowError"], apart := false }
def WaveSquaresSaid : Prop := waveSquaresRow.holds Try.pinned (OpenSpec.ofChange waveSquaresSpec)

/-- ITS FALSE NEIGHBOUR: 'it returns false'. Refute it at one input. -/
def waveSquaresWrong : ChangeSpec := { name := "waveSquares", fn := fun _ => fun
  | [d] => { results := [.lit (.bool false)], args := [d] }
  | _ => none }
def WaveSquaresWrongFalsely : Prop := waveSquaresRow.holds Try.pinned (OpenSpec.ofChange waveSquaresWrong)

/-- 'maquettelaw5.WaveOdd': WHATEVER THE INPUT: true; the input reads as it did. -/
def waveOddSpec : ChangeSpec := { name := "waveOdd", fn := fun _ => fun
  | [d] => { results := [.lit (.bool true)], args := [d] }
  | _ => none }
def waveOddRow : OpenClaim := { program := "ytdkaaifbmjnknaa", sum := "c77d8df1adc89fb122cf8417fa2f319bad9c0b91cedb5e1672c57e9d012c3778", func := "maquette/maquettelaw5.WaveOdd", spec := "waveOdd", unfollowed := true, recurses := true, named := ["math/bits.divideError", "math/bits.overflowError"], apart := false }
def WaveOddSaid : Prop := waveOddRow.holds Try.pinned (OpenSpec.ofChange waveOddSpec)

/-- ITS FALSE NEIGHBOUR: 'it returns false'. Refute it at one input. -/
def waveOddWrong : ChangeSpec := { name := "waveOdd", fn := fun _ => fun
  | [d] => { results := [.lit (.bool false)], args := [d] }
  | _ => none }
def WaveOddWrongFalsely : Prop := waveOddRow.holds Try.pinned (OpenSpec.ofChange waveOddWrong)

/-- 'maquettelaw5.WaveSmooth': WHATEVER THE INPUT: true; the input reads as it did. -/
def waveSmoothSpec : ChangeSpec := { name := "waveSmooth", fn := fun _ => fun
  | [d] => { results := [.lit (.bool true)], args := [d] }
  | _ => none }
def waveSmoothRow : OpenClaim := { program := "ytdkaaifbmjnknaa", sum := "c77d8df1adc89fb122cf8417fa2f319bad9c0b91cedb5e1672c57e9d012c3778", func := "maquette/maquettelaw5.WaveSmooth", spec := "waveSmooth", unfollowed := true, recurses := true, named := ["math/bits.divideError", "math/bits.overflowError"], apart := false }
def WaveSmoothSaid : Prop := waveSmoothRow.holds Try.pinned (OpenSpec.ofChange waveSmoothSpec)

/-- ITS FALSE NEIGHBOUR: 'it returns false'. Refute it at one input. -/
def waveSmoothWrong : ChangeSpec := { name := "waveSmooth", fn := fun _ => fun
  | [d] => { results := [.lit (.bool false)], args := [d] }
  | _ => none }
def WaveSmoothWrongFalsely : Prop := waveSmoothRow.holds Try.pinned (OpenSpec.ofChange waveSmoothWrong)

/- THE SECOND FORM. 'bulk': how many values and letters a reading holds, each counted each time it is reached (what is shared counts as often as it is met; a slice's spare places count too). A statement '..UptoSaid' is the law's where the arguments, and the package variables that the reading takes, are together of bulk at most 1048576: NARROWER than '..Said'. Prove '..Said' where nothing that the law and all that it calls make is longer than what came in: it says more and counts as full. Else prove '..UptoSaid'. A law counts once. -/
mutual
def uptoBulk {H : Type} : DataW H → Nat
  | .lit (.string bytes) => bytes.length + 1
  | .lit _ => 1
  | .nil => 1
  | .ptr d => uptoBulk d + 1
  | .slice elems spare => uptoBulkAll elems + uptoBulkAll spare + 1
  | .agg parts => uptoBulkAll parts + 1
  | .iface _ d => uptoBulk d + 1
  | .map entries => uptoBulkEntries entries + 1
  | .held _ => 1
def uptoBulkAll {H : Type} : List (DataW H) → Nat
  | [] => 0
  | d :: r => uptoBulk d + uptoBulkAll r
def uptoBulkEntries {H : Type} : List (Lit × DataW H) → Nat
  | [] => 0
  | x :: r => uptoBulkEntry x + uptoBulkEntries r
def uptoBulkEntry {H : Type} : Lit × DataW H → Nat
  | (.string bytes, d) => bytes.length + uptoBulk d + 1
  | (_, d) => uptoBulk d + 1
 end
def uptoSmall : (H : Type) → List (DataW H) → Bool := fun _ ds => decide (uptoBulkAll ds ≤ 1048576)
def OpenSpec.upto (s : _root_.Go.ChangeSpec) : _root_.Go.OpenSpec := { _root_.Go.OpenSpec.ofChange s with cond := some uptoSmall }

/-- 'maquettelaw4.RootTells', WHERE WHAT IT READS IS OF BULK AT MOST 1048576: true; the input reads as it did. -/
def rootTellsUptoRow : OpenClaim := { program := "ytdkaaifbmjnknaa", sum := "c77d8df1adc89fb122cf8417fa2f319bad9c0b91cedb5e1672c57e9d012c3778", func := "maquette/maquettelaw4.RootTells", spec := "rootTells", inPlace := ["math/bits.Add64"], apart := false, narrowed := true }
def RootTellsUptoSaid : Prop := rootTellsUptoRow.holds Try.pinned (OpenSpec.upto rootTellsSpec)

/-- 'maquettelaw4.RootSquares', WHERE WHAT IT READS IS OF BULK AT MOST 1048576: true; the input reads as it did. -/
def rootSquaresUptoRow : OpenClaim := { program := "ytdkaaifbmjnknaa", sum := "c77d8df1adc89fb122cf8417fa2f319bad9c0b91cedb5e1672c57e9d012c3778", func := "maquette/maquettelaw4.RootSquares", spec := "rootSquares", inPlace := ["math/bits.Add64"], apart := false, narrowed := true }
def RootSquaresUptoSaid : Prop := rootSquaresUptoRow.holds Try.pinned (OpenSpec.upto rootSquaresSpec)

/-- 'maquettelaw4.RootLengths', WHERE WHAT IT READS IS OF BULK AT MOST 1048576: true; the input reads as it did. -/
def rootLengthsUptoRow : OpenClaim := { program := "ytdkaaifbmjnknaa", sum := "c77d8df1adc89fb122cf8417fa2f319bad9c0b91cedb5e1672c57e9d012c3778", func := "maquette/maquettelaw4.RootLengths", spec := "rootLengths", inPlace := ["math/bits.Add64"], apart := false, narrowed := true }
def RootLengthsUptoSaid : Prop := rootLengthsUptoRow.holds Try.pinned (OpenSpec.upto rootLengthsSpec)

/-- 'maquettelaw4.RootRises', WHERE WHAT IT READS IS OF BULK AT MOST 1048576: true; the input reads as it did. -/
def rootRisesUptoRow : OpenClaim := { program := "ytdkaaifbmjnknaa", sum := "c77d8df1adc89fb122cf8417fa2f319bad9c0b91cedb5e1672c57e9d012c3778", func := "maquette/maquettelaw4.RootRises", spec := "rootRises", inPlace := ["math/bits.Add64"], apart := false, narrowed := true }
def RootRisesUptoSaid : Prop := rootRisesUptoRow.holds Try.pinned (OpenSpec.upto rootRisesSpec)

/-- 'maquettelaw4.RootSides', WHERE WHAT IT READS IS OF BULK AT MOST 1048576: true; the input reads as it did. -/
def rootSidesUptoRow : OpenClaim := { program := "ytdkaaifbmjnknaa", sum := "c77d8df1adc89fb122cf8417fa2f319bad9c0b91cedb5e1672c57e9d012c3778", func := "maquette/maquettelaw4.RootSides", spec := "rootSides", inPlace := ["math/bits.Add64"], apart := false, narrowed := true }
def RootSidesUptoSaid : Prop := rootSidesUptoRow.holds Try.pinned (OpenSpec.upto rootSidesSpec)

/-- 'maquettelaw4.RootScales', WHERE WHAT IT READS IS OF BULK AT MOST 1048576: true; the input reads as it did. -/
def rootScalesUptoRow : OpenClaim := { program := "ytdkaaifbmjnknaa", sum := "c77d8df1adc89fb122cf8417fa2f319bad9c0b91cedb5e1672c57e9d012c3778", func := "maquette/maquettelaw4.RootScales", spec := "rootScales", inPlace := ["math/bits.Add64"], apart := false, narrowed := true }
def RootScalesUptoSaid : Prop := rootScalesUptoRow.holds Try.pinned (OpenSpec.upto rootScalesSpec)

/-- 'maquettelaw4.RootBelow', WHERE WHAT IT READS IS OF BULK AT MOST 1048576: true; the input reads as it did. -/
def rootBelowUptoRow : OpenClaim := { program := "ytdkaaifbmjnknaa", sum := "c77d8df1adc89fb122cf8417fa2f319bad9c0b91cedb5e1672c57e9d012c3778", func := "maquette/maquettelaw4.RootBelow", spec := "rootBelow", inPlace := ["math/bits.Add64"], apart := false, narrowed := true }
def RootBelowUptoSaid : Prop := rootBelowUptoRow.holds Try.pinned (OpenSpec.upto rootBelowSpec)

/-- 'maquettelaw1.FixDivides', WHERE WHAT IT READS IS OF BULK AT MOST 1048576: true; the input reads as it did. -/
def fixDividesUptoRow : OpenClaim := { program := "ytdkaaifbmjnknaa", sum := "c77d8df1adc89fb122cf8417fa2f319bad9c0b91cedb5e1672c57e9d012c3778", func := "maquette/maquettelaw1.FixDivides", spec := "fixDivides", named := ["math/bits.divideError", "math/bits.overflowError"], apart := false, narrowed := true }
def FixDividesUptoSaid : Prop := fixDividesUptoRow.holds Try.pinned (OpenSpec.upto fixDividesSpec)

/-- 'maquettelaw1.FixHalves', WHERE WHAT IT READS IS OF BULK AT MOST 1048576: true; the input reads as it did. -/
def fixHalvesUptoRow : OpenClaim := { program := "ytdkaaifbmjnknaa", sum := "c77d8df1adc89fb122cf8417fa2f319bad9c0b91cedb5e1672c57e9d012c3778", func := "maquette/maquettelaw1.FixHalves", spec := "fixHalves", named := ["math/bits.divideError", "math/bits.overflowError"], apart := false, narrowed := true }
def FixHalvesUptoSaid : Prop := fixHalvesUptoRow.holds Try.pinned (OpenSpec.upto fixHalvesSpec)

/-- 'maquettelaw1.FixOrders', WHERE WHAT IT READS IS OF BULK AT MOST 1048576: true; the input reads as it did. -/
def fixOrdersUptoRow : OpenClaim := { program := "ytdkaaifbmjnknaa", sum := "c77d8df1adc89fb122cf8417fa2f319bad9c0b91cedb5e1672c57e9d012c3778", func := "maquette/maquettelaw1.FixOrders", spec := "fixOrders", named := ["math/bits.divideError", "math/bits.overflowError"], apart := false, narrowed := true }
def FixOrdersUptoSaid : Prop := fixOrdersUptoRow.holds Try.pinned (OpenSpec.upto fixOrdersSpec)

/-- 'maquettelaw1.FixLaws', WHERE WHAT IT READS IS OF BULK AT MOST 1048576: true; the input reads as it did. -/
def fixLawsUptoRow : OpenClaim := { program := "ytdkaaifbmjnknaa", sum := "c77d8df1adc89fb122cf8417fa2f319bad9c0b91cedb5e1672c57e9d012c3778", func := "maquette/maquettelaw1.FixLaws", spec := "fixLaws", named := ["math/bits.divideError", "math/bits.overflowError"], apart := false, narrowed := true }
def FixLawsUptoSaid : Prop := fixLawsUptoRow.holds Try.pinned (OpenSpec.upto fixLawsSpec)

/-- 'maquettelaw1.FixWholes', WHERE WHAT IT READS IS OF BULK AT MOST 1048576: true; the input reads as it did. -/
def fixWholesUptoRow : OpenClaim := { program := "ytdkaaifbmjnknaa", sum := "c77d8df1adc89fb122cf8417fa2f319bad9c0b91cedb5e1672c57e9d012c3778", func := "maquette/maquettelaw1.FixWholes", spec := "fixWholes", named := ["math/bits.divideError", "math/bits.overflowError"], apart := false, narrowed := true }
def FixWholesUptoSaid : Prop := fixWholesUptoRow.holds Try.pinned (OpenSpec.upto fixWholesSpec)

/-- 'maquettelaw1.FixTells', WHERE WHAT IT READS IS OF BULK AT MOST 1048576: true; the input reads as it did. -/
def fixTellsUptoRow : OpenClaim := { program := "ytdkaaifbmjnknaa", sum := "c77d8df1adc89fb122cf8417fa2f319bad9c0b91cedb5e1672c57e9d012c3778", func := "maquette/maquettelaw1.FixTells", spec := "fixTells", named := ["math/bits.divideError", "math/bits.overflowError"], apart := false, narrowed := true }
def FixTellsUptoSaid : Prop := fixTellsUptoRow.holds Try.pinned (OpenSpec.upto fixTellsSpec)

/-- 'maquettelaw1.FixSigns', WHERE WHAT IT READS IS OF BULK AT MOST 1048576: true; the input reads as it did. -/
def fixSignsUptoRow : OpenClaim := { program := "ytdkaaifbmjnknaa", sum := "c77d8df1adc89fb122cf8417fa2f319bad9c0b91cedb5e1672c57e9d012c3778", func := "maquette/maquettelaw1.FixSigns", spec := "fixSigns", named := ["math/bits.divideError", "math/bits.overflowError"], apart := false, narrowed := true }
def FixSignsUptoSaid : Prop := fixSignsUptoRow.holds Try.pinned (OpenSpec.upto fixSignsSpec)

/-- 'maquettelaw1.FixEdges', WHERE WHAT IT READS IS OF BULK AT MOST 1048576: true; the input reads as it did. -/
def fixEdgesUptoRow : OpenClaim := { program := "ytdkaaifbmjnknaa", sum := "c77d8df1adc89fb122cf8417fa2f319bad9c0b91cedb5e1672c57e9d012c3778", func := "maquette/maquettelaw1.FixEdges", spec := "fixEdges", named := ["math/bits.divideError", "math/bits.overflowError"], apart := false, narrowed := true }
def FixEdgesUptoSaid : Prop := fixEdgesUptoRow.holds Try.pinned (OpenSpec.upto fixEdgesSpec)

/-- 'maquettelaw5.WaveTells', WHERE WHAT IT READS IS OF BULK AT MOST 1048576: true; the input reads as it did. -/
def waveTellsUptoRow : OpenClaim := { program := "ytdkaaifbmjnknaa", sum := "c77d8df1adc89fb122cf8417fa2f319bad9c0b91cedb5e1672c57e9d012c3778", func := "maquette/maquettelaw5.WaveTells", spec := "waveTells", unfollowed := true, recurses := true, named := ["math/bits.divideError", "math/bits.overflowError"], apart := false, narrowed := true }
def WaveTellsUptoSaid : Prop := waveTellsUptoRow.holds Try.pinned (OpenSpec.upto waveTellsSpec)

/-- 'maquettelaw5.WaveTurns', WHERE WHAT IT READS IS OF BULK AT MOST 1048576: true; the input reads as it did. -/
def waveTurnsUptoRow : OpenClaim := { program := "ytdkaaifbmjnknaa", sum := "c77d8df1adc89fb122cf8417fa2f319bad9c0b91cedb5e1672c57e9d012c3778", func := "maquette/maquettelaw5.WaveTurns", spec := "waveTurns", unfollowed := true, recurses := true, named := ["math/bits.divideError", "math/bits.overflowError"], apart := false, narrowed := true }
def WaveTurnsUptoSaid : Prop := waveTurnsUptoRow.holds Try.pinned (OpenSpec.upto waveTurnsSpec)

/-- 'maquettelaw5.WaveRises', WHERE WHAT IT READS IS OF BULK AT MOST 1048576: true; the input reads as it did. -/
def waveRisesUptoRow : OpenClaim := { program := "ytdkaaifbmjnknaa", sum := "c77d8df1adc89fb122cf8417fa2f319bad9c0b91cedb5e1672c57e9d012c3778", func := "maquette/maquettelaw5.WaveRises", spec := "waveRises", unfollowed := true, recurses := true, named := ["math/bits.divideError", "math/bits.overflowError"], apart := false, narrowed := true }
def WaveRisesUptoSaid : Prop := waveRisesUptoRow.holds Try.pinned (OpenSpec.upto waveRisesSpec)

/-- 'maquettelaw5.WaveRotates', WHERE WHAT IT READS IS OF BULK AT MOST 1048576: true; the input reads as it did. -/
def waveRotatesUptoRow : OpenClaim := { program := "ytdkaaifbmjnknaa", sum := "c77d8df1adc89fb122cf8417fa2f319bad9c0b91cedb5e1672c57e9d012c3778", func := "maquette/maquettelaw5.WaveRotates", spec := "waveRotates", unfollowed := true, recurses := true, named := ["math/bits.divideError", "math/bits.overflowError"], apart := false, narrowed := true }
def WaveRotatesUptoSaid : Prop := waveRotatesUptoRow.holds Try.pinned (OpenSpec.upto waveRotatesSpec)

/-- 'maquettelaw5.WaveSquares', WHERE WHAT IT READS IS OF BULK AT MOST 1048576: true; the input reads as it did. -/
def waveSquaresUptoRow : OpenClaim := { program := "ytdkaaifbmjnknaa", sum := "c77d8df1adc89fb122cf8417fa2f319bad9c0b91cedb5e1672c57e9d012c3778", func := "maquette/maquettelaw5.WaveSquares", spec := "waveSquares", unfollowed := true, recurses := true, named := ["math/bits.divideError", "math/bits.overflowError"], apart := false, narrowed := true }
def WaveSquaresUptoSaid : Prop := waveSquaresUptoRow.holds Try.pinned (OpenSpec.upto waveSquaresSpec)

/-- 'maquettelaw5.WaveOdd', WHERE WHAT IT READS IS OF BULK AT MOST 1048576: true; the input reads as it did. -/
def waveOddUptoRow : OpenClaim := { program := "ytdkaaifbmjnknaa", sum := "c77d8df1adc89fb122cf8417fa2f319bad9c0b91cedb5e1672c57e9d012c3778", func := "maquette/maquettelaw5.WaveOdd", spec := "waveOdd", unfollowed := true, recurses := true, named := ["math/bits.divideError", "math/bits.overflowError"], apart := false, narrowed := true }
def WaveOddUptoSaid : Prop := waveOddUptoRow.holds Try.pinned (OpenSpec.upto waveOddSpec)

/-- 'maquettelaw5.WaveSmooth', WHERE WHAT IT READS IS OF BULK AT MOST 1048576: true; the input reads as it did. -/
def waveSmoothUptoRow : OpenClaim := { program := "ytdkaaifbmjnknaa", sum := "c77d8df1adc89fb122cf8417fa2f319bad9c0b91cedb5e1672c57e9d012c3778", func := "maquette/maquettelaw5.WaveSmooth", spec := "waveSmooth", unfollowed := true, recurses := true, named := ["math/bits.divideError", "math/bits.overflowError"], apart := false, narrowed := true }
def WaveSmoothUptoSaid : Prop := waveSmoothUptoRow.holds Try.pinned (OpenSpec.upto waveSmoothSpec)

end Rows
end Go.Proofs.Ytdkaaifbmjnknaa
