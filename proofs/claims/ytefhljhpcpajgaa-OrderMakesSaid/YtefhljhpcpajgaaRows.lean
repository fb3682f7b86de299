/-
  No cell of these rows narrows 'for every input' (looked for: loops, veiled, ifaces, maps, wideKeys, modest, calm, conditions, laid).
  DERIVED. THE GIVEN ROWS OF THIS SEAT. 21 by the template 'for every input the law returns true; each argument reads behind the call as it read before'; 0 by the template 'total and deterministic' (their statements: YtefhljhpcpajgaaTotals.lean).
  GIVEN WITH THE SEED: the statements are not yours to turn. If you find one false, say at which input.
  Laid BY PROGRAM, IN A SANDBOX (cutbox-rows.mjs): the forced cells as the released guide's own fill.sh prints them over the translation bce918bf063df244… (all of the seat's roots in one cut). By AI agents, Wed Nov 11 2026. No macro, syntax, notation, axiom, sorry.
-/
import Derived.Test.YtefhljhpcpajgaaChecked
import GoSem.Claim
import GoSem.ClaimJoined
import GoSem.ClaimMapViews
import Derived.JoinedTies
import Derived.KernelRfl
namespace Go.Proofs.Ytefhljhpcpajgaa
/- THE CELL 'sum', in the pinned program and in every row, IS THE sha256 OF THE DUMP (.gsa) THAT YtefhljhpcpajgaaProg.lean LOADS. Nothing in Lean hashes anything: it is a label: what it is worth is what the hold of that sum in a sandbox is worth. -/
noncomputable def Try.pinned : Pinned := { name := "ytefhljhpcpajgaa", sum := "bce918bf063df2449b2efcc1270ad9563f7fc76ec76dc4bfd6a60f96fc18743d", checked := Try.checked }
namespace Rows
def none {H : Type} : Left H := { results := [], args := [] }

/-- 'backhaullaw02.CentsSums': WHATEVER THE INPUT: true; the input reads as it did. -/
def centsSumsSpec : ChangeSpec := { name := "centsSums", fn := fun _ => fun
  | [d1, d2, d3] => { results := [.lit (.bool true)], args := [d1, d2, d3] }
  | _ => none }
def centsSumsRow : OpenClaim := { program := "ytefhljhpcpajgaa", sum := "bce918bf063df2449b2efcc1270ad9563f7fc76ec76dc4bfd6a60f96fc18743d", func := "backhaul/backhaullaw02.CentsSums", spec := "centsSums", unfollowed := true, recurses := true, named := ["math/bits.divideError", "math/bits.overflowError"], apart := false }
def CentsSumsSaid : Prop := centsSumsRow.holds Try.pinned (OpenSpec.ofChange centsSumsSpec)

/-- ITS FALSE NEIGHBOUR: 'it returns false'. Refute it at one input. -/
def centsSumsWrong : ChangeSpec := { name := "centsSums", fn := fun _ => fun
  | [d1, d2, d3] => { results := [.lit (.bool false)], args := [d1, d2, d3] }
  | _ => none }
def CentsSumsWrongFalsely : Prop := centsSumsRow.holds Try.pinned (OpenSpec.ofChange centsSumsWrong)

/-- 'backhaullaw02.CentsShares': WHATEVER THE INPUT: true; the input reads as it did. -/
def centsSharesSpec : ChangeSpec := { name := "centsShares", fn := fun _ => fun
  | [d1, d2, d3] => { results := [.lit (.bool true)], args := [d1, d2, d3] }
  | _ => none }
def centsSharesRow : OpenClaim := { program := "ytefhljhpcpajgaa", sum := "bce918bf063df2449b2efcc1270ad9563f7fc76ec76dc4bfd6a60f96fc18743d", func := "backhaul/backhaullaw02.CentsShares", spec := "centsShares", unfollowed := true, recurses := true, named := ["math/bits.divideError", "math/bits.overflowError"], apart := false }
def CentsSharesSaid : Prop := centsSharesRow.holds Try.pinned (OpenSpec.ofChange centsSharesSpec)

/-- ITS FALSE NEIGHBOUR: 'it returns false'. Refute it at one input. -/
def centsSharesWrong : ChangeSpec := { name := "centsShares", fn := fun _ => fun
  | [d1, d2, d3] => { results := [.lit (.bool false)], args := [d1, d2, d3] }
  | _ => none }
def CentsSharesWrongFalsely : Prop := centsSharesRow.holds Try.pinned (OpenSpec.ofChange centsSharesWrong)

/-- 'backhaullaw02.CentsOver': WHATEVER THE INPUT: true; the input reads as it did. -/
def centsOverSpec : ChangeSpec := { name := "centsOver", fn := fun _ => fun
  | [d1, d2] => { results := [.lit (.bool true)], args := [d1, d2] }
  | _ => none }
def centsOverRow : OpenClaim := { program := "ytefhljhpcpajgaa", sum := "bce918bf063df2449b2efcc1270ad9563f7fc76ec76dc4bfd6a60f96fc18743d", func := "backhaul/backhaullaw02.CentsOver", spec := "centsOver", unfollowed := true, recurses := true, named := ["math/bits.divideError", "math/bits.overflowError"], apart := false }
def CentsOverSaid : Prop := centsOverRow.holds Try.pinned (OpenSpec.ofChange centsOverSpec)

/-- ITS FALSE NEIGHBOUR: 'it returns false'. Refute it at one input. -/
def centsOverWrong : ChangeSpec := { name := "centsOver", fn := fun _ => fun
  | [d1, d2] => { results := [.lit (.bool false)], args := [d1, d2] }
  | _ => none }
def CentsOverWrongFalsely : Prop := centsOverRow.holds Try.pinned (OpenSpec.ofChange centsOverWrong)

/-- 'backhaullaw02.CentsDivs': WHATEVER THE INPUT: true; the input reads as it did. -/
def centsDivsSpec : ChangeSpec := { name := "centsDivs", fn := fun _ => fun
  | [d1, d2, d3] => { results := [.lit (.bool true)], args := [d1, d2, d3] }
  | _ => none }
def centsDivsRow : OpenClaim := { program := "ytefhljhpcpajgaa", sum := "bce918bf063df2449b2efcc1270ad9563f7fc76ec76dc4bfd6a60f96fc18743d", func := "backhaul/backhaullaw02.CentsDivs", spec := "centsDivs", unfollowed := true, recurses := true, named := ["math/bits.divideError", "math/bits.overflowError"], apart := false }
def CentsDivsSaid : Prop := centsDivsRow.holds Try.pinned (OpenSpec.ofChange centsDivsSpec)

/-- ITS FALSE NEIGHBOUR: 'it returns false'. Refute it at one input. -/
def centsDivsWrong : ChangeSpec := { name := "centsDivs", fn := fun _ => fun
  | [d1, d2, d3] => { results := [.lit (.bool false)], args := [d1, d2, d3] }
  | _ => none }
def CentsDivsWrongFalsely : Prop := centsDivsRow.holds Try.pinned (OpenSpec.ofChange centsDivsWrong)

/-- 'backhaullaw04.FeeTells': WHATEVER THE INPUT: true; the input reads as it did. -/
def feeTellsSpec : ChangeSpec := { name := "feeTells", fn := fun _ => fun
  | [d1, d2, d3] => { results := [.lit (.bool true)], args := [d1, d2, d3] }
  | _ => none }
def feeTellsRow : OpenClaim := { program := "ytefhljhpcpajgaa", sum := "bce918bf063df2449b2efcc1270ad9563f7fc76ec76dc4bfd6a60f96fc18743d", func := "backhaul/backhaullaw04.FeeTells", spec := "feeTells", unfollowed := true, recurses := true, named := ["math/bits.divideError", "math/bits.overflowError"], apart := false }
def FeeTellsSaid : Prop := feeTellsRow.holds Try.pinned (OpenSpec.ofChange feeTellsSpec)

/-- ITS FALSE NEIGHBOUR: 'it returns false'. Refute it at one input. -/
def feeTellsWrong : ChangeSpec := { name := "feeTells", fn := fun _ => fun
  | [d1, d2, d3] => { results := [.lit (.bool false)], args := [d1, d2, d3] }
  | _ => none }
def FeeTellsWrongFalsely : Prop := feeTellsRow.holds Try.pinned (OpenSpec.ofChange feeTellsWrong)

/-- 'backhaullaw04.FeeBounds': WHATEVER THE INPUT: true; the input reads as it did. -/
def feeBoundsSpec : ChangeSpec := { name := "feeBounds", fn := fun _ => fun
  | [d1, d2] => { results := [.lit (.bool true)], args := [d1, d2] }
  | _ => none }
def feeBoundsRow : OpenClaim := { program := "ytefhljhpcpajgaa", sum := "bce918bf063df2449b2efcc1270ad9563f7fc76ec76dc4bfd6a60f96fc18743d", func := "backhaul/backhaullaw04.FeeBounds", spec := "feeBounds", unfollowed := true, recurses := true, named := ["math/bits.divideError", "math/bits.overflowError"], apart := false }
def FeeBoundsSaid : Prop := feeBoundsRow.holds Try.pinned (OpenSpec.ofChange feeBoundsSpec)

/-- ITS FALSE NEIGHBOUR: 'it returns false'. Refute it at one input. -/
def feeBoundsWrong : ChangeSpec := { name := "feeBounds", fn := fun _ => fun
  | [d1, d2] => { results := [.lit (.bool false)], args := [d1, d2] }
  | _ => none }
def FeeBoundsWrongFalsely : Prop := feeBoundsRow.holds Try.pinned (OpenSpec.ofChange feeBoundsWrong)

/-- 'backhaullaw04.FeeSteps': WHATEVER THE INPUT: true; the input reads as it did. -/
def feeStepsSpec : ChangeSpec := { name := "feeSteps", fn := fun _ => fun
  | [d1, d2, d3] => { results := [.lit (.bool true)], args := [d1, d2, d3] }
  | _ => none }
def feeStepsRow : OpenClaim := { program := "ytefhljhpcpajgaa", sum := "bce918bf063df2449b2efcc1270ad9563f7fc76ec76dc4bfd6a60f96fc18743d", func := "backhaul/backhaullaw04.FeeSteps", spec := "feeSteps", unfollowed := true, recurses := true, named := ["math/bits.divideError", "math/bits.overflowError"], apart := false }
def FeeStepsSaid : Prop := feeStepsRow.holds Try.pinned (OpenSpec.ofChange feeStepsSpec)

/-- ITS FALSE NEIGHBOUR: 'it returns false'. Refute it at one input. -/
def feeStepsWrong : ChangeSpec := { name := "feeSteps", fn := fun _ => fun
  | [d1, d2, d3] => { results := [.lit (.bool false)], args := [d1, d2, d3] }
  | _ => none }
def FeeStepsWrongFalsely : Prop := feeStepsRow.holds Try.pinned (OpenSpec.ofChange feeStepsWrong)

/-- 'backhaullaw03.ShareDeals': WHATEVER THE INPUT: true; the input reads as it did. -/
def shareDealsSpec : ChangeSpec := { name := "shareDeals", fn := fun _ => fun
  | [d1, d2, d3] => { results := [.lit (.bool true)], args := [d1, d2, d3] }
  | _ => none }
def shareDealsRow : OpenClaim := { program := "ytefhljhpcpajgaa", sum := "bce918bf063df2449b2efcc1270ad9563f7fc76ec76dc4bfd6a60f96fc18743d", func := "backhaul/backhaullaw03.ShareDeals", spec := "shareDeals", unfollowed := true, recurses := true, named := ["math/bits.divideError", "math/bits.overflowError"], apart := false }
def ShareDealsSaid : Prop := shareDealsRow.holds Try.pinned (OpenSpec.ofChange shareDealsSpec)

/-- ITS FALSE NEIGHBOUR: 'it returns false'. Refute it at one input. -/
def shareDealsWrong : ChangeSpec := { name := "shareDeals", fn := fun _ => fun
  | [d1, d2, d3] => { results := [.lit (.bool false)], args := [d1, d2, d3] }
  | _ => none }
def ShareDealsWrongFalsely : Prop := shareDealsRow.holds Try.pinned (OpenSpec.ofChange shareDealsWrong)

/-- 'backhaullaw03.ShareAll': WHATEVER THE INPUT: true; the input reads as it did. -/
def shareAllSpec : ChangeSpec := { name := "shareAll", fn := fun _ => fun
  | [d1, d2] => { results := [.lit (.bool true)], args := [d1, d2] }
  | _ => none }
def shareAllRow : OpenClaim := { program := "ytefhljhpcpajgaa", sum := "bce918bf063df2449b2efcc1270ad9563f7fc76ec76dc4bfd6a60f96fc18743d", func := "backhaul/backhaullaw03.ShareAll", spec := "shareAll", unfollowed := true, recurses := true, named := ["math/bits.divideError", "math/bits.overflowError"], apart := false }
def ShareAllSaid : Prop := shareAllRow.holds Try.pinned (OpenSpec.ofChange shareAllSpec)

/-- ITS FALSE NEIGHBOUR: 'it returns false'. Refute it at one input. -/
def shareAllWrong : ChangeSpec := { name := "shareAll", fn := fun _ => fun
  | [d1, d2] => { results := [.lit (.bool false)], args := [d1, d2] }
  | _ => none }
def ShareAllWrongFalsely : Prop := shareAllRow.holds Try.pinned (OpenSpec.ofChange shareAllWrong)

/-- 'backhaullaw03.ShareFair': WHATEVER THE INPUT: true; the input reads as it did. -/
def shareFairSpec : ChangeSpec := { name := "shareFair", fn := fun _ => fun
  | [d1, d2] => { results := [.lit (.bool true)], args := [d1, d2] }
  | _ => none }
def shareFairRow : OpenClaim := { program := "ytefhljhpcpajgaa", sum := "bce918bf063df2449b2efcc1270ad9563f7fc76ec76dc4bfd6a60f96fc18743d", func := "backhaul/backhaullaw03.ShareFair", spec := "shareFair", unfollowed := true, recurses := true, named := ["math/bits.divideError", "math/bits.overflowError"], apart := false }
def ShareFairSaid : Prop := shareFairRow.holds Try.pinned (OpenSpec.ofChange shareFairSpec)

/-- ITS FALSE NEIGHBOUR: 'it returns false'. Refute it at one input. -/
def shareFairWrong : ChangeSpec := { name := "shareFair", fn := fun _ => fun
  | [d1, d2] => { results := [.lit (.bool false)], args := [d1, d2] }
  | _ => none }
def ShareFairWrongFalsely : Prop := shareFairRow.holds Try.pinned (OpenSpec.ofChange shareFairWrong)

/-- 'backhaullaw21.LineDeals': WHATEVER THE INPUT: true; the input reads as it did. -/
def lineDealsSpec : ChangeSpec := { name := "lineDeals", fn := fun _ => fun
  | [d1, d2, d3] => { results := [.lit (.bool true)], args := [d1, d2, d3] }
  | _ => none }
def lineDealsRow : OpenClaim := { program := "ytefhljhpcpajgaa", sum := "bce918bf063df2449b2efcc1270ad9563f7fc76ec76dc4bfd6a60f96fc18743d", func := "backhaul/backhaullaw21.LineDeals", spec := "lineDeals", unfollowed := true, recurses := true, named := ["math/bits.divideError", "math/bits.overflowError"], apart := false }
def LineDealsSaid : Prop := lineDealsRow.holds Try.pinned (OpenSpec.ofChange lineDealsSpec)

/-- ITS FALSE NEIGHBOUR: 'it returns false'. Refute it at one input. -/
def lineDealsWrong : ChangeSpec := { name := "lineDeals", fn := fun _ => fun
  | [d1, d2, d3] => { results := [.lit (.bool false)], args := [d1, d2, d3] }
  | _ => none }
def LineDealsWrongFalsely : Prop := lineDealsRow.holds Try.pinned (OpenSpec.ofChange lineDealsWrong)

/-- 'backhaullaw21.LineTells': WHATEVER THE INPUT: true; the input reads as it did. -/
def lineTellsSpec : ChangeSpec := { name := "lineTells", fn := fun _ => fun
  | [d1, d2] => { results := [.lit (.bool true)], args := [d1, d2] }
  | _ => none }
def lineTellsRow : OpenClaim := { program := "ytefhljhpcpajgaa", sum := "bce918bf063df2449b2efcc1270ad9563f7fc76ec76dc4bfd6a60f96fc18743d", func := "backhaul/backhaullaw21.LineTells", spec := "lineTells", unfollowed := true, recurses := true, named := ["math/bits.divideError", "math/bits.overflowError"], apart := false }
def LineTellsSaid : Prop := lineTellsRow.holds Try.pinned (OpenSpec.ofChange lineTellsSpec)

/-- ITS FALSE NEIGHBOUR: 'it returns false'. Refute it at one input. -/
def lineTellsWrong : ChangeSpec := { name := "lineTells", fn := fun _ => fun
  | [d1, d2] => { results := [.lit (.bool false)], args := [d1, d2] }
  | _ => none }
def LineTellsWrongFalsely : Prop := lineTellsRow.holds Try.pinned (OpenSpec.ofChange lineTellsWrong)

/-- 'backhaullaw21.LineAll': WHATEVER THE INPUT: true; the input reads as it did. -/
def lineAllSpec : ChangeSpec := { name := "lineAll", fn := fun _ => fun
  | [d1, d2, d3] => { results := [.lit (.bool true)], args := [d1, d2, d3] }
  | _ => none }
def lineAllRow : OpenClaim := { program := "ytefhljhpcpajgaa", sum := "bce918bf063df2449b2efcc1270ad9563f7fc76ec76dc4bfd6a60f96fc18743d", func := "backhaul/backhaullaw21.LineAll", spec := "lineAll", unfollowed := true, recurses := true, named := ["math/bits.divideError", "math/bits.overflowError"], apart := false }
def LineAllSaid : Prop := lineAllRow.holds Try.pinned (OpenSpec.ofChange lineAllSpec)

/-- ITS FALSE NEIGHBOUR: 'it returns false'. Refute it at one input. -/
def lineAllWrong : ChangeSpec := { name := "lineAll", fn := fun _ => fun
  | [d1, d2, d3] => { results := [.lit (.bool false)], args := [d1, d2, d3] }
  | _ => none }
def LineAllWrongFalsely : Prop := lineAllRow.holds Try.pinned (OpenSpec.ofChange lineAllWrong)

/-- 'backhaullaw21.LineUnits': WHATEVER THE INPUT: true; the input reads as it did. -/
def lineUnitsSpec : ChangeSpec := { name := "lineUnits", fn := fun _ => fun
  | [d] => { results := [.lit (.bool true)], args := [d] }
  | _ => none }
def lineUnitsRow : OpenClaim := { program := "ytefhljhpcpajgaa", sum := "bce918bf063df2449b2efcc1270ad9563f7fc76ec76dc4bfd6a60f96fc18743d", func := "backhaul/backhaullaw21.LineUnits", spec := "lineUnits", unfollowed := true, recurses := true, named := ["math/bits.divideError", "math/bits.overflowError"], apart := false }
def LineUnitsSaid : Prop := lineUnitsRow.holds Try.pinned (OpenSpec.ofChange lineUnitsSpec)

/-- ITS FALSE NEIGHBOUR: 'it returns false'. Refute it at one input. -/
def lineUnitsWrong : ChangeSpec := { name := "lineUnits", fn := fun _ => fun
  | [d] => { results := [.lit (.bool false)], args := [d] }
  | _ => none }
def LineUnitsWrongFalsely : Prop := lineUnitsRow.holds Try.pinned (OpenSpec.ofChange lineUnitsWrong)

/-- 'backhaullaw22.ValueTells': WHATEVER THE INPUT: true; the input reads as it did. -/
def valueTellsSpec : ChangeSpec := { name := "valueTells", fn := fun _ => fun
  | [d1, d2, d3] => { results := [.lit (.bool true)], args := [d1, d2, d3] }
  | _ => none }
def valueTellsRow : OpenClaim := { program := "ytefhljhpcpajgaa", sum := "bce918bf063df2449b2efcc1270ad9563f7fc76ec76dc4bfd6a60f96fc18743d", func := "backhaul/backhaullaw22.ValueTells", spec := "valueTells", unfollowed := true, recurses := true, named := ["math/bits.divideError", "math/bits.overflowError"], apart := false }
def ValueTellsSaid : Prop := valueTellsRow.holds Try.pinned (OpenSpec.ofChange valueTellsSpec)

/-- ITS FALSE NEIGHBOUR: 'it returns false'. Refute it at one input. -/
def valueTellsWrong : ChangeSpec := { name := "valueTells", fn := fun _ => fun
  | [d1, d2, d3] => { results := [.lit (.bool false)], args := [d1, d2, d3] }
  | _ => none }
def ValueTellsWrongFalsely : Prop := valueTellsRow.holds Try.pinned (OpenSpec.ofChange valueTellsWrong)

/-- 'backhaullaw22.ValueBounds': WHATEVER THE INPUT: true; the input reads as it did. -/
def valueBoundsSpec : ChangeSpec := { name := "valueBounds", fn := fun _ => fun
  | [d1, d2, d3] => { results := [.lit (.bool true)], args := [d1, d2, d3] }
  | _ => none }
def valueBoundsRow : OpenClaim := { program := "ytefhljhpcpajgaa", sum := "bce918bf063df2449b2efcc1270ad9563f7fc76ec76dc4bfd6a60f96fc18743d", func := "backhaul/backhaullaw22.ValueBounds", spec := "valueBounds", unfollowed := true, recurses := true, named := ["math/bits.divideError", "math/bits.overflowError"], apart := false }
def ValueBoundsSaid : Prop := valueBoundsRow.holds Try.pinned (OpenSpec.ofChange valueBoundsSpec)

/-- ITS FALSE NEIGHBOUR: 'it returns false'. Refute it at one input. -/
def valueBoundsWrong : ChangeSpec := { name := "valueBounds", fn := fun _ => fun
  | [d1, d2, d3] => { results := [.lit (.bool false)], args := [d1, d2, d3] }
  | _ => none }
def ValueBoundsWrongFalsely : Prop := valueBoundsRow.holds Try.pinned (OpenSpec.ofChange valueBoundsWrong)

/-- 'backhaullaw22.ValueWhole': WHATEVER THE INPUT: true; the input reads as it did. -/
def valueWholeSpec : ChangeSpec := { name := "valueWhole", fn := fun _ => fun
  | [d1, d2, d3] => { results := [.lit (.bool true)], args := [d1, d2, d3] }
  | _ => none }
def valueWholeRow : OpenClaim := { program := "ytefhljhpcpajgaa", sum := "bce918bf063df2449b2efcc1270ad9563f7fc76ec76dc4bfd6a60f96fc18743d", func := "backhaul/backhaullaw22.ValueWhole", spec := "valueWhole", unfollowed := true, recurses := true, named := ["math/bits.divideError", "math/bits.overflowError"], apart := false }
def ValueWholeSaid : Prop := valueWholeRow.holds Try.pinned (OpenSpec.ofChange valueWholeSpec)

/-- ITS FALSE NEIGHBOUR: 'it returns false'. Refute it at one input. -/
def valueWholeWrong : ChangeSpec := { name := "valueWhole", fn := fun _ => fun
  | [d1, d2, d3] => { results := [.lit (.bool false)], args := [d1, d2, d3] }
  | _ => none }
def ValueWholeWrongFalsely : Prop := valueWholeRow.holds Try.pinned (OpenSpec.ofChange valueWholeWrong)

/-- 'backhaullaw26.OrderMakes': WHATEVER THE INPUT: true; the input reads as it did. -/
def orderMakesSpec : ChangeSpec := { name := "orderMakes", fn := fun _ => fun
  | [d1, d2] => { results := [.lit (.bool true)], args := [d1, d2] }
  | _ => none }
def orderMakesRow : OpenClaim := { program := "ytefhljhpcpajgaa", sum := "bce918bf063df2449b2efcc1270ad9563f7fc76ec76dc4bfd6a60f96fc18743d", func := "backhaul/backhaullaw26.OrderMakes", spec := "orderMakes", unfollowed := true, recurses := true, named := ["math/bits.divideError", "math/bits.overflowError"], apart := false }
def OrderMakesSaid : Prop := orderMakesRow.holds Try.pinned (OpenSpec.ofChange orderMakesSpec)

/-- ITS FALSE NEIGHBOUR: 'it returns false'. Refute it at one input. -/
def orderMakesWrong : ChangeSpec := { name := "orderMakes", fn := fun _ => fun
  | [d1, d2] => { results := [.lit (.bool false)], args := [d1, d2] }
  | _ => none }
def OrderMakesWrongFalsely : Prop := orderMakesRow.holds Try.pinned (OpenSpec.ofChange orderMakesWrong)

/-- 'backhaullaw26.OrderTells': WHATEVER THE INPUT: true; the input reads as it did. -/
def orderTellsSpec : ChangeSpec := { name := "orderTells", fn := fun _ => fun
  | [d1, d2, d3] => { results := [.lit (.bool true)], args := [d1, d2, d3] }
  | _ => none }
def orderTellsRow : OpenClaim := { program := "ytefhljhpcpajgaa", sum := "bce918bf063df2449b2efcc1270ad9563f7fc76ec76dc4bfd6a60f96fc18743d", func := "backhaul/backhaullaw26.OrderTells", spec := "orderTells", unfollowed := true, recurses := true, named := ["math/bits.divideError", "math/bits.overflowError"], apart := false }
def OrderTellsSaid : Prop := orderTellsRow.holds Try.pinned (OpenSpec.ofChange orderTellsSpec)

/-- ITS FALSE NEIGHBOUR: 'it returns false'. Refute it at one input. -/
def orderTellsWrong : ChangeSpec := { name := "orderTells", fn := fun _ => fun
  | [d1, d2, d3] => { results := [.lit (.bool false)], args := [d1, d2, d3] }
  | _ => none }
def OrderTellsWrongFalsely : Prop := orderTellsRow.holds Try.pinned (OpenSpec.ofChange orderTellsWrong)

/-- 'backhaullaw26.OrderDeals': WHATEVER THE INPUT: true; the input reads as it did. -/
def orderDealsSpec : ChangeSpec := { name := "orderDeals", fn := fun _ => fun
  | [d1, d2] => { results := [.lit (.bool true)], args := [d1, d2] }
  | _ => none }
def orderDealsRow : OpenClaim := { program := "ytefhljhpcpajgaa", sum := "bce918bf063df2449b2efcc1270ad9563f7fc76ec76dc4bfd6a60f96fc18743d", func := "backhaul/backhaullaw26.OrderDeals", spec := "orderDeals", unfollowed := true, recurses := true, named := ["math/bits.divideError", "math/bits.overflowError"], apart := false }
def OrderDealsSaid : Prop := orderDealsRow.holds Try.pinned (OpenSpec.ofChange orderDealsSpec)

/-- ITS FALSE NEIGHBOUR: 'it returns false'. Refute it at one input. -/
def orderDealsWrong : ChangeSpec := { name := "orderDeals", fn := fun _ => fun
  | [d1, d2] => { results := [.lit (.bool false)], args := [d1, d2] }
  | _ => none }
def OrderDealsWrongFalsely : Prop := orderDealsRow.holds Try.pinned (OpenSpec.ofChange orderDealsWrong)

/-- 'backhaullaw26.OrderFinds': WHATEVER THE INPUT: true; the input reads as it did. -/
def orderFindsSpec : ChangeSpec := { name := "orderFinds", fn := fun _ => fun
  | [d1, d2] => { results := [.lit (.bool true)], args := [d1, d2] }
  | _ => none }
def orderFindsRow : OpenClaim := { program := "ytefhljhpcpajgaa", sum := "bce918bf063df2449b2efcc1270ad9563f7fc76ec76dc4bfd6a60f96fc18743d", func := "backhaul/backhaullaw26.OrderFinds", spec := "orderFinds", unfollowed := true, recurses := true, named := ["math/bits.divideError", "math/bits.overflowError"], apart := false }
def OrderFindsSaid : Prop := orderFindsRow.holds Try.pinned (OpenSpec.ofChange orderFindsSpec)

/-- ITS FALSE NEIGHBOUR: 'it returns false'. Refute it at one input. -/
def orderFindsWrong : ChangeSpec := { name := "orderFinds", fn := fun _ => fun
  | [d1, d2] => { results := [.lit (.bool false)], args := [d1, d2] }
  | _ => none }
def OrderFindsWrongFalsely : Prop := orderFindsRow.holds Try.pinned (OpenSpec.ofChange orderFindsWrong)

/- THE SECOND FORM. 'bulk': how many values and letters a reading holds, each counted each time it is reached (what is shared counts as often as it is met; a slice's spare places count too). A statement '..UptoSaid' is the law's where the arguments, and the package variables that the reading takes, are together of bulk at most 1048576: NARROWER than '..Said'. Prove '..Said' where nothing that the law and all that it calls make is longer than what came in: it says more and counts as full. Else prove '..UptoSaid'. A law counts once. -/
mutual
def uptoBulk {H : Type} : DataW H → Nat
  | .lit (.string bytes) => bytes.length + 1
  | .lit _ => 1
  | .nil => 1
  | .ptr d => uptoBulk d + 1
  | .slice elems spare => uptoBulkAll elems + uptoBulkAll spare + 1
  | .agg parts => uptoBulkAll parts + 1
  | .iface _ d => uptoBulk d + 1
  | .map entries => uptoBulkEntries entries + 1
  | .held _ => 1
def uptoBulkAll {H : Type} : List (DataW H) → Nat
  | [] => 0
  | d :: r => uptoBulk d + uptoBulkAll r
def uptoBulkEntries {H : Type} : List (Lit × DataW H) → Nat
  | [] => 0
  | x :: r => uptoBulkEntry x + uptoBulkEntries r
def uptoBulkEntry {H : Type} : Lit × DataW H → Nat
  | (.string bytes, d) => bytes.length + uptoBulk d + 1
  | (_, d) => uptoBulk d + 1
 end
def uptoSmall : (H : Type) → List (DataW H) → Bool := fun _ ds => decide (uptoBulkAll ds ≤ 1048576)
def OpenSpec.upto (s : _root_.Go.ChangeSpec) : _root_.Go.OpenSpec := { _root_.Go.OpenSpec.ofChange s with cond := some uptoSmall }

/-- 'backhaullaw02.CentsSums', WHERE WHAT IT READS IS OF BULK AT MOST 1048576: true; the input reads as it did. -/
def centsSumsUptoRow : OpenClaim := { program := "ytefhljhpcpajgaa", sum := "bce918bf063df2449b2efcc1270ad9563f7fc76ec76dc4bfd6a60f96fc18743d", func := "backhaul/backhaullaw02.CentsSums", spec := "centsSums", unfollowed := true, recurses := true, named := ["math/bits.divideError", "math/bits.overflowError"], apart := false, narrowed := true }
def CentsSumsUptoSaid : Prop := centsSumsUptoRow.holds Try.pinned (OpenSpec.upto centsSumsSpec)

/-- 'backhaullaw02.CentsShares', WHERE WHAT IT READS IS OF BULK AT MOST 1048576: true; the input reads as it did. -/
def centsSharesUptoRow : OpenClaim := { program := "ytefhljhpcpajgaa", sum := "bce918bf063df2449b2efcc1270ad9563f7fc76ec76dc4bfd6a60f96fc18743d", func := "backhaul/backhaullaw02.CentsShares", spec := "centsShares", unfollowed := true, recurses := true, named := ["math/bits.divideError", "math/bits.overflowError"], apart := false, narrowed := true }
def CentsSharesUptoSaid : Prop := centsSharesUptoRow.holds Try.pinned (OpenSpec.upto centsSharesSpec)

/-- 'backhaullaw02.CentsOver', WHERE WHAT IT READS IS OF BULK AT MOST 1048576: true; the input reads as it did. -/
def centsOverUptoRow : OpenClaim := { program := "ytefhljhpcpajgaa", sum := "bce918bf063df2449b2efcc1270ad9563f7fc76ec76dc4bfd6a60f96fc18743d", func := "backhaul/backhaullaw02.CentsOver", spec := "centsOver", unfollowed := true, recurses := true, named := ["math/bits.divideError", "math/bits.overflowError"], apart := false, narrowed := true }
def CentsOverUptoSaid : Prop := centsOverUptoRow.holds Try.pinned (OpenSpec.upto centsOverSpec)

/-- 'backhaullaw02.CentsDivs', WHERE WHAT IT READS IS OF BULK AT MOST 1048576: true; the input reads as it did. -/
def centsDivsUptoRow : OpenClaim := { program := "ytefhljhpcpajgaa", sum := "bce918bf063df2449b2efcc1270ad9563f7fc76ec76dc4bfd6a60f96fc18743d", func := "backhaul/backhaullaw02.CentsDivs", spec := "centsDivs", unfollowed := true, recurses := true, named := ["math/bits.divideError", "math/bits.overflowError"], apart := false, narrowed := true }
def CentsDivsUptoSaid : Prop := centsDivsUptoRow.holds Try.pinned (OpenSpec.upto centsDivsSpec)

/-- 'backhaullaw04.FeeTells', WHERE WHAT IT READS IS OF BULK AT MOST 1048576: true; the input reads as it did. -/
def feeTellsUptoRow : OpenClaim := { program := "ytefhljhpcpajgaa", sum := "bce918bf063df2449b2efcc1270ad9563f7fc76ec76dc4bfd6a60f96fc18743d", func := "backhaul/backhaullaw04.FeeTells", spec := "feeTells", unfollowed := true, recurses := true, named := ["math/bits.divideError", "math/bits.overflowError"], apart := false, narrowed := true }
def FeeTellsUptoSaid : Prop := feeTellsUptoRow.holds Try.pinned (OpenSpec.upto feeTellsSpec)

/-- 'backhaullaw04.FeeBounds', WHERE WHAT IT READS IS OF BULK AT MOST 1048576: true; the input reads as it did. -/
def feeBoundsUptoRow : OpenClaim := { program := "ytefhljhpcpajgaa", sum := "bce918bf063df2449b2efcc1270ad9563f7fc76ec76dc4bfd6a60f96fc18743d", func := "backhaul/backhaullaw04.FeeBounds", spec := "feeBounds", unfollowed := true, recurses := true, named := ["math/bits.divideError", "math/bits.overflowError"], apart := false, narrowed := true }
def FeeBoundsUptoSaid : Prop := feeBoundsUptoRow.holds Try.pinned (OpenSpec.upto feeBoundsSpec)

/-- 'backhaullaw04.FeeSteps', WHERE WHAT IT READS IS OF BULK AT MOST 1048576: true; the input reads as it did. -/
def feeStepsUptoRow : OpenClaim := { program := "ytefhljhpcpajgaa", sum := "bce918bf063df2449b2efcc1270ad9563f7fc76ec76dc4bfd6a60f96fc18743d", func := "backhaul/backhaullaw04.FeeSteps", spec := "feeSteps", unfollowed := true, recurses := true, named := ["math/bits.divideError", "math/bits.overflowError"], apart := false, narrowed := true }
def FeeStepsUptoSaid : Prop := feeStepsUptoRow.holds Try.pinned (OpenSpec.upto feeStepsSpec)

/-- 'backhaullaw03.ShareDeals', WHERE WHAT IT READS IS OF BULK AT MOST 1048576: true; the input reads as it did. -/
def shareDealsUptoRow : OpenClaim := { program := "ytefhljhpcpajgaa", sum := "bce918bf063df2449b2efcc1270ad9563f7fc76ec76dc4bfd6a60f96fc18743d", func := "backhaul/backhaullaw03.ShareDeals", spec := "shareDeals", unfollowed := true, recurses := true, named := ["math/bits.divideError", "math/bits.overflowError"], apart := false, narrowed := true }
def ShareDealsUptoSaid : Prop := shareDealsUptoRow.holds Try.pinned (OpenSpec.upto shareDealsSpec)

/-- 'backhaullaw03.ShareAll', WHERE WHAT IT READS IS OF BULK AT MOST 1048576: true; the input reads as it did. -/
def shareAllUptoRow : OpenClaim := { program := "ytefhljhpcpajgaa", sum := "bce918bf063df2449b2efcc1270ad9563f7fc76ec76dc4bfd6a60f96fc18743d", func := "backhaul/backhaullaw03.ShareAll", spec := "shareAll", unfollowed := true, recurses := true, named := ["math/bits.divideError", "math/bits.overflowError"], apart := false, narrowed := true }
def ShareAllUptoSaid : Prop := shareAllUptoRow.holds Try.pinned (OpenSpec.upto shareAllSpec)

/-- 'backhaullaw03.ShareFair', WHERE WHAT IT READS IS OF BULK AT MOST 1048576: true; the input reads as it did. -/
def shareFairUptoRow : OpenClaim := { program := "ytefhljhpcpajgaa", sum := "bce918bf063df2449b2efcc1270ad9563f7fc76ec76dc4bfd6a60f96fc18743d", func := "backhaul/backhaullaw03.ShareFair", spec := "shareFair", unfollowed := true, recurses := true, named := ["math/bits.divideError", "math/bits.overflowError"], apart := false, narrowed := true }
def ShareFairUptoSaid : Prop := shareFairUptoRow.holds Try.pinned (OpenSpec.upto shareFairSpec)

/-- 'backhaullaw21.LineDeals', WHERE WHAT IT READS IS OF BULK AT MOST 1048576: true; the input reads as it did. -/
def lineDealsUptoRow : OpenClaim := { program := "ytefhljhpcpajgaa", sum := "bce918bf063df2449b2efcc1270ad9563f7fc76ec76dc4bfd6a60f96fc18743d", func := "backhaul/backhaullaw21.LineDeals", spec := "lineDeals", unfollowed := true, recurses := true, named := ["math/bits.divideError", "math/bits.overflowError"], apart := false, narrowed := true }
def LineDealsUptoSaid : Prop := lineDealsUptoRow.holds Try.pinned (OpenSpec.upto lineDealsSpec)

/-- 'backhaullaw21.LineTells', WHERE WHAT IT READS IS OF BULK AT MOST 1048576: true; the input reads as it did. -/
def lineTellsUptoRow : OpenClaim := { program := "ytefhljhpcpajgaa", sum := "bce918bf063df2449b2efcc1270ad9563f7fc76ec76dc4bfd6a60f96fc18743d", func := "backhaul/backhaullaw21.LineTells", spec := "lineTells", unfollowed := true, recurses := true, named := ["math/bits.divideError", "math/bits.overflowError"], apart := false, narrowed := true }
def LineTellsUptoSaid : Prop := lineTellsUptoRow.holds Try.pinned (OpenSpec.upto lineTellsSpec)

/-- 'backhaullaw21.LineAll', WHERE WHAT IT READS IS OF BULK AT MOST 1048576: true; the input reads as it did. -/
def lineAllUptoRow : OpenClaim := { program := "ytefhljhpcpajgaa", sum := "bce918bf063df2449b2efcc1270ad9563f7fc76ec76dc4bfd6a60f96fc18743d", func := "backhaul/backhaullaw21.LineAll", spec := "lineAll", unfollowed := true, recurses := true, named := ["math/bits.divideError", "math/bits.overflowError"], apart := false, narrowed := true }
def LineAllUptoSaid : Prop := lineAllUptoRow.holds Try.pinned (OpenSpec.upto lineAllSpec)

/-- 'backhaullaw21.LineUnits', WHERE WHAT IT READS IS OF BULK AT MOST 1048576: true; the input reads as it did. -/
def lineUnitsUptoRow : OpenClaim := { program := "ytefhljhpcpajgaa", sum := "bce918bf063df2449b2efcc1270ad9563f7fc76ec76dc4bfd6a60f96fc18743d", func := "backhaul/backhaullaw21.LineUnits", spec := "lineUnits", unfollowed := true, recurses := true, named := ["math/bits.divideError", "math/bits.overflowError"], apart := false, narrowed := true }
def LineUnitsUptoSaid : Prop := lineUnitsUptoRow.holds Try.pinned (OpenSpec.upto lineUnitsSpec)

/-- 'backhaullaw22.ValueTells', WHERE WHAT IT READS IS OF BULK AT MOST 1048576: true; the input reads as it did. -/
def valueTellsUptoRow : OpenClaim := { program := "ytefhljhpcpajgaa", sum := "bce918bf063df2449b2efcc1270ad9563f7fc76ec76dc4bfd6a60f96fc18743d", func := "backhaul/backhaullaw22.ValueTells", spec := "valueTells", unfollowed := true, recurses := true, named := ["math/bits.divideError", "math/bits.overflowError"], apart := false, narrowed := true }
def ValueTellsUptoSaid : Prop := valueTellsUptoRow.holds Try.pinned (OpenSpec.upto valueTellsSpec)

/-- 'backhaullaw22.ValueBounds', WHERE WHAT IT READS IS OF BULK AT MOST 1048576: true; the input reads as it did. -/
def valueBoundsUptoRow : OpenClaim := { program := "ytefhljhpcpajgaa", sum := "bce918bf063df2449b2efcc1270ad9563f7fc76ec76dc4bfd6a60f96fc18743d", func := "backhaul/backhaullaw22.ValueBounds", spec := "valueBounds", unfollowed := true, recurses := true, named := ["math/bits.divideError", "math/bits.overflowError"], apart := false, narrowed := true }
def ValueBoundsUptoSaid : Prop := valueBoundsUptoRow.holds Try.pinned (OpenSpec.upto valueBoundsSpec)

/-- 'backhaullaw22.ValueWhole', WHERE WHAT IT READS IS OF BULK AT MOST 1048576: true; the input reads as it did. -/
def valueWholeUptoRow : OpenClaim := { program := "ytefhljhpcpajgaa", sum := "bce918bf063df2449b2efcc1270ad9563f7fc76ec76dc4bfd6a60f96fc18743d", func := "backhaul/backhaullaw22.ValueWhole", spec := "valueWhole", unfollowed := true, recurses := true, named := ["math/bits.divideError", "math/bits.overflowError"], apart := false, narrowed := true }
def ValueWholeUptoSaid : Prop := valueWholeUptoRow.holds Try.pinned (OpenSpec.upto valueWholeSpec)

/-- 'backhaullaw26.OrderMakes', WHERE WHAT IT READS IS OF BULK AT MOST 1048576: true; the input reads as it did. -/
def orderMakesUptoRow : OpenClaim := { program := "ytefhljhpcpajgaa", sum := "bce918bf063df2449b2efcc1270ad9563f7fc76ec76dc4bfd6a60f96fc18743d", func := "backhaul/backhaullaw26.OrderMakes", spec := "orderMakes", unfollowed := true, recurses := true, named := ["math/bits.divideError", "math/bits.overflowError"], apart := false, narrowed := true }
def OrderMakesUptoSaid : Prop := orderMakesUptoRow.holds Try.pinned (OpenSpec.upto orderMakesSpec)

/-- 'backhaullaw26.OrderTells', WHERE WHAT IT READS IS OF BULK AT MOST 1048576: true; the input reads as it did. -/
def orderTellsUptoRow : OpenClaim := { program := "ytefhljhpcpajgaa", sum := "bce918bf063df2449b2efcc1270ad9563f7fc76ec76dc4bfd6a60f96fc18743d", func := "backhaul/backhaullaw26.OrderTells", spec := "orderTells", unfollowed := true, recurses := true, named := ["math/bits.divideError", "math/bits.overflowError"], apart := false, narrowed := true }
def OrderTellsUptoSaid : Prop := orderTellsUptoRow.holds Try.pinned (OpenSpec.upto orderTellsSpec)

/-- 'backhaullaw26.OrderDeals', WHERE WHAT IT READS IS OF BULK AT MOST 1048576: true; the input reads as it did. -/
def orderDealsUptoRow : OpenClaim := { program := "ytefhljhpcpajgaa", sum := "bce918bf063df2449b2efcc1270ad9563f7fc76ec76dc4bfd6a60f96fc18743d", func := "backhaul/backhaullaw26.OrderDeals", spec := "orderDeals", unfollowed := true, recurses := true, named := ["math/bits.divideError", "math/bits.overflowError"], apart := false, narrowed := true }
def OrderDealsUptoSaid : Prop := orderDealsUptoRow.holds Try.pinned (OpenSpec.upto orderDealsSpec)

/-- 'backhaullaw26.OrderFinds', WHERE WHAT IT READS IS OF BULK AT MOST 1048576: true; the input reads as it did. -/
def orderFindsUptoRow : OpenClaim := { program := "ytefhljhpcpajgaa", sum := "bce918bf063df2449b2efcc1270ad9563f7fc76ec76dc4bfd6a60f96fc18743d", func := "backhaul/backhaullaw26.OrderFinds", spec := "orderFinds", unfollowed := true, recurses := true, named := ["math/bits.divideError", "math/bits.overflowError"], apart := false, narrowed := true }
def OrderFindsUptoSaid : Prop := orderFindsUptoRow.holds Try.pinned (OpenSpec.upto orderFindsSpec)

end Rows
end Go.Proofs.Ytefhljhpcpajgaa
