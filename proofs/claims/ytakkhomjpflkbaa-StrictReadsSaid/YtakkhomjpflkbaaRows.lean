/-
  No cell of these rows narrows 'for every input' (looked for: loops, veiled, ifaces, maps, wideKeys, modest, calm, conditions, laid).
  DERIVED. THE GIVEN ROWS OF THIS SEAT. 21 by the template 'for every input the law returns true; each argument reads behind the call as it read before'; 0 by the template 'total and deterministic' (their statements: YtakkhomjpflkbaaTotals.lean).
  GIVEN WITH THE SEED: the statements are not yours to turn. If you find one false, say at which input.
  Laid BY PROGRAM, IN A SANDBOX (cutbox-rows.mjs): the forced cells as the released guide's own fill.sh prints them over the translation 54f3a2a9a97cb49c… (all of the seat's roots in one cut). By AI agents, Wed Nov 11 2026. No macro, syntax, notation, axiom, sorry.
-/
import Derived.Test.YtakkhomjpflkbaaChecked
import GoSem.Claim
import GoSem.ClaimJoined
import GoSem.ClaimMapViews
import Derived.JoinedTies
import Derived.KernelRfl
namespace Go.Proofs.Ytakkhomjpflkbaa
/- THE CELL 'sum', in the pinned program and in every row, IS THE sha256 OF THE DUMP (.gsa) THAT YtakkhomjpflkbaaProg.lean LOADS. Nothing in Lean hashes anything: it is a label: what it is worth is what the hold of that sum in a sandbox is worth. -/
noncomputable def Try.pinned : Pinned := { name := "ytakkhomjpflkbaa", sum := "54f3a2a9a97cb49c7a41b6cd08d6e400ab867ac1b33cf602200f885833908b71", checked := Try.checked }
namespace Rows
def none {H : Type} : Left H := { results := [], args := [] }

/-- 'backhaullaw31.ReplyCodes': WHATEVER THE INPUT: true; the input reads as it did. -/
def replyCodesSpec : ChangeSpec := { name := "replyCodes", fn := fun _ => fun
  | [d1, d2, d3] => { results := [.lit (.bool true)], args := [d1, d2, d3] }
  | _ => none }
def replyCodesRow : OpenClaim := { program := "ytakkhomjpflkbaa", sum := "54f3a2a9a97cb49c7a41b6cd08d6e400ab867ac1b33cf602200f885833908b71", func := "backhaul/backhaullaw31.ReplyCodes", spec := "replyCodes", inPlace := ["internal/abi.NoEscape"], unfollowed := true, recurses := true, apart := false }
def ReplyCodesSaid : Prop := replyCodesRow.holds Try.pinned (OpenSpec.ofChange replyCodesSpec)

/-- ITS FALSE NEIGHBOUR: 'it returns false'. Refute it at one input. -/
def replyCodesWrong : ChangeSpec := { name := "replyCodes", fn := fun _ => fun
  | [d1, d2, d3] => { results := [.lit (.bool false)], args := [d1, d2, d3] }
  | _ => none }
def ReplyCodesWrongFalsely : Prop := replyCodesRow.holds Try.pinned (OpenSpec.ofChange replyCodesWrong)

/-- 'backhaullaw31.ReplyBack': WHATEVER THE INPUT: true; the input reads as it did. -/
def replyBackSpec : ChangeSpec := { name := "replyBack", fn := fun _ => fun
  | [d] => { results := [.lit (.bool true)], args := [d] }
  | _ => none }
def replyBackRow : OpenClaim := { program := "ytakkhomjpflkbaa", sum := "54f3a2a9a97cb49c7a41b6cd08d6e400ab867ac1b33cf602200f885833908b71", func := "backhaul/backhaullaw31.ReplyBack", spec := "replyBack", inPlace := ["internal/abi.NoEscape"], unfollowed := true, recurses := true, apart := false }
def ReplyBackSaid : Prop := replyBackRow.holds Try.pinned (OpenSpec.ofChange replyBackSpec)

/-- ITS FALSE NEIGHBOUR: 'it returns false'. Refute it at one input. -/
def replyBackWrong : ChangeSpec := { name := "replyBack", fn := fun _ => fun
  | [d] => { results := [.lit (.bool false)], args := [d] }
  | _ => none }
def ReplyBackWrongFalsely : Prop := replyBackRow.holds Try.pinned (OpenSpec.ofChange replyBackWrong)

/-- 'backhaullaw31.ReplyOnly': WHATEVER THE INPUT: true; the input reads as it did. -/
def replyOnlySpec : ChangeSpec := { name := "replyOnly", fn := fun _ => fun
  | [d] => { results := [.lit (.bool true)], args := [d] }
  | _ => none }
def replyOnlyRow : OpenClaim := { program := "ytakkhomjpflkbaa", sum := "54f3a2a9a97cb49c7a41b6cd08d6e400ab867ac1b33cf602200f885833908b71", func := "backhaul/backhaullaw31.ReplyOnly", spec := "replyOnly", inPlace := ["internal/abi.NoEscape"], unfollowed := true, recurses := true, apart := false }
def ReplyOnlySaid : Prop := replyOnlyRow.holds Try.pinned (OpenSpec.ofChange replyOnlySpec)

/-- ITS FALSE NEIGHBOUR: 'it returns false'. Refute it at one input. -/
def replyOnlyWrong : ChangeSpec := { name := "replyOnly", fn := fun _ => fun
  | [d] => { results := [.lit (.bool false)], args := [d] }
  | _ => none }
def ReplyOnlyWrongFalsely : Prop := replyOnlyRow.holds Try.pinned (OpenSpec.ofChange replyOnlyWrong)

/-- 'backhaullaw06.StrictReads': WHATEVER THE INPUT: true; the input reads as it did. -/
def strictReadsSpec : ChangeSpec := { name := "strictReads", fn := fun _ => fun
  | [d1, d2] => { results := [.lit (.bool true)], args := [d1, d2] }
  | _ => none }
def strictReadsRow : OpenClaim := { program := "ytakkhomjpflkbaa", sum := "54f3a2a9a97cb49c7a41b6cd08d6e400ab867ac1b33cf602200f885833908b71", func := "backhaul/backhaullaw06.StrictReads", spec := "strictReads", unfollowed := true, recurses := true, apart := false }
def StrictReadsSaid : Prop := strictReadsRow.holds Try.pinned (OpenSpec.ofChange strictReadsSpec)

/-- ITS FALSE NEIGHBOUR: 'it returns false'. Refute it at one input. -/
def strictReadsWrong : ChangeSpec := { name := "strictReads", fn := fun _ => fun
  | [d1, d2] => { results := [.lit (.bool false)], args := [d1, d2] }
  | _ => none }
def StrictReadsWrongFalsely : Prop := strictReadsRow.holds Try.pinned (OpenSpec.ofChange strictReadsWrong)

/-- 'backhaullaw06.StrictFirst': WHATEVER THE INPUT: true; the input reads as it did. -/
def strictFirstSpec : ChangeSpec := { name := "strictFirst", fn := fun _ => fun
  | [d1, d2, d3] => { results := [.lit (.bool true)], args := [d1, d2, d3] }
  | _ => none }
def strictFirstRow : OpenClaim := { program := "ytakkhomjpflkbaa", sum := "54f3a2a9a97cb49c7a41b6cd08d6e400ab867ac1b33cf602200f885833908b71", func := "backhaul/backhaullaw06.StrictFirst", spec := "strictFirst", unfollowed := true, recurses := true, apart := false }
def StrictFirstSaid : Prop := strictFirstRow.holds Try.pinned (OpenSpec.ofChange strictFirstSpec)

/-- ITS FALSE NEIGHBOUR: 'it returns false'. Refute it at one input. -/
def strictFirstWrong : ChangeSpec := { name := "strictFirst", fn := fun _ => fun
  | [d1, d2, d3] => { results := [.lit (.bool false)], args := [d1, d2, d3] }
  | _ => none }
def StrictFirstWrongFalsely : Prop := strictFirstRow.holds Try.pinned (OpenSpec.ofChange strictFirstWrong)

/-- 'backhaullaw27.RmaMakes': WHATEVER THE INPUT: true; the input reads as it did. -/
def rmaMakesSpec : ChangeSpec := { name := "rmaMakes", fn := fun _ => fun
  | [d1, d2, d3] => { results := [.lit (.bool true)], args := [d1, d2, d3] }
  | _ => none }
def rmaMakesRow : OpenClaim := { program := "ytakkhomjpflkbaa", sum := "54f3a2a9a97cb49c7a41b6cd08d6e400ab867ac1b33cf602200f885833908b71", func := "backhaul/backhaullaw27.RmaMakes", spec := "rmaMakes", unfollowed := true, recurses := true, apart := false }
def RmaMakesSaid : Prop := rmaMakesRow.holds Try.pinned (OpenSpec.ofChange rmaMakesSpec)

/-- ITS FALSE NEIGHBOUR: 'it returns false'. Refute it at one input. -/
def rmaMakesWrong : ChangeSpec := { name := "rmaMakes", fn := fun _ => fun
  | [d1, d2, d3] => { results := [.lit (.bool false)], args := [d1, d2, d3] }
  | _ => none }
def RmaMakesWrongFalsely : Prop := rmaMakesRow.holds Try.pinned (OpenSpec.ofChange rmaMakesWrong)

/-- 'backhaullaw27.RmaMoves': WHATEVER THE INPUT: true; the input reads as it did. -/
def rmaMovesSpec : ChangeSpec := { name := "rmaMoves", fn := fun _ => fun
  | [d1, d2, d3] => { results := [.lit (.bool true)], args := [d1, d2, d3] }
  | _ => none }
def rmaMovesRow : OpenClaim := { program := "ytakkhomjpflkbaa", sum := "54f3a2a9a97cb49c7a41b6cd08d6e400ab867ac1b33cf602200f885833908b71", func := "backhaul/backhaullaw27.RmaMoves", spec := "rmaMoves", unfollowed := true, recurses := true, apart := false }
def RmaMovesSaid : Prop := rmaMovesRow.holds Try.pinned (OpenSpec.ofChange rmaMovesSpec)

/-- ITS FALSE NEIGHBOUR: 'it returns false'. Refute it at one input. -/
def rmaMovesWrong : ChangeSpec := { name := "rmaMoves", fn := fun _ => fun
  | [d1, d2, d3] => { results := [.lit (.bool false)], args := [d1, d2, d3] }
  | _ => none }
def RmaMovesWrongFalsely : Prop := rmaMovesRow.holds Try.pinned (OpenSpec.ofChange rmaMovesWrong)

/-- 'backhaullaw27.RmaTurns': WHATEVER THE INPUT: true; the input reads as it did. -/
def rmaTurnsSpec : ChangeSpec := { name := "rmaTurns", fn := fun _ => fun
  | [d1, d2, d3] => { results := [.lit (.bool true)], args := [d1, d2, d3] }
  | _ => none }
def rmaTurnsRow : OpenClaim := { program := "ytakkhomjpflkbaa", sum := "54f3a2a9a97cb49c7a41b6cd08d6e400ab867ac1b33cf602200f885833908b71", func := "backhaul/backhaullaw27.RmaTurns", spec := "rmaTurns", unfollowed := true, recurses := true, apart := false }
def RmaTurnsSaid : Prop := rmaTurnsRow.holds Try.pinned (OpenSpec.ofChange rmaTurnsSpec)

/-- ITS FALSE NEIGHBOUR: 'it returns false'. Refute it at one input. -/
def rmaTurnsWrong : ChangeSpec := { name := "rmaTurns", fn := fun _ => fun
  | [d1, d2, d3] => { results := [.lit (.bool false)], args := [d1, d2, d3] }
  | _ => none }
def RmaTurnsWrongFalsely : Prop := rmaTurnsRow.holds Try.pinned (OpenSpec.ofChange rmaTurnsWrong)

/-- 'backhaullaw27.RmaBounds': WHATEVER THE INPUT: true; the input reads as it did. -/
def rmaBoundsSpec : ChangeSpec := { name := "rmaBounds", fn := fun _ => fun
  | [d1, d2] => { results := [.lit (.bool true)], args := [d1, d2] }
  | _ => none }
def rmaBoundsRow : OpenClaim := { program := "ytakkhomjpflkbaa", sum := "54f3a2a9a97cb49c7a41b6cd08d6e400ab867ac1b33cf602200f885833908b71", func := "backhaul/backhaullaw27.RmaBounds", spec := "rmaBounds", unfollowed := true, recurses := true, apart := false }
def RmaBoundsSaid : Prop := rmaBoundsRow.holds Try.pinned (OpenSpec.ofChange rmaBoundsSpec)

/-- ITS FALSE NEIGHBOUR: 'it returns false'. Refute it at one input. -/
def rmaBoundsWrong : ChangeSpec := { name := "rmaBounds", fn := fun _ => fun
  | [d1, d2] => { results := [.lit (.bool false)], args := [d1, d2] }
  | _ => none }
def RmaBoundsWrongFalsely : Prop := rmaBoundsRow.holds Try.pinned (OpenSpec.ofChange rmaBoundsWrong)

/-- 'backhaullaw06.StrictWhole': WHATEVER THE INPUT: true; the input reads as it did. -/
def strictWholeSpec : ChangeSpec := { name := "strictWhole", fn := fun _ => fun
  | [d1, d2] => { results := [.lit (.bool true)], args := [d1, d2] }
  | _ => none }
def strictWholeRow : OpenClaim := { program := "ytakkhomjpflkbaa", sum := "54f3a2a9a97cb49c7a41b6cd08d6e400ab867ac1b33cf602200f885833908b71", func := "backhaul/backhaullaw06.StrictWhole", spec := "strictWhole", inPlace := ["internal/abi.NoEscape"], unfollowed := true, recurses := true, apart := false }
def StrictWholeSaid : Prop := strictWholeRow.holds Try.pinned (OpenSpec.ofChange strictWholeSpec)

/-- ITS FALSE NEIGHBOUR: 'it returns false'. Refute it at one input. -/
def strictWholeWrong : ChangeSpec := { name := "strictWhole", fn := fun _ => fun
  | [d1, d2] => { results := [.lit (.bool false)], args := [d1, d2] }
  | _ => none }
def StrictWholeWrongFalsely : Prop := strictWholeRow.holds Try.pinned (OpenSpec.ofChange strictWholeWrong)

/-- 'backhaullaw14.IndexTells': WHATEVER THE INPUT: true; the input reads as it did. -/
def indexTellsSpec : ChangeSpec := { name := "indexTells", fn := fun _ => fun
  | [d1, d2, d3] => { results := [.lit (.bool true)], args := [d1, d2, d3] }
  | _ => none }
def indexTellsRow : OpenClaim := { program := "ytakkhomjpflkbaa", sum := "54f3a2a9a97cb49c7a41b6cd08d6e400ab867ac1b33cf602200f885833908b71", func := "backhaul/backhaullaw14.IndexTells", spec := "indexTells", inPlace := ["slices.overlaps[string]", "slices.overlaps[[]int]"], unfollowed := true, recurses := true, apart := false }
def IndexTellsSaid : Prop := indexTellsRow.holds Try.pinned (OpenSpec.ofChange indexTellsSpec)

/-- ITS FALSE NEIGHBOUR: 'it returns false'. Refute it at one input. -/
def indexTellsWrong : ChangeSpec := { name := "indexTells", fn := fun _ => fun
  | [d1, d2, d3] => { results := [.lit (.bool false)], args := [d1, d2, d3] }
  | _ => none }
def IndexTellsWrongFalsely : Prop := indexTellsRow.holds Try.pinned (OpenSpec.ofChange indexTellsWrong)

/-- 'backhaullaw14.IndexAdds': WHATEVER THE INPUT: true; the input reads as it did. -/
def indexAddsSpec : ChangeSpec := { name := "indexAdds", fn := fun _ => fun
  | [d1, d2, d3] => { results := [.lit (.bool true)], args := [d1, d2, d3] }
  | _ => none }
def indexAddsRow : OpenClaim := { program := "ytakkhomjpflkbaa", sum := "54f3a2a9a97cb49c7a41b6cd08d6e400ab867ac1b33cf602200f885833908b71", func := "backhaul/backhaullaw14.IndexAdds", spec := "indexAdds", inPlace := ["slices.overlaps[string]", "slices.overlaps[[]int]"], unfollowed := true, recurses := true, apart := false }
def IndexAddsSaid : Prop := indexAddsRow.holds Try.pinned (OpenSpec.ofChange indexAddsSpec)

/-- ITS FALSE NEIGHBOUR: 'it returns false'. Refute it at one input. -/
def indexAddsWrong : ChangeSpec := { name := "indexAdds", fn := fun _ => fun
  | [d1, d2, d3] => { results := [.lit (.bool false)], args := [d1, d2, d3] }
  | _ => none }
def IndexAddsWrongFalsely : Prop := indexAddsRow.holds Try.pinned (OpenSpec.ofChange indexAddsWrong)

/-- 'backhaullaw14.IndexTurns': WHATEVER THE INPUT: true; the input reads as it did. -/
def indexTurnsSpec : ChangeSpec := { name := "indexTurns", fn := fun _ => fun
  | [d1, d2, d3] => { results := [.lit (.bool true)], args := [d1, d2, d3] }
  | _ => none }
def indexTurnsRow : OpenClaim := { program := "ytakkhomjpflkbaa", sum := "54f3a2a9a97cb49c7a41b6cd08d6e400ab867ac1b33cf602200f885833908b71", func := "backhaul/backhaullaw14.IndexTurns", spec := "indexTurns", inPlace := ["slices.overlaps[string]", "slices.overlaps[[]int]"], unfollowed := true, recurses := true, apart := false }
def IndexTurnsSaid : Prop := indexTurnsRow.holds Try.pinned (OpenSpec.ofChange indexTurnsSpec)

/-- ITS FALSE NEIGHBOUR: 'it returns false'. Refute it at one input. -/
def indexTurnsWrong : ChangeSpec := { name := "indexTurns", fn := fun _ => fun
  | [d1, d2, d3] => { results := [.lit (.bool false)], args := [d1, d2, d3] }
  | _ => none }
def IndexTurnsWrongFalsely : Prop := indexTurnsRow.holds Try.pinned (OpenSpec.ofChange indexTurnsWrong)

/-- 'backhaullaw14.IndexWhole': WHATEVER THE INPUT: true; the input reads as it did. -/
def indexWholeSpec : ChangeSpec := { name := "indexWhole", fn := fun _ => fun
  | [d1, d2, d3] => { results := [.lit (.bool true)], args := [d1, d2, d3] }
  | _ => none }
def indexWholeRow : OpenClaim := { program := "ytakkhomjpflkbaa", sum := "54f3a2a9a97cb49c7a41b6cd08d6e400ab867ac1b33cf602200f885833908b71", func := "backhaul/backhaullaw14.IndexWhole", spec := "indexWhole", inPlace := ["slices.overlaps[string]", "slices.overlaps[[]int]"], unfollowed := true, recurses := true, apart := false }
def IndexWholeSaid : Prop := indexWholeRow.holds Try.pinned (OpenSpec.ofChange indexWholeSpec)

/-- ITS FALSE NEIGHBOUR: 'it returns false'. Refute it at one input. -/
def indexWholeWrong : ChangeSpec := { name := "indexWhole", fn := fun _ => fun
  | [d1, d2, d3] => { results := [.lit (.bool false)], args := [d1, d2, d3] }
  | _ => none }
def IndexWholeWrongFalsely : Prop := indexWholeRow.holds Try.pinned (OpenSpec.ofChange indexWholeWrong)

/-- 'backhaullaw15.BatchApplies': WHATEVER THE INPUT: true; the input reads as it did. -/
def batchAppliesSpec : ChangeSpec := { name := "batchApplies", fn := fun _ => fun
  | [d1, d2, d3] => { results := [.lit (.bool true)], args := [d1, d2, d3] }
  | _ => none }
def batchAppliesRow : OpenClaim := { program := "ytakkhomjpflkbaa", sum := "54f3a2a9a97cb49c7a41b6cd08d6e400ab867ac1b33cf602200f885833908b71", func := "backhaul/backhaullaw15.BatchApplies", spec := "batchApplies", inPlace := ["internal/abi.NoEscape"], unfollowed := true, recurses := true, apart := false }
def BatchAppliesSaid : Prop := batchAppliesRow.holds Try.pinned (OpenSpec.ofChange batchAppliesSpec)

/-- ITS FALSE NEIGHBOUR: 'it returns false'. Refute it at one input. -/
def batchAppliesWrong : ChangeSpec := { name := "batchApplies", fn := fun _ => fun
  | [d1, d2, d3] => { results := [.lit (.bool false)], args := [d1, d2, d3] }
  | _ => none }
def BatchAppliesWrongFalsely : Prop := batchAppliesRow.holds Try.pinned (OpenSpec.ofChange batchAppliesWrong)

/-- 'backhaullaw15.BatchCodes': WHATEVER THE INPUT: true; the input reads as it did. -/
def batchCodesSpec : ChangeSpec := { name := "batchCodes", fn := fun _ => fun
  | [d1, d2, d3] => { results := [.lit (.bool true)], args := [d1, d2, d3] }
  | _ => none }
def batchCodesRow : OpenClaim := { program := "ytakkhomjpflkbaa", sum := "54f3a2a9a97cb49c7a41b6cd08d6e400ab867ac1b33cf602200f885833908b71", func := "backhaul/backhaullaw15.BatchCodes", spec := "batchCodes", inPlace := ["internal/abi.NoEscape"], unfollowed := true, recurses := true, apart := false }
def BatchCodesSaid : Prop := batchCodesRow.holds Try.pinned (OpenSpec.ofChange batchCodesSpec)

/-- ITS FALSE NEIGHBOUR: 'it returns false'. Refute it at one input. -/
def batchCodesWrong : ChangeSpec := { name := "batchCodes", fn := fun _ => fun
  | [d1, d2, d3] => { results := [.lit (.bool false)], args := [d1, d2, d3] }
  | _ => none }
def BatchCodesWrongFalsely : Prop := batchCodesRow.holds Try.pinned (OpenSpec.ofChange batchCodesWrong)

/-- 'backhaullaw15.BatchWhole': WHATEVER THE INPUT: true; the input reads as it did. -/
def batchWholeSpec : ChangeSpec := { name := "batchWhole", fn := fun _ => fun
  | [d1, d2] => { results := [.lit (.bool true)], args := [d1, d2] }
  | _ => none }
def batchWholeRow : OpenClaim := { program := "ytakkhomjpflkbaa", sum := "54f3a2a9a97cb49c7a41b6cd08d6e400ab867ac1b33cf602200f885833908b71", func := "backhaul/backhaullaw15.BatchWhole", spec := "batchWhole", inPlace := ["internal/abi.NoEscape"], unfollowed := true, recurses := true, apart := false }
def BatchWholeSaid : Prop := batchWholeRow.holds Try.pinned (OpenSpec.ofChange batchWholeSpec)

/-- ITS FALSE NEIGHBOUR: 'it returns false'. Refute it at one input. -/
def batchWholeWrong : ChangeSpec := { name := "batchWhole", fn := fun _ => fun
  | [d1, d2] => { results := [.lit (.bool false)], args := [d1, d2] }
  | _ => none }
def BatchWholeWrongFalsely : Prop := batchWholeRow.holds Try.pinned (OpenSpec.ofChange batchWholeWrong)

/-- 'backhaullaw15.BatchUndo': WHATEVER THE INPUT: true; the input reads as it did. -/
def batchUndoSpec : ChangeSpec := { name := "batchUndo", fn := fun _ => fun
  | [d1, d2] => { results := [.lit (.bool true)], args := [d1, d2] }
  | _ => none }
def batchUndoRow : OpenClaim := { program := "ytakkhomjpflkbaa", sum := "54f3a2a9a97cb49c7a41b6cd08d6e400ab867ac1b33cf602200f885833908b71", func := "backhaul/backhaullaw15.BatchUndo", spec := "batchUndo", inPlace := ["internal/abi.NoEscape"], unfollowed := true, recurses := true, apart := false }
def BatchUndoSaid : Prop := batchUndoRow.holds Try.pinned (OpenSpec.ofChange batchUndoSpec)

/-- ITS FALSE NEIGHBOUR: 'it returns false'. Refute it at one input. -/
def batchUndoWrong : ChangeSpec := { name := "batchUndo", fn := fun _ => fun
  | [d1, d2] => { results := [.lit (.bool false)], args := [d1, d2] }
  | _ => none }
def BatchUndoWrongFalsely : Prop := batchUndoRow.holds Try.pinned (OpenSpec.ofChange batchUndoWrong)

/-- 'backhaullaw15.BatchDiff': WHATEVER THE INPUT: true; the input reads as it did. -/
def batchDiffSpec : ChangeSpec := { name := "batchDiff", fn := fun _ => fun
  | [d1, d2, d3] => { results := [.lit (.bool true)], args := [d1, d2, d3] }
  | _ => none }
def batchDiffRow : OpenClaim := { program := "ytakkhomjpflkbaa", sum := "54f3a2a9a97cb49c7a41b6cd08d6e400ab867ac1b33cf602200f885833908b71", func := "backhaul/backhaullaw15.BatchDiff", spec := "batchDiff", inPlace := ["internal/abi.NoEscape"], unfollowed := true, recurses := true, apart := false }
def BatchDiffSaid : Prop := batchDiffRow.holds Try.pinned (OpenSpec.ofChange batchDiffSpec)

/-- ITS FALSE NEIGHBOUR: 'it returns false'. Refute it at one input. -/
def batchDiffWrong : ChangeSpec := { name := "batchDiff", fn := fun _ => fun
  | [d1, d2, d3] => { results := [.lit (.bool false)], args := [d1, d2, d3] }
  | _ => none }
def BatchDiffWrongFalsely : Prop := batchDiffRow.holds Try.pinned (OpenSpec.ofChange batchDiffWrong)

/-- 'backhaullaw30.CmdBack': WHATEVER THE INPUT: true; the input reads as it did. -/
def cmdBackSpec : ChangeSpec := { name := "cmdBack", fn := fun _ => fun
  | [d] => { results := [.lit (.bool true)], args := [d] }
  | _ => none }
def cmdBackRow : OpenClaim := { program := "ytakkhomjpflkbaa", sum := "54f3a2a9a97cb49c7a41b6cd08d6e400ab867ac1b33cf602200f885833908b71", func := "backhaul/backhaullaw30.CmdBack", spec := "cmdBack", inPlace := ["internal/abi.NoEscape"], unfollowed := true, recurses := true, apart := false }
def CmdBackSaid : Prop := cmdBackRow.holds Try.pinned (OpenSpec.ofChange cmdBackSpec)

/-- ITS FALSE NEIGHBOUR: 'it returns false'. Refute it at one input. -/
def cmdBackWrong : ChangeSpec := { name := "cmdBack", fn := fun _ => fun
  | [d] => { results := [.lit (.bool false)], args := [d] }
  | _ => none }
def CmdBackWrongFalsely : Prop := cmdBackRow.holds Try.pinned (OpenSpec.ofChange cmdBackWrong)

/-- 'backhaullaw30.CmdOnly': WHATEVER THE INPUT: true; the input reads as it did. -/
def cmdOnlySpec : ChangeSpec := { name := "cmdOnly", fn := fun _ => fun
  | [d1, d2] => { results := [.lit (.bool true)], args := [d1, d2] }
  | _ => none }
def cmdOnlyRow : OpenClaim := { program := "ytakkhomjpflkbaa", sum := "54f3a2a9a97cb49c7a41b6cd08d6e400ab867ac1b33cf602200f885833908b71", func := "backhaul/backhaullaw30.CmdOnly", spec := "cmdOnly", inPlace := ["internal/abi.NoEscape"], unfollowed := true, recurses := true, apart := false }
def CmdOnlySaid : Prop := cmdOnlyRow.holds Try.pinned (OpenSpec.ofChange cmdOnlySpec)

/-- ITS FALSE NEIGHBOUR: 'it returns false'. Refute it at one input. -/
def cmdOnlyWrong : ChangeSpec := { name := "cmdOnly", fn := fun _ => fun
  | [d1, d2] => { results := [.lit (.bool false)], args := [d1, d2] }
  | _ => none }
def CmdOnlyWrongFalsely : Prop := cmdOnlyRow.holds Try.pinned (OpenSpec.ofChange cmdOnlyWrong)

/- THE SECOND FORM. 'bulk': how many values and letters a reading holds, each counted each time it is reached (what is shared counts as often as it is met; a slice's spare places count too). A statement '..UptoSaid' is the law's where the arguments, and the package variables that the reading takes, are together of bulk at most 1048576: NARROWER than '..Said'. Prove '..Said' where nothing that the law and all that it calls make is longer than what came in: it says more and counts as full. Else prove '..UptoSaid'. A law counts once. -/
mutual
def uptoBulk {H : Type} : DataW H → Nat
  | .lit (.string bytes) => bytes.length + 1
  | .lit _ => 1
  | .nil => 1
  | .ptr d => uptoBulk d + 1
  | .slice elems spare => uptoBulkAll elems + uptoBulkAll spare + 1
  | .agg parts => uptoBulkAll parts + 1
  | .iface _ d => uptoBulk d + 1
  | .map entries => uptoBulkEntries entries + 1
  | .held _ => 1
def uptoBulkAll {H : Type} : List (DataW H) → Nat
  | [] => 0
  | d :: r => uptoBulk d + uptoBulkAll r
def uptoBulkEntries {H : Type} : List (Lit × DataW H) → Nat
  | [] => 0
  | x :: r => uptoBulkEntry x + uptoBulkEntries r
def uptoBulkEntry {H : Type} : Lit × DataW H → Nat
  | (.string bytes, d) => bytes.length + uptoBulk d + 1
  | (_, d) => uptoBulk d + 1
 end
def uptoSmall : (H : Type) → List (DataW H) → Bool := fun _ ds => decide (uptoBulkAll ds ≤ 1048576)
def OpenSpec.upto (s : _root_.Go.ChangeSpec) : _root_.Go.OpenSpec := { _root_.Go.OpenSpec.ofChange s with cond := some uptoSmall }

/-- 'backhaullaw31.ReplyCodes', WHERE WHAT IT READS IS OF BULK AT MOST 1048576: true; the input reads as it did. -/
def replyCodesUptoRow : OpenClaim := { program := "ytakkhomjpflkbaa", sum := "54f3a2a9a97cb49c7a41b6cd08d6e400ab867ac1b33cf602200f885833908b71", func := "backhaul/backhaullaw31.ReplyCodes", spec := "replyCodes", inPlace := ["internal/abi.NoEscape"], unfollowed := true, recurses := true, apart := false, narrowed := true }
def ReplyCodesUptoSaid : Prop := replyCodesUptoRow.holds Try.pinned (OpenSpec.upto replyCodesSpec)

/-- 'backhaullaw31.ReplyBack', WHERE WHAT IT READS IS OF BULK AT MOST 1048576: true; the input reads as it did. -/
def replyBackUptoRow : OpenClaim := { program := "ytakkhomjpflkbaa", sum := "54f3a2a9a97cb49c7a41b6cd08d6e400ab867ac1b33cf602200f885833908b71", func := "backhaul/backhaullaw31.ReplyBack", spec := "replyBack", inPlace := ["internal/abi.NoEscape"], unfollowed := true, recurses := true, apart := false, narrowed := true }
def ReplyBackUptoSaid : Prop := replyBackUptoRow.holds Try.pinned (OpenSpec.upto replyBackSpec)

/-- 'backhaullaw31.ReplyOnly', WHERE WHAT IT READS IS OF BULK AT MOST 1048576: true; the input reads as it did. -/
def replyOnlyUptoRow : OpenClaim := { program := "ytakkhomjpflkbaa", sum := "54f3a2a9a97cb49c7a41b6cd08d6e400ab867ac1b33cf602200f885833908b71", func := "backhaul/backhaullaw31.ReplyOnly", spec := "replyOnly", inPlace := ["internal/abi.NoEscape"], unfollowed := true, recurses := true, apart := false, narrowed := true }
def ReplyOnlyUptoSaid : Prop := replyOnlyUptoRow.holds Try.pinned (OpenSpec.upto replyOnlySpec)

/-- 'backhaullaw06.StrictReads', WHERE WHAT IT READS IS OF BULK AT MOST 1048576: true; the input reads as it did. -/
def strictReadsUptoRow : OpenClaim := { program := "ytakkhomjpflkbaa", sum := "54f3a2a9a97cb49c7a41b6cd08d6e400ab867ac1b33cf602200f885833908b71", func := "backhaul/backhaullaw06.StrictReads", spec := "strictReads", unfollowed := true, recurses := true, apart := false, narrowed := true }
def StrictReadsUptoSaid : Prop := strictReadsUptoRow.holds Try.pinned (OpenSpec.upto strictReadsSpec)

/-- 'backhaullaw06.StrictFirst', WHERE WHAT IT READS IS OF BULK AT MOST 1048576: true; the input reads as it did. -/
def strictFirstUptoRow : OpenClaim := { program := "ytakkhomjpflkbaa", sum := "54f3a2a9a97cb49c7a41b6cd08d6e400ab867ac1b33cf602200f885833908b71", func := "backhaul/backhaullaw06.StrictFirst", spec := "strictFirst", unfollowed := true, recurses := true, apart := false, narrowed := true }
def StrictFirstUptoSaid : Prop := strictFirstUptoRow.holds Try.pinned (OpenSpec.upto strictFirstSpec)

/-- 'backhaullaw27.RmaMakes', WHERE WHAT IT READS IS OF BULK AT MOST 1048576: true; the input reads as it did. -/
def rmaMakesUptoRow : OpenClaim := { program := "ytakkhomjpflkbaa", sum := "54f3a2a9a97cb49c7a41b6cd08d6e400ab867ac1b33cf602200f885833908b71", func := "backhaul/backhaullaw27.RmaMakes", spec := "rmaMakes", unfollowed := true, recurses := true, apart := false, narrowed := true }
def RmaMakesUptoSaid : Prop := rmaMakesUptoRow.holds Try.pinned (OpenSpec.upto rmaMakesSpec)

/-- 'backhaullaw27.RmaMoves', WHERE WHAT IT READS IS OF BULK AT MOST 1048576: true; the input reads as it did. -/
def rmaMovesUptoRow : OpenClaim := { program := "ytakkhomjpflkbaa", sum := "54f3a2a9a97cb49c7a41b6cd08d6e400ab867ac1b33cf602200f885833908b71", func := "backhaul/backhaullaw27.RmaMoves", spec := "rmaMoves", unfollowed := true, recurses := true, apart := false, narrowed := true }
def RmaMovesUptoSaid : Prop := rmaMovesUptoRow.holds Try.pinned (OpenSpec.upto rmaMovesSpec)

/-- 'backhaullaw27.RmaTurns', WHERE WHAT IT READS IS OF BULK AT MOST 1048576: true; the input reads as it did. -/
def rmaTurnsUptoRow : OpenClaim := { program := "ytakkhomjpflkbaa", sum := "54f3a2a9a97cb49c7a41b6cd08d6e400ab867ac1b33cf602200f885833908b71", func := "backhaul/backhaullaw27.RmaTurns", spec := "rmaTurns", unfollowed := true, recurses := true, apart := false, narrowed := true }
def RmaTurnsUptoSaid : Prop := rmaTurnsUptoRow.holds Try.pinned (OpenSpec.upto rmaTurnsSpec)

/-- 'backhaullaw27.RmaBounds', WHERE WHAT IT READS IS OF BULK AT MOST 1048576: true; the input reads as it did. -/
def rmaBoundsUptoRow : OpenClaim := { program := "ytakkhomjpflkbaa", sum := "54f3a2a9a97cb49c7a41b6cd08d6e400ab867ac1b33cf602200f885833908b71", func := "backhaul/backhaullaw27.RmaBounds", spec := "rmaBounds", unfollowed := true, recurses := true, apart := false, narrowed := true }
def RmaBoundsUptoSaid : Prop := rmaBoundsUptoRow.holds Try.pinned (OpenSpec.upto rmaBoundsSpec)

/-- 'backhaullaw06.StrictWhole', WHERE WHAT IT READS IS OF BULK AT MOST 1048576: true; the input reads as it did. -/
def strictWholeUptoRow : OpenClaim := { program := "ytakkhomjpflkbaa", sum := "54f3a2a9a97cb49c7a41b6cd08d6e400ab867ac1b33cf602200f885833908b71", func := "backhaul/backhaullaw06.StrictWhole", spec := "strictWhole", inPlace := ["internal/abi.NoEscape"], unfollowed := true, recurses := true, apart := false, narrowed := true }
def StrictWholeUptoSaid : Prop := strictWholeUptoRow.holds Try.pinned (OpenSpec.upto strictWholeSpec)

/-- 'backhaullaw14.IndexTells', WHERE WHAT IT READS IS OF BULK AT MOST 1048576: true; the input reads as it did. -/
def indexTellsUptoRow : OpenClaim := { program := "ytakkhomjpflkbaa", sum := "54f3a2a9a97cb49c7a41b6cd08d6e400ab867ac1b33cf602200f885833908b71", func := "backhaul/backhaullaw14.IndexTells", spec := "indexTells", inPlace := ["slices.overlaps[string]", "slices.overlaps[[]int]"], unfollowed := true, recurses := true, apart := false, narrowed := true }
def IndexTellsUptoSaid : Prop := indexTellsUptoRow.holds Try.pinned (OpenSpec.upto indexTellsSpec)

/-- 'backhaullaw14.IndexAdds', WHERE WHAT IT READS IS OF BULK AT MOST 1048576: true; the input reads as it did. -/
def indexAddsUptoRow : OpenClaim := { program := "ytakkhomjpflkbaa", sum := "54f3a2a9a97cb49c7a41b6cd08d6e400ab867ac1b33cf602200f885833908b71", func := "backhaul/backhaullaw14.IndexAdds", spec := "indexAdds", inPlace := ["slices.overlaps[string]", "slices.overlaps[[]int]"], unfollowed := true, recurses := true, apart := false, narrowed := true }
def IndexAddsUptoSaid : Prop := indexAddsUptoRow.holds Try.pinned (OpenSpec.upto indexAddsSpec)

/-- 'backhaullaw14.IndexTurns', WHERE WHAT IT READS IS OF BULK AT MOST 1048576: true; the input reads as it did. -/
def indexTurnsUptoRow : OpenClaim := { program := "ytakkhomjpflkbaa", sum := "54f3a2a9a97cb49c7a41b6cd08d6e400ab867ac1b33cf602200f885833908b71", func := "backhaul/backhaullaw14.IndexTurns", spec := "indexTurns", inPlace := ["slices.overlaps[string]", "slices.overlaps[[]int]"], unfollowed := true, recurses := true, apart := false, narrowed := true }
def IndexTurnsUptoSaid : Prop := indexTurnsUptoRow.holds Try.pinned (OpenSpec.upto indexTurnsSpec)

/-- 'backhaullaw14.IndexWhole', WHERE WHAT IT READS IS OF BULK AT MOST 1048576: true; the input reads as it did. -/
def indexWholeUptoRow : OpenClaim := { program := "ytakkhomjpflkbaa", sum := "54f3a2a9a97cb49c7a41b6cd08d6e400ab867ac1b33cf602200f885833908b71", func := "backhaul/backhaullaw14.IndexWhole", spec := "indexWhole", inPlace := ["slices.overlaps[string]", "slices.overlaps[[]int]"], unfollowed := true, recurses := true, apart := false, narrowed := true }
def IndexWholeUptoSaid : Prop := indexWholeUptoRow.holds Try.pinned (OpenSpec.upto indexWholeSpec)

/-- 'backhaullaw15.BatchApplies', WHERE WHAT IT READS IS OF BULK AT MOST 1048576: true; the input reads as it did. -/
def batchAppliesUptoRow : OpenClaim := { program := "ytakkhomjpflkbaa", sum := "54f3a2a9a97cb49c7a41b6cd08d6e400ab867ac1b33cf602200f885833908b71", func := "backhaul/backhaullaw15.BatchApplies", spec := "batchApplies", inPlace := ["internal/abi.NoEscape"], unfollowed := true, recurses := true, apart := false, narrowed := true }
def BatchAppliesUptoSaid : Prop := batchAppliesUptoRow.holds Try.pinned (OpenSpec.upto batchAppliesSpec)

/-- 'backhaullaw15.BatchCodes', WHERE WHAT IT READS IS OF BULK AT MOST 1048576: true; the input reads as it did. -/
def batchCodesUptoRow : OpenClaim := { program := "ytakkhomjpflkbaa", sum := "54f3a2a9a97cb49c7a41b6cd08d6e400ab867ac1b33cf602200f885833908b71", func := "backhaul/backhaullaw15.BatchCodes", spec := "batchCodes", inPlace := ["internal/abi.NoEscape"], unfollowed := true, recurses := true, apart := false, narrowed := true }
def BatchCodesUptoSaid : Prop := batchCodesUptoRow.holds Try.pinned (OpenSpec.upto batchCodesSpec)

/-- 'backhaullaw15.BatchWhole', WHERE WHAT IT READS IS OF BULK AT MOST 1048576: true; the input reads as it did. -/
def batchWholeUptoRow : OpenClaim := { program := "ytakkhomjpflkbaa", sum := "54f3a2a9a97cb49c7a41b6cd08d6e400ab867ac1b33cf602200f885833908b71", func := "backhaul/backhaullaw15.BatchWhole", spec := "batchWhole", inPlace := ["internal/abi.NoEscape"], unfollowed := true, recurses := true, apart := false, narrowed := true }
def BatchWholeUptoSaid : Prop := batchWholeUptoRow.holds Try.pinned (OpenSpec.upto batchWholeSpec)

/-- 'backhaullaw15.BatchUndo', WHERE WHAT IT READS IS OF BULK AT MOST 1048576: true; the input reads as it did. -/
def batchUndoUptoRow : OpenClaim := { program := "ytakkhomjpflkbaa", sum := "54f3a2a9a97cb49c7a41b6cd08d6e400ab867ac1b33cf602200f885833908b71", func := "backhaul/backhaullaw15.BatchUndo", spec := "batchUndo", inPlace := ["internal/abi.NoEscape"], unfollowed := true, recurses := true, apart := false, narrowed := true }
def BatchUndoUptoSaid : Prop := batchUndoUptoRow.holds Try.pinned (OpenSpec.upto batchUndoSpec)

/-- 'backhaullaw15.BatchDiff', WHERE WHAT IT READS IS OF BULK AT MOST 1048576: true; the input reads as it did. -/
def batchDiffUptoRow : OpenClaim := { program := "ytakkhomjpflkbaa", sum := "54f3a2a9a97cb49c7a41b6cd08d6e400ab867ac1b33cf602200f885833908b71", func := "backhaul/backhaullaw15.BatchDiff", spec := "batchDiff", inPlace := ["internal/abi.NoEscape"], unfollowed := true, recurses := true, apart := false, narrowed := true }
def BatchDiffUptoSaid : Prop := batchDiffUptoRow.holds Try.pinned (OpenSpec.upto batchDiffSpec)

/-- 'backhaullaw30.CmdBack', WHERE WHAT IT READS IS OF BULK AT MOST 1048576: true; the input reads as it did. -/
def cmdBackUptoRow : OpenClaim := { program := "ytakkhomjpflkbaa", sum := "54f3a2a9a97cb49c7a41b6cd08d6e400ab867ac1b33cf602200f885833908b71", func := "backhaul/backhaullaw30.CmdBack", spec := "cmdBack", inPlace := ["internal/abi.NoEscape"], unfollowed := true, recurses := true, apart := false, narrowed := true }
def CmdBackUptoSaid : Prop := cmdBackUptoRow.holds Try.pinned (OpenSpec.upto cmdBackSpec)

/-- 'backhaullaw30.CmdOnly', WHERE WHAT IT READS IS OF BULK AT MOST 1048576: true; the input reads as it did. -/
def cmdOnlyUptoRow : OpenClaim := { program := "ytakkhomjpflkbaa", sum := "54f3a2a9a97cb49c7a41b6cd08d6e400ab867ac1b33cf602200f885833908b71", func := "backhaul/backhaullaw30.CmdOnly", spec := "cmdOnly", inPlace := ["internal/abi.NoEscape"], unfollowed := true, recurses := true, apart := false, narrowed := true }
def CmdOnlyUptoSaid : Prop := cmdOnlyUptoRow.holds Try.pinned (OpenSpec.upto cmdOnlySpec)

end Rows
end Go.Proofs.Ytakkhomjpflkbaa
