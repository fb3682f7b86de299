/-
  No cell of these rows narrows 'for every input' (looked for: loops, veiled, ifaces, maps, wideKeys, modest, calm, conditions, laid).
  DERIVED. THE GIVEN ROWS OF THIS SEAT. 10 by the template 'for every input the law returns true; each argument reads behind the call as it read before'; 0 by the template 'total and deterministic' (their statements: YtdpcgigjlcpofaaTotals.lean).
  GIVEN WITH THE SEED: the statements are not yours to turn. If you find one false, say at which input.
  Laid BY PROGRAM, IN A SANDBOX (cutbox-rows.mjs): the forced cells as the released guide's own fill.sh prints them over the translation 1642734869a2857c… (all of the seat's roots in one cut). By AI agents, Wed Nov 11 2026. No macro, syntax, notation, axiom, sorry.
-/
import Derived.Test.YtdpcgigjlcpofaaChecked
import GoSem.Claim
import GoSem.ClaimJoined
import GoSem.ClaimMapViews
import Derived.JoinedTies
import Derived.KernelRfl
namespace Go.Proofs.Ytdpcgigjlcpofaa
/- THE CELL 'sum', in the pinned program and in every row, IS THE sha256 OF THE DUMP (.gsa) THAT YtdpcgigjlcpofaaProg.lean LOADS. Nothing in Lean hashes anything: it is a label: what it is worth is what the hold of that sum in a sandbox is worth. -/
noncomputable def Try.pinned : Pinned := { name := "ytdpcgigjlcpofaa", sum := "1642734869a2857cd665b12240d586e37d708b24161bbbdb21d45886ff7f44dc", checked := Try.checked }
namespace Rows
def none {H : Type} : Left H := { results := [], args := [] }

/-- 'backhaullaw06.StrictFirst': WHATEVER THE INPUT: true; the input reads as it did. -/
def strictFirstSpec : ChangeSpec := { name := "strictFirst", fn := fun _ => fun
  | [d1, d2, d3] => { results := [.lit (.bool true)], args := [d1, d2, d3] }
  | _ => none }
def strictFirstRow : OpenClaim := { program := "ytdpcgigjlcpofaa", sum := "1642734869a2857cd665b12240d586e37d708b24161bbbdb21d45886ff7f44dc", func := "backhaul/backhaullaw06.StrictFirst", spec := "strictFirst", unfollowed := true, recurses := true, apart := false }
def StrictFirstSaid : Prop := strictFirstRow.holds Try.pinned (OpenSpec.ofChange strictFirstSpec)

/-- ITS FALSE NEIGHBOUR: 'it returns false'. Refute it at one input. -/
def strictFirstWrong : ChangeSpec := { name := "strictFirst", fn := fun _ => fun
  | [d1, d2, d3] => { results := [.lit (.bool false)], args := [d1, d2, d3] }
  | _ => none }
def StrictFirstWrongFalsely : Prop := strictFirstRow.holds Try.pinned (OpenSpec.ofChange strictFirstWrong)

/-- 'backhaullaw14.IndexTells': WHATEVER THE INPUT: true; the input reads as it did. -/
def indexTellsSpec : ChangeSpec := { name := "indexTells", fn := fun _ => fun
  | [d1, d2, d3] => { results := [.lit (.bool true)], args := [d1, d2, d3] }
  | _ => none }
def indexTellsRow : OpenClaim := { program := "ytdpcgigjlcpofaa", sum := "1642734869a2857cd665b12240d586e37d708b24161bbbdb21d45886ff7f44dc", func := "backhaul/backhaullaw14.IndexTells", spec := "indexTells", inPlace := ["slices.overlaps[string]", "slices.overlaps[[]int]"], unfollowed := true, recurses := true, apart := false }
def IndexTellsSaid : Prop := indexTellsRow.holds Try.pinned (OpenSpec.ofChange indexTellsSpec)

/-- ITS FALSE NEIGHBOUR: 'it returns false'. Refute it at one input. -/
def indexTellsWrong : ChangeSpec := { name := "indexTells", fn := fun _ => fun
  | [d1, d2, d3] => { results := [.lit (.bool false)], args := [d1, d2, d3] }
  | _ => none }
def IndexTellsWrongFalsely : Prop := indexTellsRow.holds Try.pinned (OpenSpec.ofChange indexTellsWrong)

/-- 'backhaullaw14.IndexAdds': WHATEVER THE INPUT: true; the input reads as it did. -/
def indexAddsSpec : ChangeSpec := { name := "indexAdds", fn := fun _ => fun
  | [d1, d2, d3] => { results := [.lit (.bool true)], args := [d1, d2, d3] }
  | _ => none }
def indexAddsRow : OpenClaim := { program := "ytdpcgigjlcpofaa", sum := "1642734869a2857cd665b12240d586e37d708b24161bbbdb21d45886ff7f44dc", func := "backhaul/backhaullaw14.IndexAdds", spec := "indexAdds", inPlace := ["slices.overlaps[string]", "slices.overlaps[[]int]"], unfollowed := true, recurses := true, apart := false }
def IndexAddsSaid : Prop := indexAddsRow.holds Try.pinned (OpenSpec.ofChange indexAddsSpec)

/-- ITS FALSE NEIGHBOUR: 'it returns false'. Refute it at one input. -/
def indexAddsWrong : ChangeSpec := { name := "indexAdds", fn := fun _ => fun
  | [d1, d2, d3] => { results := [.lit (.bool false)], args := [d1, d2, d3] }
  | _ => none }
def IndexAddsWrongFalsely : Prop := indexAddsRow.holds Try.pinned (OpenSpec.ofChange indexAddsWrong)

/-- 'backhaullaw14.IndexTurns': WHATEVER THE INPUT: true; the input reads as it did. -/
def indexTurnsSpec : ChangeSpec := { name := "indexTurns", fn := fun _ => fun
  | [d1, d2, d3] => { results := [.lit (.bool true)], args := [d1, d2, d3] }
  | _ => none }
def indexTurnsRow : OpenClaim := { program := "ytdpcgigjlcpofaa", sum := "1642734869a2857cd665b12240d586e37d708b24161bbbdb21d45886ff7f44dc", func := "backhaul/backhaullaw14.IndexTurns", spec := "indexTurns", inPlace := ["slices.overlaps[string]", "slices.overlaps[[]int]"], unfollowed := true, recurses := true, apart := false }
def IndexTurnsSaid : Prop := indexTurnsRow.holds Try.pinned (OpenSpec.ofChange indexTurnsSpec)

/-- ITS FALSE NEIGHBOUR: 'it returns false'. Refute it at one input. -/
def indexTurnsWrong : ChangeSpec := { name := "indexTurns", fn := fun _ => fun
  | [d1, d2, d3] => { results := [.lit (.bool false)], args := [d1, d2, d3] }
  | _ => none }
def IndexTurnsWrongFalsely : Prop := indexTurnsRow.holds Try.pinned (OpenSpec.ofChange indexTurnsWrong)

/-- 'backhaullaw14.IndexWhole': WHATEVER THE INPUT: true; the input reads as it did. -/
def indexWholeSpec : ChangeSpec := { name := "indexWhole", fn := fun _ => fun
  | [d1, d2, d3] => { results := [.lit (.bool true)], args := [d1, d2, d3] }
  | _ => none }
def indexWholeRow : OpenClaim := { program := "ytdpcgigjlcpofaa", sum := "1642734869a2857cd665b12240d586e37d708b24161bbbdb21d45886ff7f44dc", func := "backhaul/backhaullaw14.IndexWhole", spec := "indexWhole", inPlace := ["slices.overlaps[string]", "slices.overlaps[[]int]"], unfollowed := true, recurses := true, apart := false }
def IndexWholeSaid : Prop := indexWholeRow.holds Try.pinned (OpenSpec.ofChange indexWholeSpec)

/-- ITS FALSE NEIGHBOUR: 'it returns false'. Refute it at one input. -/
def indexWholeWrong : ChangeSpec := { name := "indexWhole", fn := fun _ => fun
  | [d1, d2, d3] => { results := [.lit (.bool false)], args := [d1, d2, d3] }
  | _ => none }
def IndexWholeWrongFalsely : Prop := indexWholeRow.holds Try.pinned (OpenSpec.ofChange indexWholeWrong)

/-- 'backhaullaw15.BatchApplies': WHATEVER THE INPUT: true; the input reads as it did. -/
def batchAppliesSpec : ChangeSpec := { name := "batchApplies", fn := fun _ => fun
  | [d1, d2, d3] => { results := [.lit (.bool true)], args := [d1, d2, d3] }
  | _ => none }
def batchAppliesRow : OpenClaim := { program := "ytdpcgigjlcpofaa", sum := "1642734869a2857cd665b12240d586e37d708b24161bbbdb21d45886ff7f44dc", func := "backhaul/backhaullaw15.BatchApplies", spec := "batchApplies", inPlace := ["internal/abi.NoEscape"], unfollowed := true, recurses := true, apart := false }
def BatchAppliesSaid : Prop := batchAppliesRow.holds Try.pinned (OpenSpec.ofChange batchAppliesSpec)

/-- ITS FALSE NEIGHBOUR: 'it returns false'. Refute it at one input. -/
def batchAppliesWrong : ChangeSpec := { name := "batchApplies", fn := fun _ => fun
  | [d1, d2, d3] => { results := [.lit (.bool false)], args := [d1, d2, d3] }
  | _ => none }
def BatchAppliesWrongFalsely : Prop := batchAppliesRow.holds Try.pinned (OpenSpec.ofChange batchAppliesWrong)

/-- 'backhaullaw15.BatchCodes': WHATEVER THE INPUT: true; the input reads as it did. -/
def batchCodesSpec : ChangeSpec := { name := "batchCodes", fn := fun _ => fun
  | [d1, d2, d3] => { results := [.lit (.bool true)], args := [d1, d2, d3] }
  | _ => none }
def batchCodesRow : OpenClaim := { program := "ytdpcgigjlcpofaa", sum := "1642734869a2857cd665b12240d586e37d708b24161bbbdb21d45886ff7f44dc", func := "backhaul/backhaullaw15.BatchCodes", spec := "batchCodes", inPlace := ["internal/abi.NoEscape"], unfollowed := true, recurses := true, apart := false }
def BatchCodesSaid : Prop := batchCodesRow.holds Try.pinned (OpenSpec.ofChange batchCodesSpec)

/-- ITS FALSE NEIGHBOUR: 'it returns false'. Refute it at one input. -/
def batchCodesWrong : ChangeSpec := { name := "batchCodes", fn := fun _ => fun
  | [d1, d2, d3] => { results := [.lit (.bool false)], args := [d1, d2, d3] }
  | _ => none }
def BatchCodesWrongFalsely : Prop := batchCodesRow.holds Try.pinned (OpenSpec.ofChange batchCodesWrong)

/-- 'backhaullaw15.BatchWhole': WHATEVER THE INPUT: true; the input reads as it did. -/
def batchWholeSpec : ChangeSpec := { name := "batchWhole", fn := fun _ => fun
  | [d1, d2] => { results := [.lit (.bool true)], args := [d1, d2] }
  | _ => none }
def batchWholeRow : OpenClaim := { program := "ytdpcgigjlcpofaa", sum := "1642734869a2857cd665b12240d586e37d708b24161bbbdb21d45886ff7f44dc", func := "backhaul/backhaullaw15.BatchWhole", spec := "batchWhole", inPlace := ["internal/abi.NoEscape"], unfollowed := true, recurses := true, apart := false }
def BatchWholeSaid : Prop := batchWholeRow.holds Try.pinned (OpenSpec.ofChange batchWholeSpec)

/-- ITS FALSE NEIGHBOUR: 'it returns false'. Refute it at one input. -/
def batchWholeWrong : ChangeSpec := { name := "batchWhole", fn := fun _ => fun
  | [d1, d2] => { results := [.lit (.bool false)], args := [d1, d2] }
  | _ => none }
def BatchWholeWrongFalsely : Prop := batchWholeRow.holds Try.pinned (OpenSpec.ofChange batchWholeWrong)

/-- 'backhaullaw15.BatchUndo': WHATEVER THE INPUT: true; the input reads as it did. -/
def batchUndoSpec : ChangeSpec := { name := "batchUndo", fn := fun _ => fun
  | [d1, d2] => { results := [.lit (.bool true)], args := [d1, d2] }
  | _ => none }
def batchUndoRow : OpenClaim := { program := "ytdpcgigjlcpofaa", sum := "1642734869a2857cd665b12240d586e37d708b24161bbbdb21d45886ff7f44dc", func := "backhaul/backhaullaw15.BatchUndo", spec := "batchUndo", inPlace := ["internal/abi.NoEscape"], unfollowed := true, recurses := true, apart := false }
def BatchUndoSaid : Prop := batchUndoRow.holds Try.pinned (OpenSpec.ofChange batchUndoSpec)

/-- ITS FALSE NEIGHBOUR: 'it returns false'. Refute it at one input. -/
def batchUndoWrong : ChangeSpec := { name := "batchUndo", fn := fun _ => fun
  | [d1, d2] => { results := [.lit (.bool false)], args := [d1, d2] }
  | _ => none }
def BatchUndoWrongFalsely : Prop := batchUndoRow.holds Try.pinned (OpenSpec.ofChange batchUndoWrong)

/-- 'backhaullaw15.BatchDiff': WHATEVER THE INPUT: true; the input reads as it did. -/
def batchDiffSpec : ChangeSpec := { name := "batchDiff", fn := fun _ => fun
  | [d1, d2, d3] => { results := [.lit (.bool true)], args := [d1, d2, d3] }
  | _ => none }
def batchDiffRow : OpenClaim := { program := "ytdpcgigjlcpofaa", sum := "1642734869a2857cd665b12240d586e37d708b24161bbbdb21d45886ff7f44dc", func := "backhaul/backhaullaw15.BatchDiff", spec := "batchDiff", inPlace := ["internal/abi.NoEscape"], unfollowed := true, recurses := true, apart := false }
def BatchDiffSaid : Prop := batchDiffRow.holds Try.pinned (OpenSpec.ofChange batchDiffSpec)

/-- ITS FALSE NEIGHBOUR: 'it returns false'. Refute it at one input. -/
def batchDiffWrong : ChangeSpec := { name := "batchDiff", fn := fun _ => fun
  | [d1, d2, d3] => { results := [.lit (.bool false)], args := [d1, d2, d3] }
  | _ => none }
def BatchDiffWrongFalsely : Prop := batchDiffRow.holds Try.pinned (OpenSpec.ofChange batchDiffWrong)

/- THE SECOND FORM. 'bulk': how many values and letters a reading holds, each counted each time it is reached (what is shared counts as often as it is met; a slice's spare places count too). A statement '..UptoSaid' is the law's where the arguments, and the package variables that the reading takes, are together of bulk at most 1048576: NARROWER than '..Said'. Prove '..Said' where nothing that the law and all that it calls make is longer than what came in: it says more and counts as full. Else prove '..UptoSaid'. A law counts once. -/
mutual
def uptoBulk {H : Type} : DataW H → Nat
  | .lit (.string bytes) => bytes.length + 1
  | .lit _ => 1
  | .nil => 1
  | .ptr d => uptoBulk d + 1
  | .slice elems spare => uptoBulkAll elems + uptoBulkAll spare + 1
  | .agg parts => uptoBulkAll parts + 1
  | .iface _ d => uptoBulk d + 1
  | .map entries => uptoBulkEntries entries + 1
  | .held _ => 1
def uptoBulkAll {H : Type} : List (DataW H) → Nat
  | [] => 0
  | d :: r => uptoBulk d + uptoBulkAll r
def uptoBulkEntries {H : Type} : List (Lit × DataW H) → Nat
  | [] => 0
  | x :: r => uptoBulkEntry x + uptoBulkEntries r
def uptoBulkEntry {H : Type} : Lit × DataW H → Nat
  | (.string bytes, d) => bytes.length + uptoBulk d + 1
  | (_, d) => uptoBulk d + 1
 end
def uptoSmall : (H : Type) → List (DataW H) → Bool := fun _ ds => decide (uptoBulkAll ds ≤ 1048576)
def OpenSpec.upto (s : _root_.Go.ChangeSpec) : _root_.Go.OpenSpec := { _root_.Go.OpenSpec.ofChange s with cond := some uptoSmall }

/-- 'backhaullaw06.StrictFirst', WHERE WHAT IT READS IS OF BULK AT MOST 1048576: true; the input reads as it did. -/
def strictFirstUptoRow : OpenClaim := { program := "ytdpcgigjlcpofaa", sum := "1642734869a2857cd665b12240d586e37d708b24161bbbdb21d45886ff7f44dc", func := "backhaul/backhaullaw06.StrictFirst", spec := "strictFirst", unfollowed := true, recurses := true, apart := false, narrowed := true }
def StrictFirstUptoSaid : Prop := strictFirstUptoRow.holds Try.pinned (OpenSpec.upto strictFirstSpec)

/-- 'backhaullaw14.IndexTells', WHERE WHAT IT READS IS OF BULK AT MOST 1048576: true; the input reads as it did. -/
def indexTellsUptoRow : OpenClaim := { program := "ytdpcgigjlcpofaa", sum := "1642734869a2857cd665b12240d586e37d708b24161bbbdb21d45886ff7f44dc", func := "backhaul/backhaullaw14.IndexTells", spec := "indexTells", inPlace := ["slices.overlaps[string]", "slices.overlaps[[]int]"], unfollowed := true, recurses := true, apart := false, narrowed := true }
def IndexTellsUptoSaid : Prop := indexTellsUptoRow.holds Try.pinned (OpenSpec.upto indexTellsSpec)

/-- 'backhaullaw14.IndexAdds', WHERE WHAT IT READS IS OF BULK AT MOST 1048576: true; the input reads as it did. -/
def indexAddsUptoRow : OpenClaim := { program := "ytdpcgigjlcpofaa", sum := "1642734869a2857cd665b12240d586e37d708b24161bbbdb21d45886ff7f44dc", func := "backhaul/backhaullaw14.IndexAdds", spec := "indexAdds", inPlace := ["slices.overlaps[string]", "slices.overlaps[[]int]"], unfollowed := true, recurses := true, apart := false, narrowed := true }
def IndexAddsUptoSaid : Prop := indexAddsUptoRow.holds Try.pinned (OpenSpec.upto indexAddsSpec)

/-- 'backhaullaw14.IndexTurns', WHERE WHAT IT READS IS OF BULK AT MOST 1048576: true; the input reads as it did. -/
def indexTurnsUptoRow : OpenClaim := { program := "ytdpcgigjlcpofaa", sum := "1642734869a2857cd665b12240d586e37d708b24161bbbdb21d45886ff7f44dc", func := "backhaul/backhaullaw14.IndexTurns", spec := "indexTurns", inPlace := ["slices.overlaps[string]", "slices.overlaps[[]int]"], unfollowed := true, recurses := true, apart := false, narrowed := true }
def IndexTurnsUptoSaid : Prop := indexTurnsUptoRow.holds Try.pinned (OpenSpec.upto indexTurnsSpec)

/-- 'backhaullaw14.IndexWhole', WHERE WHAT IT READS IS OF BULK AT MOST 1048576: true; the input reads as it did. -/
def indexWholeUptoRow : OpenClaim := { program := "ytdpcgigjlcpofaa", sum := "1642734869a2857cd665b12240d586e37d708b24161bbbdb21d45886ff7f44dc", func := "backhaul/backhaullaw14.IndexWhole", spec := "indexWhole", inPlace := ["slices.overlaps[string]", "slices.overlaps[[]int]"], unfollowed := true, recurses := true, apart := false, narrowed := true }
def IndexWholeUptoSaid : Prop := indexWholeUptoRow.holds Try.pinned (OpenSpec.upto indexWholeSpec)

/-- 'backhaullaw15.BatchApplies', WHERE WHAT IT READS IS OF BULK AT MOST 1048576: true; the input reads as it did. -/
def batchAppliesUptoRow : OpenClaim := { program := "ytdpcgigjlcpofaa", sum := "1642734869a2857cd665b12240d586e37d708b24161bbbdb21d45886ff7f44dc", func := "backhaul/backhaullaw15.BatchApplies", spec := "batchApplies", inPlace := ["internal/abi.NoEscape"], unfollowed := true, recurses := true, apart := false, narrowed := true }
def BatchAppliesUptoSaid : Prop := batchAppliesUptoRow.holds Try.pinned (OpenSpec.upto batchAppliesSpec)

/-- 'backhaullaw15.BatchCodes', WHERE WHAT IT READS IS OF BULK AT MOST 1048576: true; the input reads as it did. -/
def batchCodesUptoRow : OpenClaim := { program := "ytdpcgigjlcpofaa", sum := "1642734869a2857cd665b12240d586e37d708b24161bbbdb21d45886ff7f44dc", func := "backhaul/backhaullaw15.BatchCodes", spec := "batchCodes", inPlace := ["internal/abi.NoEscape"], unfollowed := true, recurses := true, apart := false, narrowed := true }
def BatchCodesUptoSaid : Prop := batchCodesUptoRow.holds Try.pinned (OpenSpec.upto batchCodesSpec)

/-- 'backhaullaw15.BatchWhole', WHERE WHAT IT READS IS OF BULK AT MOST 1048576: true; the input reads as it did. -/
def batchWholeUptoRow : OpenClaim := { program := "ytdpcgigjlcpofaa", sum := "1642734869a2857cd665b12240d586e37d708b24161bbbdb21d45886ff7f44dc", func := "backhaul/backhaullaw15.BatchWhole", spec := "batchWhole", inPlace := ["internal/abi.NoEscape"], unfollowed := true, recurses := true, apart := false, narrowed := true }
def BatchWholeUptoSaid : Prop := batchWholeUptoRow.holds Try.pinned (OpenSpec.upto batchWholeSpec)

/-- 'backhaullaw15.BatchUndo', WHERE WHAT IT READS IS OF BULK AT MOST 1048576: true; the input reads as it did. -/
def batchUndoUptoRow : OpenClaim := { program := "ytdpcgigjlcpofaa", sum := "1642734869a2857cd665b12240d586e37d708b24161bbbdb21d45886ff7f44dc", func := "backhaul/backhaullaw15.BatchUndo", spec := "batchUndo", inPlace := ["internal/abi.NoEscape"], unfollowed := true, recurses := true, apart := false, narrowed := true }
def BatchUndoUptoSaid : Prop := batchUndoUptoRow.holds Try.pinned (OpenSpec.upto batchUndoSpec)

/-- 'backhaullaw15.BatchDiff', WHERE WHAT IT READS IS OF BULK AT MOST 1048576: true; the input reads as it did. -/
def batchDiffUptoRow : OpenClaim := { program := "ytdpcgigjlcpofaa", sum := "1642734869a2857cd665b12240d586e37d708b24161bbbdb21d45886ff7f44dc", func := "backhaul/backhaullaw15.BatchDiff", spec := "batchDiff", inPlace := ["internal/abi.NoEscape"], unfollowed := true, recurses := true, apart := false, narrowed := true }
def BatchDiffUptoSaid : Prop := batchDiffUptoRow.holds Try.pinned (OpenSpec.upto batchDiffSpec)

end Rows
end Go.Proofs.Ytdpcgigjlcpofaa
