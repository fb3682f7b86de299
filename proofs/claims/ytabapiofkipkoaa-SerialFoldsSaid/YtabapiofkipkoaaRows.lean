/-
  No cell of these rows narrows 'for every input' (looked for: loops, veiled, ifaces, maps, wideKeys, modest, calm, conditions, laid).
  DERIVED. THE GIVEN ROWS OF THIS SEAT. 15 by the template 'for every input the law returns true; each argument reads behind the call as it read before'; 0 by the template 'total and deterministic' (their statements: YtabapiofkipkoaaTotals.lean).
  GIVEN WITH THE SEED: the statements are not yours to turn. If you find one false, say at which input.
  Laid BY PROGRAM, IN A SANDBOX (cutbox-rows.mjs): the forced cells as the released guide's own fill.sh prints them over the translation 0d0a898894b0e100… (all of the seat's roots in one cut). By AI agents, Wed Nov 11 2026. No macro, syntax, notation, axiom, sorry.
-/
import Derived.Test.YtabapiofkipkoaaChecked
import GoSem.Claim
import GoSem.ClaimJoined
import GoSem.ClaimMapViews
import Derived.JoinedTies
import Derived.KernelRfl
namespace Go.Proofs.Ytabapiofkipkoaa
/- THE CELL 'sum', in the pinned program and in every row, IS THE sha256 OF THE DUMP (.gsa) THAT YtabapiofkipkoaaProg.lean LOADS. Nothing in Lean hashes anything: it is a label: what it is worth is what the hold of that sum in a sandbox is worth. -/
noncomputable def Try.pinned : Pinned := { name := "ytabapiofkipkoaa", sum := "0d0a898894b0e100c9b136e5f1b063d8359db5a24f939a3bdbb9048f3121e734", checked := Try.checked }
namespace Rows
def none {H : Type} : Left H := { results := [], args := [] }

/-- 'backhaullaw13.RowsFind': WHATEVER THE INPUT: true; the input reads as it did. -/
def rowsFindSpec : ChangeSpec := { name := "rowsFind", fn := fun _ => fun
  | [d1, d2] => { results := [.lit (.bool true)], args := [d1, d2] }
  | _ => none }
def rowsFindRow : OpenClaim := { program := "ytabapiofkipkoaa", sum := "0d0a898894b0e100c9b136e5f1b063d8359db5a24f939a3bdbb9048f3121e734", func := "backhaul/backhaullaw13.RowsFind", spec := "rowsFind", apart := false }
def RowsFindSaid : Prop := rowsFindRow.holds Try.pinned (OpenSpec.ofChange rowsFindSpec)

/-- ITS FALSE NEIGHBOUR: 'it returns false'. Refute it at one input. -/
def rowsFindWrong : ChangeSpec := { name := "rowsFind", fn := fun _ => fun
  | [d1, d2] => { results := [.lit (.bool false)], args := [d1, d2] }
  | _ => none }
def RowsFindWrongFalsely : Prop := rowsFindRow.holds Try.pinned (OpenSpec.ofChange rowsFindWrong)

/-- 'backhaullaw13.RowsLists': WHATEVER THE INPUT: true; the input reads as it did. -/
def rowsListsSpec : ChangeSpec := { name := "rowsLists", fn := fun _ => fun
  | [d1, d2, d3] => { results := [.lit (.bool true)], args := [d1, d2, d3] }
  | _ => none }
def rowsListsRow : OpenClaim := { program := "ytabapiofkipkoaa", sum := "0d0a898894b0e100c9b136e5f1b063d8359db5a24f939a3bdbb9048f3121e734", func := "backhaul/backhaullaw13.RowsLists", spec := "rowsLists", apart := false }
def RowsListsSaid : Prop := rowsListsRow.holds Try.pinned (OpenSpec.ofChange rowsListsSpec)

/-- ITS FALSE NEIGHBOUR: 'it returns false'. Refute it at one input. -/
def rowsListsWrong : ChangeSpec := { name := "rowsLists", fn := fun _ => fun
  | [d1, d2, d3] => { results := [.lit (.bool false)], args := [d1, d2, d3] }
  | _ => none }
def RowsListsWrongFalsely : Prop := rowsListsRow.holds Try.pinned (OpenSpec.ofChange rowsListsWrong)

/-- 'backhaullaw13.RowsTurn': WHATEVER THE INPUT: true; the input reads as it did. -/
def rowsTurnSpec : ChangeSpec := { name := "rowsTurn", fn := fun _ => fun
  | [d1, d2, d3] => { results := [.lit (.bool true)], args := [d1, d2, d3] }
  | _ => none }
def rowsTurnRow : OpenClaim := { program := "ytabapiofkipkoaa", sum := "0d0a898894b0e100c9b136e5f1b063d8359db5a24f939a3bdbb9048f3121e734", func := "backhaul/backhaullaw13.RowsTurn", spec := "rowsTurn", apart := false }
def RowsTurnSaid : Prop := rowsTurnRow.holds Try.pinned (OpenSpec.ofChange rowsTurnSpec)

/-- ITS FALSE NEIGHBOUR: 'it returns false'. Refute it at one input. -/
def rowsTurnWrong : ChangeSpec := { name := "rowsTurn", fn := fun _ => fun
  | [d1, d2, d3] => { results := [.lit (.bool false)], args := [d1, d2, d3] }
  | _ => none }
def RowsTurnWrongFalsely : Prop := rowsTurnRow.holds Try.pinned (OpenSpec.ofChange rowsTurnWrong)

/-- 'backhaullaw13.RowsOrder': WHATEVER THE INPUT: true; the input reads as it did. -/
def rowsOrderSpec : ChangeSpec := { name := "rowsOrder", fn := fun _ => fun
  | [d1, d2] => { results := [.lit (.bool true)], args := [d1, d2] }
  | _ => none }
def rowsOrderRow : OpenClaim := { program := "ytabapiofkipkoaa", sum := "0d0a898894b0e100c9b136e5f1b063d8359db5a24f939a3bdbb9048f3121e734", func := "backhaul/backhaullaw13.RowsOrder", spec := "rowsOrder", apart := false }
def RowsOrderSaid : Prop := rowsOrderRow.holds Try.pinned (OpenSpec.ofChange rowsOrderSpec)

/-- ITS FALSE NEIGHBOUR: 'it returns false'. Refute it at one input. -/
def rowsOrderWrong : ChangeSpec := { name := "rowsOrder", fn := fun _ => fun
  | [d1, d2] => { results := [.lit (.bool false)], args := [d1, d2] }
  | _ => none }
def RowsOrderWrongFalsely : Prop := rowsOrderRow.holds Try.pinned (OpenSpec.ofChange rowsOrderWrong)

/-- 'backhaullaw05.OctetNumbers': WHATEVER THE INPUT: true; the input reads as it did. -/
def octetNumbersSpec : ChangeSpec := { name := "octetNumbers", fn := fun _ => fun
  | [d1, d2, d3] => { results := [.lit (.bool true)], args := [d1, d2, d3] }
  | _ => none }
def octetNumbersRow : OpenClaim := { program := "ytabapiofkipkoaa", sum := "0d0a898894b0e100c9b136e5f1b063d8359db5a24f939a3bdbb9048f3121e734", func := "backhaul/backhaullaw05.OctetNumbers", spec := "octetNumbers", inPlace := ["internal/abi.NoEscape"], apart := false }
def OctetNumbersSaid : Prop := octetNumbersRow.holds Try.pinned (OpenSpec.ofChange octetNumbersSpec)

/-- ITS FALSE NEIGHBOUR: 'it returns false'. Refute it at one input. -/
def octetNumbersWrong : ChangeSpec := { name := "octetNumbers", fn := fun _ => fun
  | [d1, d2, d3] => { results := [.lit (.bool false)], args := [d1, d2, d3] }
  | _ => none }
def OctetNumbersWrongFalsely : Prop := octetNumbersRow.holds Try.pinned (OpenSpec.ofChange octetNumbersWrong)

/-- 'backhaullaw05.OctetTexts': WHATEVER THE INPUT: true; the input reads as it did. -/
def octetTextsSpec : ChangeSpec := { name := "octetTexts", fn := fun _ => fun
  | [d1, d2, d3] => { results := [.lit (.bool true)], args := [d1, d2, d3] }
  | _ => none }
def octetTextsRow : OpenClaim := { program := "ytabapiofkipkoaa", sum := "0d0a898894b0e100c9b136e5f1b063d8359db5a24f939a3bdbb9048f3121e734", func := "backhaul/backhaullaw05.OctetTexts", spec := "octetTexts", inPlace := ["internal/abi.NoEscape"], apart := false }
def OctetTextsSaid : Prop := octetTextsRow.holds Try.pinned (OpenSpec.ofChange octetTextsSpec)

/-- ITS FALSE NEIGHBOUR: 'it returns false'. Refute it at one input. -/
def octetTextsWrong : ChangeSpec := { name := "octetTexts", fn := fun _ => fun
  | [d1, d2, d3] => { results := [.lit (.bool false)], args := [d1, d2, d3] }
  | _ => none }
def OctetTextsWrongFalsely : Prop := octetTextsRow.holds Try.pinned (OpenSpec.ofChange octetTextsWrong)

/-- 'backhaullaw05.OctetRows': WHATEVER THE INPUT: true; the input reads as it did. -/
def octetRowsSpec : ChangeSpec := { name := "octetRows", fn := fun _ => fun
  | [d1, d2, d3] => { results := [.lit (.bool true)], args := [d1, d2, d3] }
  | _ => none }
def octetRowsRow : OpenClaim := { program := "ytabapiofkipkoaa", sum := "0d0a898894b0e100c9b136e5f1b063d8359db5a24f939a3bdbb9048f3121e734", func := "backhaul/backhaullaw05.OctetRows", spec := "octetRows", inPlace := ["internal/abi.NoEscape"], apart := false }
def OctetRowsSaid : Prop := octetRowsRow.holds Try.pinned (OpenSpec.ofChange octetRowsSpec)

/-- ITS FALSE NEIGHBOUR: 'it returns false'. Refute it at one input. -/
def octetRowsWrong : ChangeSpec := { name := "octetRows", fn := fun _ => fun
  | [d1, d2, d3] => { results := [.lit (.bool false)], args := [d1, d2, d3] }
  | _ => none }
def OctetRowsWrongFalsely : Prop := octetRowsRow.holds Try.pinned (OpenSpec.ofChange octetRowsWrong)

/-- 'backhaullaw05.OctetBack': WHATEVER THE INPUT: true; the input reads as it did. -/
def octetBackSpec : ChangeSpec := { name := "octetBack", fn := fun _ => fun
  | [d1, d2, d3] => { results := [.lit (.bool true)], args := [d1, d2, d3] }
  | _ => none }
def octetBackRow : OpenClaim := { program := "ytabapiofkipkoaa", sum := "0d0a898894b0e100c9b136e5f1b063d8359db5a24f939a3bdbb9048f3121e734", func := "backhaul/backhaullaw05.OctetBack", spec := "octetBack", inPlace := ["internal/abi.NoEscape"], apart := false }
def OctetBackSaid : Prop := octetBackRow.holds Try.pinned (OpenSpec.ofChange octetBackSpec)

/-- ITS FALSE NEIGHBOUR: 'it returns false'. Refute it at one input. -/
def octetBackWrong : ChangeSpec := { name := "octetBack", fn := fun _ => fun
  | [d1, d2, d3] => { results := [.lit (.bool false)], args := [d1, d2, d3] }
  | _ => none }
def OctetBackWrongFalsely : Prop := octetBackRow.holds Try.pinned (OpenSpec.ofChange octetBackWrong)

/-- 'backhaullaw05.OctetCanon': WHATEVER THE INPUT: true; the input reads as it did. -/
def octetCanonSpec : ChangeSpec := { name := "octetCanon", fn := fun _ => fun
  | [d1, d2, d3] => { results := [.lit (.bool true)], args := [d1, d2, d3] }
  | _ => none }
def octetCanonRow : OpenClaim := { program := "ytabapiofkipkoaa", sum := "0d0a898894b0e100c9b136e5f1b063d8359db5a24f939a3bdbb9048f3121e734", func := "backhaul/backhaullaw05.OctetCanon", spec := "octetCanon", inPlace := ["internal/abi.NoEscape"], apart := false }
def OctetCanonSaid : Prop := octetCanonRow.holds Try.pinned (OpenSpec.ofChange octetCanonSpec)

/-- ITS FALSE NEIGHBOUR: 'it returns false'. Refute it at one input. -/
def octetCanonWrong : ChangeSpec := { name := "octetCanon", fn := fun _ => fun
  | [d1, d2, d3] => { results := [.lit (.bool false)], args := [d1, d2, d3] }
  | _ => none }
def OctetCanonWrongFalsely : Prop := octetCanonRow.holds Try.pinned (OpenSpec.ofChange octetCanonWrong)

/-- 'backhaullaw05.OctetOrder': WHATEVER THE INPUT: true; the input reads as it did. -/
def octetOrderSpec : ChangeSpec := { name := "octetOrder", fn := fun _ => fun
  | [d1, d2] => { results := [.lit (.bool true)], args := [d1, d2] }
  | _ => none }
def octetOrderRow : OpenClaim := { program := "ytabapiofkipkoaa", sum := "0d0a898894b0e100c9b136e5f1b063d8359db5a24f939a3bdbb9048f3121e734", func := "backhaul/backhaullaw05.OctetOrder", spec := "octetOrder", inPlace := ["internal/abi.NoEscape"], apart := false }
def OctetOrderSaid : Prop := octetOrderRow.holds Try.pinned (OpenSpec.ofChange octetOrderSpec)

/-- ITS FALSE NEIGHBOUR: 'it returns false'. Refute it at one input. -/
def octetOrderWrong : ChangeSpec := { name := "octetOrder", fn := fun _ => fun
  | [d1, d2] => { results := [.lit (.bool false)], args := [d1, d2] }
  | _ => none }
def OctetOrderWrongFalsely : Prop := octetOrderRow.holds Try.pinned (OpenSpec.ofChange octetOrderWrong)

/-- 'backhaullaw01.SerialRunes': WHATEVER THE INPUT: true; the input reads as it did. -/
def serialRunesSpec : ChangeSpec := { name := "serialRunes", fn := fun _ => fun
  | [d] => { results := [.lit (.bool true)], args := [d] }
  | _ => none }
def serialRunesRow : OpenClaim := { program := "ytabapiofkipkoaa", sum := "0d0a898894b0e100c9b136e5f1b063d8359db5a24f939a3bdbb9048f3121e734", func := "backhaul/backhaullaw01.SerialRunes", spec := "serialRunes", unfollowed := true, recurses := true, apart := false }
def SerialRunesSaid : Prop := serialRunesRow.holds Try.pinned (OpenSpec.ofChange serialRunesSpec)

/-- ITS FALSE NEIGHBOUR: 'it returns false'. Refute it at one input. -/
def serialRunesWrong : ChangeSpec := { name := "serialRunes", fn := fun _ => fun
  | [d] => { results := [.lit (.bool false)], args := [d] }
  | _ => none }
def SerialRunesWrongFalsely : Prop := serialRunesRow.holds Try.pinned (OpenSpec.ofChange serialRunesWrong)

/-- 'backhaullaw01.SerialTexts': WHATEVER THE INPUT: true; the input reads as it did. -/
def serialTextsSpec : ChangeSpec := { name := "serialTexts", fn := fun _ => fun
  | [d] => { results := [.lit (.bool true)], args := [d] }
  | _ => none }
def serialTextsRow : OpenClaim := { program := "ytabapiofkipkoaa", sum := "0d0a898894b0e100c9b136e5f1b063d8359db5a24f939a3bdbb9048f3121e734", func := "backhaul/backhaullaw01.SerialTexts", spec := "serialTexts", unfollowed := true, recurses := true, apart := false }
def SerialTextsSaid : Prop := serialTextsRow.holds Try.pinned (OpenSpec.ofChange serialTextsSpec)

/-- ITS FALSE NEIGHBOUR: 'it returns false'. Refute it at one input. -/
def serialTextsWrong : ChangeSpec := { name := "serialTexts", fn := fun _ => fun
  | [d] => { results := [.lit (.bool false)], args := [d] }
  | _ => none }
def SerialTextsWrongFalsely : Prop := serialTextsRow.holds Try.pinned (OpenSpec.ofChange serialTextsWrong)

/-- 'backhaullaw01.SerialRows': WHATEVER THE INPUT: true; the input reads as it did. -/
def serialRowsSpec : ChangeSpec := { name := "serialRows", fn := fun _ => fun
  | [d1, d2] => { results := [.lit (.bool true)], args := [d1, d2] }
  | _ => none }
def serialRowsRow : OpenClaim := { program := "ytabapiofkipkoaa", sum := "0d0a898894b0e100c9b136e5f1b063d8359db5a24f939a3bdbb9048f3121e734", func := "backhaul/backhaullaw01.SerialRows", spec := "serialRows", unfollowed := true, recurses := true, apart := false }
def SerialRowsSaid : Prop := serialRowsRow.holds Try.pinned (OpenSpec.ofChange serialRowsSpec)

/-- ITS FALSE NEIGHBOUR: 'it returns false'. Refute it at one input. -/
def serialRowsWrong : ChangeSpec := { name := "serialRows", fn := fun _ => fun
  | [d1, d2] => { results := [.lit (.bool false)], args := [d1, d2] }
  | _ => none }
def SerialRowsWrongFalsely : Prop := serialRowsRow.holds Try.pinned (OpenSpec.ofChange serialRowsWrong)

/-- 'backhaullaw01.SerialFolds': WHATEVER THE INPUT: true; the input reads as it did. -/
def serialFoldsSpec : ChangeSpec := { name := "serialFolds", fn := fun _ => fun
  | [d1, d2] => { results := [.lit (.bool true)], args := [d1, d2] }
  | _ => none }
def serialFoldsRow : OpenClaim := { program := "ytabapiofkipkoaa", sum := "0d0a898894b0e100c9b136e5f1b063d8359db5a24f939a3bdbb9048f3121e734", func := "backhaul/backhaullaw01.SerialFolds", spec := "serialFolds", unfollowed := true, recurses := true, apart := false }
def SerialFoldsSaid : Prop := serialFoldsRow.holds Try.pinned (OpenSpec.ofChange serialFoldsSpec)

/-- ITS FALSE NEIGHBOUR: 'it returns false'. Refute it at one input. -/
def serialFoldsWrong : ChangeSpec := { name := "serialFolds", fn := fun _ => fun
  | [d1, d2] => { results := [.lit (.bool false)], args := [d1, d2] }
  | _ => none }
def SerialFoldsWrongFalsely : Prop := serialFoldsRow.holds Try.pinned (OpenSpec.ofChange serialFoldsWrong)

/-- 'backhaullaw01.SerialMarks': WHATEVER THE INPUT: true; the input reads as it did. -/
def serialMarksSpec : ChangeSpec := { name := "serialMarks", fn := fun _ => fun
  | [d1, d2, d3] => { results := [.lit (.bool true)], args := [d1, d2, d3] }
  | _ => none }
def serialMarksRow : OpenClaim := { program := "ytabapiofkipkoaa", sum := "0d0a898894b0e100c9b136e5f1b063d8359db5a24f939a3bdbb9048f3121e734", func := "backhaul/backhaullaw01.SerialMarks", spec := "serialMarks", unfollowed := true, recurses := true, apart := false }
def SerialMarksSaid : Prop := serialMarksRow.holds Try.pinned (OpenSpec.ofChange serialMarksSpec)

/-- ITS FALSE NEIGHBOUR: 'it returns false'. Refute it at one input. -/
def serialMarksWrong : ChangeSpec := { name := "serialMarks", fn := fun _ => fun
  | [d1, d2, d3] => { results := [.lit (.bool false)], args := [d1, d2, d3] }
  | _ => none }
def SerialMarksWrongFalsely : Prop := serialMarksRow.holds Try.pinned (OpenSpec.ofChange serialMarksWrong)

/- THE SECOND FORM. 'bulk': how many values and letters a reading holds, each counted each time it is reached (what is shared counts as often as it is met; a slice's spare places count too). A statement '..UptoSaid' is the law's where the arguments, and the package variables that the reading takes, are together of bulk at most 1048576: NARROWER than '..Said'. Prove '..Said' where nothing that the law and all that it calls make is longer than what came in: it says more and counts as full. Else prove '..UptoSaid'. A law counts once. -/
mutual
def uptoBulk {H : Type} : DataW H → Nat
  | .lit (.string bytes) => bytes.length + 1
  | .lit _ => 1
  | .nil => 1
  | .ptr d => uptoBulk d + 1
  | .slice elems spare => uptoBulkAll elems + uptoBulkAll spare + 1
  | .agg parts => uptoBulkAll parts + 1
  | .iface _ d => uptoBulk d + 1
  | .map entries => uptoBulkEntries entries + 1
  | .held _ => 1
def uptoBulkAll {H : Type} : List (DataW H) → Nat
  | [] => 0
  | d :: r => uptoBulk d + uptoBulkAll r
def uptoBulkEntries {H : Type} : List (Lit × DataW H) → Nat
  | [] => 0
  | x :: r => uptoBulkEntry x + uptoBulkEntries r
def uptoBulkEntry {H : Type} : Lit × DataW H → Nat
  | (.string bytes, d) => bytes.length + uptoBulk d + 1
  | (_, d) => uptoBulk d + 1
 end
def uptoSmall : (H : Type) → List (DataW H) → Bool := fun _ ds => decide (uptoBulkAll ds ≤ 1048576)
def OpenSpec.upto (s : _root_.Go.ChangeSpec) : _root_.Go.OpenSpec := { _root_.Go.OpenSpec.ofChange s with cond := some uptoSmall }

/-- 'backhaullaw13.RowsFind', WHERE WHAT IT READS IS OF BULK AT MOST 1048576: true; the input reads as it did. -/
def rowsFindUptoRow : OpenClaim := { program := "ytabapiofkipkoaa", sum := "0d0a898894b0e100c9b136e5f1b063d8359db5a24f939a3bdbb9048f3121e734", func := "backhaul/backhaullaw13.RowsFind", spec := "rowsFind", apart := false, narrowed := true }
def RowsFindUptoSaid : Prop := rowsFindUptoRow.holds Try.pinned (OpenSpec.upto rowsFindSpec)

/-- 'backhaullaw13.RowsLists', WHERE WHAT IT READS IS OF BULK AT MOST 1048576: true; the input reads as it did. -/
def rowsListsUptoRow : OpenClaim := { program := "ytabapiofkipkoaa", sum := "0d0a898894b0e100c9b136e5f1b063d8359db5a24f939a3bdbb9048f3121e734", func := "backhaul/backhaullaw13.RowsLists", spec := "rowsLists", apart := false, narrowed := true }
def RowsListsUptoSaid : Prop := rowsListsUptoRow.holds Try.pinned (OpenSpec.upto rowsListsSpec)

/-- 'backhaullaw13.RowsTurn', WHERE WHAT IT READS IS OF BULK AT MOST 1048576: true; the input reads as it did. -/
def rowsTurnUptoRow : OpenClaim := { program := "ytabapiofkipkoaa", sum := "0d0a898894b0e100c9b136e5f1b063d8359db5a24f939a3bdbb9048f3121e734", func := "backhaul/backhaullaw13.RowsTurn", spec := "rowsTurn", apart := false, narrowed := true }
def RowsTurnUptoSaid : Prop := rowsTurnUptoRow.holds Try.pinned (OpenSpec.upto rowsTurnSpec)

/-- 'backhaullaw13.RowsOrder', WHERE WHAT IT READS IS OF BULK AT MOST 1048576: true; the input reads as it did. -/
def rowsOrderUptoRow : OpenClaim := { program := "ytabapiofkipkoaa", sum := "0d0a898894b0e100c9b136e5f1b063d8359db5a24f939a3bdbb9048f3121e734", func := "backhaul/backhaullaw13.RowsOrder", spec := "rowsOrder", apart := false, narrowed := true }
def RowsOrderUptoSaid : Prop := rowsOrderUptoRow.holds Try.pinned (OpenSpec.upto rowsOrderSpec)

/-- 'backhaullaw05.OctetNumbers', WHERE WHAT IT READS IS OF BULK AT MOST 1048576: true; the input reads as it did. -/
def octetNumbersUptoRow : OpenClaim := { program := "ytabapiofkipkoaa", sum := "0d0a898894b0e100c9b136e5f1b063d8359db5a24f939a3bdbb9048f3121e734", func := "backhaul/backhaullaw05.OctetNumbers", spec := "octetNumbers", inPlace := ["internal/abi.NoEscape"], apart := false, narrowed := true }
def OctetNumbersUptoSaid : Prop := octetNumbersUptoRow.holds Try.pinned (OpenSpec.upto octetNumbersSpec)

/-- 'backhaullaw05.OctetTexts', WHERE WHAT IT READS IS OF BULK AT MOST 1048576: true; the input reads as it did. -/
def octetTextsUptoRow : OpenClaim := { program := "ytabapiofkipkoaa", sum := "0d0a898894b0e100c9b136e5f1b063d8359db5a24f939a3bdbb9048f3121e734", func := "backhaul/backhaullaw05.OctetTexts", spec := "octetTexts", inPlace := ["internal/abi.NoEscape"], apart := false, narrowed := true }
def OctetTextsUptoSaid : Prop := octetTextsUptoRow.holds Try.pinned (OpenSpec.upto octetTextsSpec)

/-- 'backhaullaw05.OctetRows', WHERE WHAT IT READS IS OF BULK AT MOST 1048576: true; the input reads as it did. -/
def octetRowsUptoRow : OpenClaim := { program := "ytabapiofkipkoaa", sum := "0d0a898894b0e100c9b136e5f1b063d8359db5a24f939a3bdbb9048f3121e734", func := "backhaul/backhaullaw05.OctetRows", spec := "octetRows", inPlace := ["internal/abi.NoEscape"], apart := false, narrowed := true }
def OctetRowsUptoSaid : Prop := octetRowsUptoRow.holds Try.pinned (OpenSpec.upto octetRowsSpec)

/-- 'backhaullaw05.OctetBack', WHERE WHAT IT READS IS OF BULK AT MOST 1048576: true; the input reads as it did. -/
def octetBackUptoRow : OpenClaim := { program := "ytabapiofkipkoaa", sum := "0d0a898894b0e100c9b136e5f1b063d8359db5a24f939a3bdbb9048f3121e734", func := "backhaul/backhaullaw05.OctetBack", spec := "octetBack", inPlace := ["internal/abi.NoEscape"], apart := false, narrowed := true }
def OctetBackUptoSaid : Prop := octetBackUptoRow.holds Try.pinned (OpenSpec.upto octetBackSpec)

/-- 'backhaullaw05.OctetCanon', WHERE WHAT IT READS IS OF BULK AT MOST 1048576: true; the input reads as it did. -/
def octetCanonUptoRow : OpenClaim := { program := "ytabapiofkipkoaa", sum := "0d0a898894b0e100c9b136e5f1b063d8359db5a24f939a3bdbb9048f3121e734", func := "backhaul/backhaullaw05.OctetCanon", spec := "octetCanon", inPlace := ["internal/abi.NoEscape"], apart := false, narrowed := true }
def OctetCanonUptoSaid : Prop := octetCanonUptoRow.holds Try.pinned (OpenSpec.upto octetCanonSpec)

/-- 'backhaullaw05.OctetOrder', WHERE WHAT IT READS IS OF BULK AT MOST 1048576: true; the input reads as it did. -/
def octetOrderUptoRow : OpenClaim := { program := "ytabapiofkipkoaa", sum := "0d0a898894b0e100c9b136e5f1b063d8359db5a24f939a3bdbb9048f3121e734", func := "backhaul/backhaullaw05.OctetOrder", spec := "octetOrder", inPlace := ["internal/abi.NoEscape"], apart := false, narrowed := true }
def OctetOrderUptoSaid : Prop := octetOrderUptoRow.holds Try.pinned (OpenSpec.upto octetOrderSpec)

/-- 'backhaullaw01.SerialRunes', WHERE WHAT IT READS IS OF BULK AT MOST 1048576: true; the input reads as it did. -/
def serialRunesUptoRow : OpenClaim := { program := "ytabapiofkipkoaa", sum := "0d0a898894b0e100c9b136e5f1b063d8359db5a24f939a3bdbb9048f3121e734", func := "backhaul/backhaullaw01.SerialRunes", spec := "serialRunes", unfollowed := true, recurses := true, apart := false, narrowed := true }
def SerialRunesUptoSaid : Prop := serialRunesUptoRow.holds Try.pinned (OpenSpec.upto serialRunesSpec)

/-- 'backhaullaw01.SerialTexts', WHERE WHAT IT READS IS OF BULK AT MOST 1048576: true; the input reads as it did. -/
def serialTextsUptoRow : OpenClaim := { program := "ytabapiofkipkoaa", sum := "0d0a898894b0e100c9b136e5f1b063d8359db5a24f939a3bdbb9048f3121e734", func := "backhaul/backhaullaw01.SerialTexts", spec := "serialTexts", unfollowed := true, recurses := true, apart := false, narrowed := true }
def SerialTextsUptoSaid : Prop := serialTextsUptoRow.holds Try.pinned (OpenSpec.upto serialTextsSpec)

/-- 'backhaullaw01.SerialRows', WHERE WHAT IT READS IS OF BULK AT MOST 1048576: true; the input reads as it did. -/
def serialRowsUptoRow : OpenClaim := { program := "ytabapiofkipkoaa", sum := "0d0a898894b0e100c9b136e5f1b063d8359db5a24f939a3bdbb9048f3121e734", func := "backhaul/backhaullaw01.SerialRows", spec := "serialRows", unfollowed := true, recurses := true, apart := false, narrowed := true }
def SerialRowsUptoSaid : Prop := serialRowsUptoRow.holds Try.pinned (OpenSpec.upto serialRowsSpec)

/-- 'backhaullaw01.SerialFolds', WHERE WHAT IT READS IS OF BULK AT MOST 1048576: true; the input reads as it did. -/
def serialFoldsUptoRow : OpenClaim := { program := "ytabapiofkipkoaa", sum := "0d0a898894b0e100c9b136e5f1b063d8359db5a24f939a3bdbb9048f3121e734", func := "backhaul/backhaullaw01.SerialFolds", spec := "serialFolds", unfollowed := true, recurses := true, apart := false, narrowed := true }
def SerialFoldsUptoSaid : Prop := serialFoldsUptoRow.holds Try.pinned (OpenSpec.upto serialFoldsSpec)

/-- 'backhaullaw01.SerialMarks', WHERE WHAT IT READS IS OF BULK AT MOST 1048576: true; the input reads as it did. -/
def serialMarksUptoRow : OpenClaim := { program := "ytabapiofkipkoaa", sum := "0d0a898894b0e100c9b136e5f1b063d8359db5a24f939a3bdbb9048f3121e734", func := "backhaul/backhaullaw01.SerialMarks", spec := "serialMarks", unfollowed := true, recurses := true, apart := false, narrowed := true }
def SerialMarksUptoSaid : Prop := serialMarksUptoRow.holds Try.pinned (OpenSpec.upto serialMarksSpec)

end Rows
end Go.Proofs.Ytabapiofkipkoaa
