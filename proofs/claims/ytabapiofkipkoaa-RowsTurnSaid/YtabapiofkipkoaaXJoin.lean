-- The program's head, as a list of signs. (A template.)
import Derived.Test.YtabapiofkipkoaaXRow
import Derived.Test.YtabapiofkipkoaaRows
import Derived.WalkKit
import Derived.ProofKit
import Derived.OpenShut
import Derived.WideLaws
set_option maxRecDepth 10000
namespace Go.Proofs.Ytabapiofkipkoaa.Join
open Go.Proofs.YtabapiofkipkoaaX
def initSigns : List Char := ['h', 'a', 'r', 'n', 'e', 's', 's', ' ', 'e', '7', 'd', '1', 'f', '9', '4', '3', '3', 'd', 'a', '9', 'f', 'a', '3', '3', 'a', '2', 'c', 'f', '8', '8', '8', '5', 'f', '1', '3', 'd', 'b', 'f', '0', 'f', '7', '5', '1', '0', '0', 'f', 'd', '3', 'd', 'd', '0', '4', 'a', 'd', '7', 'f', '7', '6', '6', 'd', '5', '0', 'f', '6', '7', '6', 'a', '8', 'e', 'd', '3', '2', ' ', 'c', 'u', 't', ' ', 'a', 't', ' ', 'b', 'a', 'c', 'k', 'h', 'a', 'u', 'l', '/', 'b', 'a', 'c', 'k', 'h', 'a', 'u', 'l', 'l', 'a', 'w', '1', '3', '.', 'R', 'o', 'w', 's', 'F', 'i', 'n', 'd', ' ', 'b', 'a', 'c', 'k', 'h', 'a', 'u', 'l', '/', 'b', 'a', 'c', 'k', 'h', 'a', 'u', 'l', 'l', 'a', 'w', '1', '3', '.', 'R', 'o', 'w', 's', 'L', 'i', 's', 't', 's', ' ', 'b', 'a', 'c', 'k', 'h', 'a', 'u', 'l', '/', 'b', 'a', 'c', 'k', 'h', 'a', 'u', 'l', 'l', 'a', 'w', '1', '3', '.', 'R', 'o', 'w', 's', 'T', 'u', 'r', 'n', ' ', 'b', 'a', 'c', 'k', 'h', 'a', 'u', 'l', '/', 'b', 'a', 'c', 'k', 'h', 'a', 'u', 'l', 'l', 'a', 'w', '1', '3', '.', 'R', 'o', 'w', 's', 'O', 'r', 'd', 'e', 'r', ' ', 'b', 'a', 'c', 'k', 'h', 'a', 'u', 'l', '/', 'b', 'a', 'c', 'k', 'h', 'a', 'u', 'l', 'l', 'a', 'w', '0', '5', '.', 'O', 'c', 't', 'e', 't', 'N', 'u', 'm', 'b', 'e', 'r', 's', ' ', 'b', 'a', 'c', 'k', 'h', 'a', 'u', 'l', '/', 'b', 'a', 'c', 'k', 'h', 'a', 'u', 'l', 'l', 'a', 'w', '0', '5', '.', 'O', 'c', 't', 'e', 't', 'T', 'e', 'x', 't', 's', ' ', 'b', 'a', 'c', 'k', 'h', 'a', 'u', 'l', '/', 'b', 'a', 'c', 'k', 'h', 'a', 'u', 'l', 'l', 'a', 'w', '0', '5', '.', 'O', 'c', 't', 'e', 't', 'R', 'o', 'w', 's', ' ', 'b', 'a', 'c', 'k', 'h', 'a', 'u', 'l', '/', 'b', 'a', 'c', 'k', 'h', 'a', 'u', 'l', 'l', 'a', 'w', '0', '5', '.', 'O', 'c', 't', 'e', 't', 'B', 'a', 'c', 'k', ' ', 'b', 'a', 'c', 'k', 'h', 'a', 'u', 'l', '/', 'b', 'a', 'c', 'k', 'h', 'a', 'u', 'l', 'l', 'a', 'w', '0', '5', '.', 'O', 'c', 't', 'e', 't', 'C', 'a', 'n', 'o', 'n', ' ', 'b', 'a', 'c', 'k', 'h', 'a', 'u', 'l', '/', 'b', 'a', 'c', 'k', 'h', 'a', 'u', 'l', 'l', 'a', 'w', '0', '5', '.', 'O', 'c', 't', 'e', 't', 'O', 'r', 'd', 'e', 'r', ' ', 'b', 'a', 'c', 'k', 'h', 'a', 'u', 'l', '/', 'b', 'a', 'c', 'k', 'h', 'a', 'u', 'l', 'l', 'a', 'w', '0', '1', '.', 'S', 'e', 'r', 'i', 'a', 'l', 'R', 'u', 'n', 'e', 's', ' ', 'b', 'a', 'c', 'k', 'h', 'a', 'u', 'l', '/', 'b', 'a', 'c', 'k', 'h', 'a', 'u', 'l', 'l', 'a', 'w', '0', '1', '.', 'S', 'e', 'r', 'i', 'a', 'l', 'T', 'e', 'x', 't', 's', ' ', 'b', 'a', 'c', 'k', 'h', 'a', 'u', 'l', '/', 'b', 'a', 'c', 'k', 'h', 'a', 'u', 'l', 'l', 'a', 'w', '0', '1', '.', 'S', 'e', 'r', 'i', 'a', 'l', 'R', 'o', 'w', 's', ' ', 'b', 'a', 'c', 'k', 'h', 'a', 'u', 'l', '/', 'b', 'a', 'c', 'k', 'h', 'a', 'u', 'l', 'l', 'a', 'w', '0', '1', '.', 'S', 'e', 'r', 'i', 'a', 'l', 'F', 'o', 'l', 'd', 's', ' ', 'b', 'a', 'c', 'k', 'h', 'a', 'u', 'l', '/', 'b', 'a', 'c', 'k', 'h', 'a', 'u', 'l', 'l', 'a', 'w', '0', '1', '.', 'S', 'e', 'r', 'i', 'a', 'l', 'M', 'a', 'r', 'k', 's']
theorem initText : Try.pinned.checked.prog.initOrder = String.ofList initSigns := by kernel_rfl
theorem initList : Try.pinned.checked.prog.initOrder.toList = initSigns := (congrArg String.toList initText).trans String.toList_ofList
theorem mayEnter_is : Try.pinned.checked.prog.mayEnter = true :=
  mayEnter_of (L := initSigns) (c := "cut".toList) (rest := (behindMainWord (wordsSigns initSigns)).tail) initList (by kernel_rfl) (by kernel_rfl) (by kernel_rfl) (by kernel_rfl) (by kernel_rfl) (by kernel_rfl)
theorem make_is : Try.pinned.checked.prog.make = some .cut :=
  make_of (L := initSigns) (rest := (behindMainWord (wordsSigns initSigns)).tail) initList (by kernel_rfl)
theorem lifts_is : Try.pinned.checked.prog.liftsFinal = false := by
  unfold Program.liftsFinal Program.headLifts
  rw [initList]
  kernel_rfl
end Go.Proofs.Ytabapiofkipkoaa.Join
