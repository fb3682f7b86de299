/- RowsFind: for all numbers and one number sought, the program's Rising and Find answer as the document's do, and the law returns true; no condition. -/
import Derived.Test.YtabapiofkipkoaaXPRows
import Derived.Test.YtabapiofkipkoaaF3
namespace Go.Proofs.Ytabapiofkipkoaa.Pure
open Go.RowKit Go.Proofs.Ytabapiofkipkoaa.F Go.Proofs.Ytabapiofkipkoaa.Q Go.Proofs.YtabapiofkipkoaaW.PrintWords Go.Proofs.YtabapiofkipkoaaW.PrintLast

theorem RowsFind : backhaullaw13_RowsFind.Pure := by
  intro l id hl _ _ _
  refine Ev.rounds (r := true) ?_
  unfold backhaullaw13_RowsFind.f
  refine Q.Ev.ite (fun _ => Q.Ev.ok rfl) (fun h => ?_)
  refine Ev.bind (rows_Find_f (by omega)) (Ev.bind (ref_Find_f (by omega)) (Ev.bind (rows_Rising_f (by omega)) (Ev.bind (ref_Rising_f (by omega)) ?_)))
  exact Q.Ev.pos rfl (Q.Ev.pos rfl (Q.Ev.pos (by simp) (Q.Ev.ok rfl)))
end Go.Proofs.Ytabapiofkipkoaa.Pure
