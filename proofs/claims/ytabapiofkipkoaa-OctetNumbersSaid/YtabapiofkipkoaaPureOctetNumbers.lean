/- OctetNumbers: any number has the document's bytes in any width, or none; at any place of any bytes its number stands, or none; no condition. -/
import Derived.Test.YtabapiofkipkoaaXPOctF
import Derived.Test.YtabapiofkipkoaaF7
namespace Go.Proofs.Ytabapiofkipkoaa.Pure
open Go.RowKit Go.Proofs.Ytabapiofkipkoaa.F Go.Proofs.Ytabapiofkipkoaa.Q Go.Proofs.YtabapiofkipkoaaW.PrintWords Go.Proofs.YtabapiofkipkoaaW.PrintLast

theorem OctetNumbers : backhaullaw05_OctetNumbers.Pure := by
  intro n s a w hn hs ha hw
  refine Ev.rounds (r := true) ?_
  unfold backhaullaw05_OctetNumbers.f
  have h := i64_bounds hn
  refine Q.Ev.ite (fun h => Q.Ev.const rfl) (fun hlt => ?_)
  refine Ev.bind (octet_put_f w (by omega)) (Ev.bind (ref05_put_f w (by omega)) (Ev.bind (octet_get_f a w (by omega)) (Ev.bind (ref05_get_f a w (by omega)) ?_)))
  exact Q.Ev.pos rfl (Q.Ev.pos rfl (Q.Ev.pos rfl (Q.Ev.pos rfl (Q.Ev.pos rfl (Q.Ev.const rfl)))))
end Go.Proofs.Ytabapiofkipkoaa.Pure
