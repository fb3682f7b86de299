/- OctetOrder: of one width the greater number has the greater bytes; no condition. -/
import Derived.Test.YtabapiofkipkoaaXPOctF
import Derived.Test.YtabapiofkipkoaaF12
namespace Go.Proofs.Ytabapiofkipkoaa.Pure
open Go.RowKit Go.Proofs.Ytabapiofkipkoaa.F Go.Proofs.Ytabapiofkipkoaa.Q Go.Proofs.YtabapiofkipkoaaW.PrintWords Go.Proofs.YtabapiofkipkoaaW.PrintLast

theorem order_round {a b w : Int} (ha : a ≤ 9223372036854775807) (hb : b ≤ 9223372036854775807) (hw : w ≤ 8) (hw0 : 0 ≤ w) (h : Ev (fun k => backhaullaw05_OctetOrder.l0 k a b (w + w)) true) : Ev (fun k => backhaullaw05_OctetOrder.l0 k a b w) true := by
  refine Ev.step (fun k => by simp only [backhaullaw05_OctetOrder.l0]; rfl) ?_
  rw [wrap_eq (x := w + w) (by omega) (by omega)]
  refine Q.Ev.pos hw (Ev.bind (octet_put_f w ha) (Ev.bind (octet_put_f w hb) ?_))
  refine Q.Ev.ite (fun h1 => Q.Ev.ite (fun h2 => ?_) (fun h2 => h)) (fun h1 => h)
  refine Q.Ev.neg ?_ h
  have e1 : putS a w = ((putS a w).1, 0) := by rw [← h1]
  have e2 : putS b w = ((putS b w).1, 0) := by rw [← h2]
  have := put_order e1 e2
  rw [toList_data', toList_data']
  by_cases h3 : a < b
  · rw [this.2 h3, decide_eq_true h3]; decide
  · rw [decide_eq_false h3]
    cases h4 : Go.Op.bytesLess (putS a w).1.data.toList (putS b w).1.data.toList with
    | false => decide
    | true => exact absurd (this.1 h4) h3
theorem OctetOrder : backhaullaw05_OctetOrder.Pure := by
  intro a b ha hb
  refine Ev.rounds (r := true) ?_
  unfold backhaullaw05_OctetOrder.f
  have h1 := (i64_bounds ha).2
  have h2 := (i64_bounds hb).2
  refine order_round h1 h2 (by decide) (by decide) (order_round h1 h2 (by decide) (by decide) (order_round h1 h2 (by decide) (by decide) (order_round h1 h2 (by decide) (by decide) ?_)))
  refine Ev.step (fun k => by simp only [backhaullaw05_OctetOrder.l0]; rfl) ?_
  exact Q.Ev.neg (by decide) (Q.Ev.const rfl)
end Go.Proofs.Ytabapiofkipkoaa.Pure
