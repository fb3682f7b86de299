/- CentsSums: any numbers are added, taken away and multiplied as the document says, or refused; no condition. -/
import Derived.Test.YtefhljhpcpajgaaXPCents
import Derived.Test.YtefhljhpcpajgaaF3
namespace Go.Proofs.Ytefhljhpcpajgaa.Pure
open Go.RowKit Go.Proofs.Ytefhljhpcpajgaa.F Go.Proofs.Ytefhljhpcpajgaa.Q Go.Proofs.YtefhljhpcpajgaaW.PrintWords Go.Proofs.YtefhljhpcpajgaaW.PrintLast

theorem CentsSums : backhaullaw02_CentsSums.Pure := by
  intro l a b hl ha hb
  refine Ev.rounds (r := true) ?_
  unfold backhaullaw02_CentsSums.f
  refine Q.Ev.ite (fun h => Q.Ev.const rfl) (fun h => ?_)
  have hlen : l.length < 9223372036854775807 := by omega
  refine Ev.bind (cents_Add_f hlen) ?_
  refine Ev.bind (ref_Add_f hlen) ?_
  refine Q.Ev.bindc (sub_f a b) (Q.Ev.bindc (ref_sub_f a b) (Q.Ev.bindc (times_f a b) ?_))
  refine Ev.bind (ref_times_f a b) ?_
  refine Q.Ev.pos rfl (Q.Ev.pos rfl (Q.Ev.pos rfl (Q.Ev.pos rfl (Q.Ev.pos rfl (Q.Ev.pos rfl ?_)))))
  refine Q.Ev.bindc (in_f _) (Q.Ev.bindc (ref_in_f _) (Q.Ev.pos (by simp) (Q.Ev.const rfl)))
end Go.Proofs.Ytefhljhpcpajgaa.Pure
