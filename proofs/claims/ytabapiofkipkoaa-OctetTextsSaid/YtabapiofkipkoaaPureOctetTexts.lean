/- OctetTexts: any text has the document's bytes, or none; at any place of any bytes its text stands, or none; a bool has its byte; no condition. -/
import Derived.Test.YtabapiofkipkoaaXPOctF
import Derived.Test.YtabapiofkipkoaaF8
namespace Go.Proofs.Ytabapiofkipkoaa.Pure
open Go.RowKit Go.Proofs.Ytabapiofkipkoaa.F Go.Proofs.Ytabapiofkipkoaa.Q Go.Proofs.YtabapiofkipkoaaW.PrintWords Go.Proofs.YtabapiofkipkoaaW.PrintLast

theorem OctetTexts : backhaullaw05_OctetTexts.Pure := by
  intro t s a m ht hs ha hm
  refine Ev.rounds (r := true) ?_
  unfold backhaullaw05_OctetTexts.f
  have out : ∀ b : Bool, (b = true ∨ (t.size ≤ 70000 ∧ s.size ≤ 2000)) → Ev (fun k => backhaullaw05_OctetTexts.j0 k t s b a m) true := by
    intro b hb
    refine Ev.step (fun k => by simp only [backhaullaw05_OctetTexts.j0]; rfl) ?_
    refine Q.Ev.ite (fun h => Q.Ev.const rfl) (fun h => ?_)
    obtain ⟨h1, h2⟩ := hb.resolve_left h
    refine Ev.bind (octet_lay_f (by omega)) (Q.Ev.bindc (ref05_lay_f (by omega)) (Ev.bind (octet_take_f a m (by omega)) (Ev.bind (ref05_take_f a m (by omega)) ?_)))
    refine Q.Ev.pos rfl (Q.Ev.pos rfl (Q.Ev.pos rfl (Q.Ev.pos rfl (Q.Ev.pos rfl ?_))))
    cases h3 : decide (a > 0) with
    | true =>
      refine Q.Ev.bindc (show octet_Flag.f true = some _ from rfl) (Q.Ev.pos ?_ (Q.Ev.bindc (show octet_Flag.f true = some _ from rfl) (Q.Ev.pos rfl (Q.Ev.const rfl))))
      decide +kernel
    | false =>
      refine Q.Ev.bindc (show octet_Flag.f false = some _ from rfl) (Q.Ev.pos ?_ (Q.Ev.bindc (show octet_Flag.f false = some _ from rfl) (Q.Ev.pos rfl (Q.Ev.const rfl))))
      decide +kernel
  refine Q.Ev.ite (fun h => out true (.inl rfl)) (fun h => out _ ?_)
  by_cases h2 : (s.size : Int) > 2000
  · exact .inl (decide_eq_true h2)
  · exact .inr ⟨by omega, by omega⟩
end Go.Proofs.Ytabapiofkipkoaa.Pure
