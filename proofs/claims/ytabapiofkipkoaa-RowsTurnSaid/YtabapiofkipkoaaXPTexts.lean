/- Lists of texts: SameTexts decides equality; no condition but that a length is below 2^63 - 1. -/
import Derived.Test.YtabapiofkipkoaaXPure
import Derived.Test.YtabapiofkipkoaaF30
set_option linter.unusedVariables false
namespace Go.Proofs.Ytabapiofkipkoaa.Q
open Go.RowKit Go.Proofs.Ytabapiofkipkoaa.F Go.Proofs.YtabapiofkipkoaaW.PrintWords Go.Proofs.YtabapiofkipkoaaW.PrintLast Go.Proofs.YtabapiofkipkoaaW.PrintMore

theorem same_texts_l0 {a b : List ByteArray} (hl : a.length < 9223372036854775807) (hab : a.length = b.length) (d : Nat) : ∀ i : Nat, a.length - i = d → i ≤ a.length →
    Ev (fun k => backhaulref01_SameTexts.l0 k a b (i : Int)) (decide (a.drop i = b.drop i)) := by
  induction d with
  | zero =>
    intro i hd hi
    refine Ev.step (fun k => by simp only [backhaulref01_SameTexts.l0]; rfl) ?_
    refine Ev.neg (by omega) (Ev.ok ?_)
    rw [List.drop_eq_nil_of_le (by omega), List.drop_eq_nil_of_le (by omega)]; simp
  | succ d ih =>
    intro i hd hi
    have h : i < a.length := by omega
    have h' : i < b.length := by omega
    refine Ev.step (fun k => by simp only [backhaulref01_SameTexts.l0]; rfl) ?_
    refine Ev.pos (by omega) (Ev.pos (by omega) (Ev.pos (by omega) ?_))
    rw [rdOf_nat h, rdOf_nat h', drop_cons h, drop_cons h']
    refine Ev.ite (fun he => ?_) (fun he => Ev.ok ?_)
    · rw [wrap_eq (by omega) (by omega)]
      refine Ev.eq (ih (i + 1) (by omega) (by omega)) ?_
      rw [bytes_ext.1 he]
      exact decide_eq_decide.2 ⟨fun e => by rw [e], fun e => by injection e⟩
    · exact (decide_eq_false (fun e => he (by injection e with e1; rw [e1]))).symm
theorem same_texts_f {a b : List ByteArray} (hl : a.length < 9223372036854775807) : Ev (fun k => backhaulref01_SameTexts.f k a b) (decide (a = b)) := by
  unfold backhaulref01_SameTexts.f
  refine Ev.ite (fun h => ?_) (fun h => Ev.ok ?_)
  · exact same_texts_l0 hl (by omega) a.length 0 (by omega) (by omega)
  · have : ¬ a = b := fun e => h (by rw [e])
    simp [this]
end Go.Proofs.Ytabapiofkipkoaa.Q
