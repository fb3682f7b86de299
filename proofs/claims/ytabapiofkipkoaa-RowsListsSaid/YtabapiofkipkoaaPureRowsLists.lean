/- RowsLists: for any texts, place and text the program's With, Set, Without and Last answer as the document's; no condition. -/
import Derived.Test.YtabapiofkipkoaaXPLists
import Derived.Test.YtabapiofkipkoaaF4
import Derived.Test.YtabapiofkipkoaaF31
namespace Go.Proofs.Ytabapiofkipkoaa.Pure
open Go.RowKit Go.Proofs.Ytabapiofkipkoaa.F Go.Proofs.Ytabapiofkipkoaa.Q Go.Proofs.YtabapiofkipkoaaW.PrintWords Go.Proofs.YtabapiofkipkoaaW.PrintLast Go.Proofs.YtabapiofkipkoaaW.PrintMore

theorem rows_Last_f {l : List ByteArray} {n : Int} (hl : l.length < 1000000) : rows_Last_string.f l n = some (lastS l n) := by
  unfold rows_Last_string.f lastS slices_Clone_string_string.f
  have e : wrap64 ((l.length : Int) - mn (mx n 0) (l.length : Int)) = ((l.length - n.toNat : Nat) : Int) := by
    rw [wrap_eq] <;> (unfold mx mn; (repeat' split) <;> omega)
  rw [e, if_pos (by omega), if_pos (by omega)]
  simp only [Int.toNat_natCast]
  rw [if_pos (by rw [List.length_drop]; omega)]
  rfl
theorem rows_With_f {l : List ByteArray} {a : Int} {v : ByteArray} (hl : l.length < 1000000) : rows_With_string.f l a v = some (withS l a v) := by
  unfold rows_With_string.f withS
  by_cases h : a < 0
  · rw [if_pos h, if_pos (.inl h)]
  · rw [if_neg h]
    by_cases h1 : a > (l.length : Int)
    · rw [if_pos h1, if_pos (.inr h1)]
    · rw [if_neg h1, if_pos (show l.length + 1 < 8796093022208 by omega), if_neg (by omega)]
theorem rows_Set_f {l : List ByteArray} {a : Int} {v : ByteArray} (hl : l.length < 1000000) : rows_Set_string.f l a v = some (setS l a v) := by
  unfold rows_Set_string.f setS
  by_cases h : a < 0
  · rw [if_pos h, if_pos (.inl h)]
  · rw [if_neg h]
    by_cases h1 : a ≥ (l.length : Int)
    · rw [if_pos h1, if_pos (.inr h1)]
    · rw [if_neg h1, if_pos (show l.length + 1 < 8796093022208 by omega), if_neg (by omega)]
theorem rows_Without_f {l : List ByteArray} {a : Int} (hl : l.length < 1000000) : rows_Without_string.f l a = some (withoutS l a) := by
  unfold rows_Without_string.f withoutS
  by_cases h : a < 0
  · rw [if_pos h, if_pos (.inl h)]
  · rw [if_neg h]
    by_cases h1 : a ≥ (l.length : Int)
    · rw [if_pos h1, if_pos (.inr h1)]
    · rw [if_neg h1, if_pos (show l.length + 1 < 8796093022208 by omega), if_neg (by omega)]
theorem len_with {l : List ByteArray} {a : Int} {v : ByteArray} : (withS l a v).1.length ≤ l.length + 1 := by
  unfold withS; split <;> simp; omega
theorem len_set {l : List ByteArray} {a : Int} {v : ByteArray} : (setS l a v).1.length ≤ l.length + 1 := by
  unfold setS; split <;> simp; omega
theorem len_without {l : List ByteArray} {a : Int} : (withoutS l a).1.length ≤ l.length + 1 := by
  unfold withoutS; split <;> simp; omega
theorem awake_lists (l : List ByteArray) (a : Int) (v : ByteArray) : Ev (fun k => backhaullaw13_RowsLists.j0 k l a v true) true :=
  Ev.step (fun k => by simp only [backhaullaw13_RowsLists.j0]; rfl) (Q.Ev.pos (show true = true from rfl) (Q.Ev.const rfl))

theorem RowsLists : backhaullaw13_RowsLists.Pure := by
  intro l a v _ _ _
  refine Ev.rounds (r := true) ?_
  unfold backhaullaw13_RowsLists.f
  refine Ev.bind (few_f l) (Q.Ev.ite (fun hf => ?_) (fun _ => awake_lists _ _ _))
  have hl : l.length < 1000000 := by
    simp only [fewB, Bool.and_eq_true, decide_eq_true_eq] at hf; omega
  refine Ev.step (fun k => by simp only [backhaullaw13_RowsLists.j0]; rfl) ?_
  refine Q.Ev.ite (fun _ => Q.Ev.const rfl) (fun h2 => ?_)
  refine Q.Ev.bindc (rows_With_f hl) (Ev.bind (ref_With_f hl) (Q.Ev.bindc (rows_Set_f hl) (Q.Ev.bindc (ref_Set_f hl) (Q.Ev.bindc (rows_Without_f hl) (Ev.bind (ref_Without_f hl) ?_)))))
  refine Ev.bind (same_texts_f (by have := len_with (l := l) (a := a) (v := v); omega)) (Q.Ev.pos (by simp) (Q.Ev.pos rfl ?_))
  refine Ev.bind (same_texts_f (by have := len_set (l := l) (a := a) (v := v); omega)) (Q.Ev.pos (by simp) (Q.Ev.pos rfl ?_))
  refine Ev.bind (same_texts_f (by have := len_without (l := l) (a := a); omega)) (Q.Ev.pos (by simp) (Q.Ev.pos rfl ?_))
  refine Q.Ev.bindc (rows_Last_f hl) (Ev.bind (ref_Last_f hl) ?_)
  exact Ev.bind (same_texts_f (by unfold lastS; simp; omega)) (Q.Ev.pos (by simp) (Q.Ev.const rfl))
end Go.Proofs.Ytabapiofkipkoaa.Pure
