/- RowsTurn: what was put in and taken out again, and what was set and set back, is as it was; what was handed in stays; no condition. -/
import Derived.Test.YtabapiofkipkoaaXPRowsF
import Derived.Test.YtabapiofkipkoaaF5
namespace Go.Proofs.Ytabapiofkipkoaa.Pure
open Go.RowKit Go.Proofs.Ytabapiofkipkoaa.F Go.Proofs.Ytabapiofkipkoaa.Q Go.Proofs.YtabapiofkipkoaaW.PrintWords Go.Proofs.YtabapiofkipkoaaW.PrintLast Go.Proofs.YtabapiofkipkoaaW.PrintMore

theorem drop_put {α : Type} {a b : List α} {v : α} {n : Nat} (h : a.length = n) : (a ++ v :: b).drop (n + 1) = b := by
  have : a ++ v :: b = (a ++ [v]) ++ b := by simp
  rw [this, List.drop_left' (by simp [h])]
theorem get_put {α : Type} {a b : List α} {v : α} {n : Nat} (h : a.length = n) (h' : n < (a ++ v :: b).length) : (a ++ v :: b)[n] = v := by
  subst h
  rw [List.getElem_append_right (Nat.le_refl _)]
  simp
theorem turn_j2 {l : List ByteArray} {a : Int} (hl : l.length < 1000) : Ev (fun k => backhaullaw13_RowsTurn.j2 k l a l) true := by
  refine Ev.step (fun k => by simp only [backhaullaw13_RowsTurn.j2]; rfl) ?_
  refine Q.Ev.bindc (rows_Last_f (by omega)) (Ev.bind (same_texts_f (by omega)) (Q.Ev.pos (by simp) ?_))
  have hk : (lastS l a).length ≤ l.length := by unfold lastS; simp
  rw [wrap_eq (by omega) (by omega)]
  refine Q.Ev.pos (by omega) (Q.Ev.pos (by omega) (Q.Ev.pos (by omega) ?_))
  refine Ev.bind (same_texts_f (by omega)) (Q.Ev.pos ?_ (Q.Ev.const rfl))
  rw [decide_eq_true_eq]
  unfold lastS
  congr 1
  rw [List.length_drop]
  omega
theorem turn_j1 {l : List ByteArray} {a : Int} {v : ByteArray} (hl : l.length < 1000) : Ev (fun k => backhaullaw13_RowsTurn.j1 k l a v l) true := by
  refine Ev.step (fun k => by simp only [backhaullaw13_RowsTurn.j1]; rfl) ?_
  refine Q.Ev.bindc (rows_Set_f (by omega)) (Q.Ev.ite (fun h => ?_) (fun h => turn_j2 hl))
  unfold setS at h ⊢
  by_cases h1 : a < 0 ∨ a ≥ (l.length : Int)
  · rw [if_pos h1] at h; exact absurd h (by decide)
  · rw [if_neg h1]
    obtain ⟨n, rfl⟩ := Int.eq_ofNat_of_zero_le (show 0 ≤ a by omega)
    have hn : n < l.length := by omega
    have ht : (l.take n).length = n := by rw [List.length_take]; omega
    have hm : (l.take n ++ v :: l.drop (n + 1)).length = l.length := by simp; omega
    simp only [Int.toNat_natCast]
    refine Q.Ev.pos (by omega) (Q.Ev.pos (by omega) ?_)
    rw [rdOf_nat hn]
    have hs := rows_Set_f (l := l.take n ++ v :: l.drop (n + 1)) (a := (n : Int)) (v := l[n]) (by omega)
    have e : setS (l.take n ++ v :: l.drop (n + 1)) (n : Int) l[n] = (l, 0) := by
      unfold setS
      rw [if_neg (by rw [hm]; omega)]
      simp only [Int.toNat_natCast]
      rw [List.take_left' ht, drop_put ht, ← drop_cons hn, List.take_append_drop]
    rw [e] at hs
    refine Q.Ev.bindc hs (Q.Ev.pos (by rw [hm]) (Q.Ev.pos (by rw [hm]; omega) ?_))
    have hv : rdOf ByteArray.empty (l.take n ++ v :: l.drop (n + 1)) (n : Int) = v := by
      rw [rdOf_nat (show n < (l.take n ++ v :: l.drop (n + 1)).length by omega), get_put ht]
    exact Q.Ev.pos (congrArg ByteArray.toList hv) (Q.Ev.pos rfl (Ev.bind (same_texts_f (a := l) (b := l) (by omega)) (Q.Ev.pos (by simp) (turn_j2 hl))))
theorem RowsTurn : backhaullaw13_RowsTurn.Pure := by
  intro l a v _ _ _
  refine Ev.rounds (r := true) ?_
  unfold backhaullaw13_RowsTurn.f
  have aw : Ev (fun k => backhaullaw13_RowsTurn.j0 k l a v true) true :=
    Ev.step (fun k => by simp only [backhaullaw13_RowsTurn.j0]; rfl) (Q.Ev.pos (show true = true from rfl) (Q.Ev.const rfl))
  refine Ev.bind (few_f l) (Q.Ev.ite (fun hf => ?_) (fun _ => aw))
  have hl : l.length < 1000 := by
    simp only [fewB, Bool.and_eq_true, decide_eq_true_eq] at hf; omega
  refine Ev.step (fun k => by simp only [backhaullaw13_RowsTurn.j0]; rfl) ?_
  refine Q.Ev.ite (fun _ => Q.Ev.const rfl) (fun h2 => ?_)
  refine Q.Ev.bindc rfl (Q.Ev.pos (by simp; omega) (Q.Ev.bindc rfl ?_))
  rw [List.nil_append]
  refine Q.Ev.bindc (rows_With_f (by omega)) (Q.Ev.ite (fun h => ?_) (fun h => turn_j1 hl))
  unfold withS at h ⊢
  by_cases h1 : a < 0 ∨ a > (l.length : Int)
  · rw [if_pos h1] at h; exact absurd h (by decide)
  · rw [if_neg h1]
    obtain ⟨n, rfl⟩ := Int.eq_ofNat_of_zero_le (show 0 ≤ a by omega)
    have hn : n ≤ l.length := by omega
    have ht : (l.take n).length = n := by rw [List.length_take]; omega
    have hm : (l.take n ++ v :: l.drop n).length = l.length + 1 := by simp; omega
    simp only [Int.toNat_natCast]
    have hs := rows_Without_f (l := l.take n ++ v :: l.drop n) (a := (n : Int)) (by omega)
    have e : withoutS (l.take n ++ v :: l.drop n) (n : Int) = (l, 0) := by
      unfold withoutS
      rw [if_neg (by rw [hm]; omega)]
      simp only [Int.toNat_natCast]
      rw [List.take_left' ht, drop_put ht, List.take_append_drop]
    rw [e] at hs
    refine Q.Ev.bindc hs (Q.Ev.pos (by rw [hm, wrap_eq (by omega) (by omega)]; omega) (Q.Ev.pos (by omega) (Q.Ev.pos (by rw [hm]; omega) ?_)))
    have hv : rdOf ByteArray.empty (l.take n ++ v :: l.drop n) (n : Int) = v := by
      rw [rdOf_nat (show n < (l.take n ++ v :: l.drop n).length by omega), get_put ht]
    exact Q.Ev.pos (congrArg ByteArray.toList hv) (Q.Ev.pos rfl (Ev.bind (same_texts_f (a := l) (b := l) (by omega)) (Q.Ev.pos (by simp) (turn_j1 hl))))
end Go.Proofs.Ytabapiofkipkoaa.Pure
