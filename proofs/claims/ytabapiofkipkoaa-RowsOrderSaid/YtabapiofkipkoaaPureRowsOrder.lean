/- RowsOrder: a number that is put at the place that Find tells, in numbers that rise, leaves numbers that rise, one more; no condition. -/
import Derived.Test.YtabapiofkipkoaaXPRows
import Derived.Test.YtabapiofkipkoaaF6
namespace Go.Proofs.Ytabapiofkipkoaa.Pure
open Go.RowKit Go.Proofs.Ytabapiofkipkoaa.F Go.Proofs.Ytabapiofkipkoaa.Q Go.Proofs.YtabapiofkipkoaaW.PrintWords Go.Proofs.YtabapiofkipkoaaW.PrintLast

theorem awake_j (l : List Int) (a : Int) : Ev (fun k => backhaullaw13_RowsOrder.j0 k l a true) true :=
  Ev.step (fun k => by simp only [backhaullaw13_RowsOrder.j0]; rfl) (Q.Ev.pos (show true = true from rfl) (Q.Ev.const rfl))

/-- A list that rises, with one more at its place. -/
theorem rising_with {l : List Int} {id : Int} (h : rising 0 l = 0) (hm : ¬ id ∈ l) (h1 : 1 ≤ id) (h2 : id ≤ 999999) :
    rising 0 (l.take (l.countP (fun x => decide (x < id))) ++ id :: l.drop (l.countP (fun x => decide (x < id)))) = 0 := by
  obtain ⟨ha, hs⟩ := rising_zero h
  obtain ⟨c, hc⟩ : ∃ c, c = l.countP (fun x => decide (x < id)) := ⟨_, rfl⟩
  rw [← hc]
  have hlow : ∀ j (hj : j < l.length), j < c → l[j] < id := by
    intro j hj hjc
    rcases Int.lt_or_le l[j] id with h3 | h3
    · exact h3
    · exfalso
      have : l.countP (fun x => decide (x < id)) ≤ j := by
        have e : l = l.take j ++ l.drop j := (List.take_append_drop j l).symm
        have b : (l.drop j).countP (fun x => decide (x < id)) = 0 := by
          rw [List.countP_eq_zero]
          intro x hx
          obtain ⟨q, hq, rfl⟩ := List.mem_iff_getElem.1 hx
          rw [List.length_drop] at hq
          rw [List.getElem_drop]
          rcases Nat.eq_zero_or_pos q with h4 | h4
          · subst h4; simpa using h3
          · have := sorted_get hs (show j + q < l.length by omega) (show j < j + q by omega)
            simp; omega
        have a := List.countP_le_length (p := fun x => decide (x < id)) (l := l.take j)
        rw [List.length_take] at a
        rw [e, List.countP_append, b]; omega
      omega
  have hhigh : ∀ j (hj : j < l.length), c ≤ j → id < l[j] := by
    intro j hj hjc
    have hne : l[j] ≠ id := fun e => hm (e ▸ List.getElem_mem hj)
    rcases Int.lt_or_le l[j] id with h3 | h3
    · exfalso
      have : j + 1 ≤ l.countP (fun x => decide (x < id)) := by
        have e : l = l.take (j + 1) ++ l.drop (j + 1) := (List.take_append_drop (j + 1) l).symm
        have a : (l.take (j + 1)).countP (fun x => decide (x < id)) = (l.take (j + 1)).length := by
          rw [List.countP_eq_length]
          intro x hx
          obtain ⟨q, hq, rfl⟩ := List.mem_iff_getElem.1 hx
          rw [List.length_take] at hq
          rw [List.getElem_take]
          rcases Nat.lt_or_ge q j with h4 | h4
          · have := sorted_get hs hj h4; simp; omega
          · have : q = j := by omega
            subst this; simpa using h3
        rw [e, List.countP_append, a, List.length_take]; omega
      omega
    · omega
  have hcl : c ≤ l.length := hc ▸ List.countP_le_length
  refine rising_of (fun x hx => ?_) ?_
  · rcases List.mem_append.1 hx with hx | hx
    · exact ha x (List.mem_of_mem_take hx)
    · rcases List.mem_cons.1 hx with rfl | hx
      · omega
      · exact ha x (List.mem_of_mem_drop hx)
  · rw [List.pairwise_append]
    refine ⟨hs.sublist (List.take_sublist _ _), List.pairwise_cons.2 ⟨fun x hx => ?_, hs.sublist (List.drop_sublist _ _)⟩, fun x hx y hy => ?_⟩
    · obtain ⟨q, hq, rfl⟩ := List.mem_iff_getElem.1 hx
      rw [List.length_drop] at hq
      rw [List.getElem_drop]
      exact hhigh _ (by omega) (by omega)
    · obtain ⟨p, hp, rfl⟩ := List.mem_iff_getElem.1 hx
      rw [List.length_take] at hp
      rw [List.getElem_take]
      have hl := hlow p (by omega) (by omega)
      rcases List.mem_cons.1 hy with rfl | hy
      · exact hl
      · obtain ⟨q, hq, rfl⟩ := List.mem_iff_getElem.1 hy
        rw [List.length_drop] at hq
        rw [List.getElem_drop]
        have := hhigh (c + q) (by omega) (by omega)
        omega

theorem RowsOrder : backhaullaw13_RowsOrder.Pure := by
  intro l id hl _ _ _
  refine Ev.rounds (r := true) ?_
  unfold backhaullaw13_RowsOrder.f
  refine Q.Ev.ite (fun _ => awake_j _ _) (fun h => ?_)
  refine Ev.bind (rows_Rising_f (by omega)) (Q.Ev.ite (fun hr => ?_) (fun _ => awake_j _ _))
  refine Q.Ev.ite (fun _ => awake_j _ _) (fun h1 => ?_)
  refine Ev.step (fun k => by simp only [backhaullaw13_RowsOrder.j0]; rfl) ?_
  refine Q.Ev.ite (fun _ => Q.Ev.ok rfl) (fun h2 => ?_)
  have h2' : id ≤ 999999 := by simpa using h2
  refine Ev.bind (rows_Find_f (by omega)) ?_
  unfold find
  by_cases hm : id ∈ l
  · rw [if_pos hm]
    have hi := List.idxOf_lt_length_iff.2 hm
    refine Q.Ev.pos rfl (Q.Ev.pos (by simp) (Q.Ev.pos (by simpa using hi) (Q.Ev.pos (by simp) ?_)))
    refine Q.Ev.pos ?_ (Q.Ev.const rfl)
    show rd l ((l.idxOf id : Nat) : Int) = id
    rw [rd_nat hi]
    exact List.getElem_idxOf hi
  · rw [if_neg hm, if_pos hr]
    have hcl : l.countP (fun x => decide (x < id)) ≤ l.length := List.countP_le_length
    refine Q.Ev.neg (by simp) ?_
    refine Q.Ev.bindc (a := (l.take (l.countP (fun x => decide (x < id))) ++ id :: l.drop (l.countP (fun x => decide (x < id))), 0)) ?_ ?_
    · unfold rows_With_int.f
      rw [if_neg (by simp), if_neg (by simp; omega), if_pos (by omega)]
      simp
    · refine Q.Ev.pos rfl ?_
      have hlen : (l.take (l.countP (fun x => decide (x < id))) ++ id :: l.drop (l.countP (fun x => decide (x < id)))).length = l.length + 1 := by
        simp only [List.length_append, List.length_take, List.length_cons, List.length_drop]; omega
      refine Ev.bind (rows_Rising_f (by rw [hlen]; omega)) ?_
      rw [rising_with hr hm (by omega) h2']
      refine Q.Ev.pos rfl (Q.Ev.pos ?_ (Q.Ev.const rfl))
      rw [hlen, wrap_eq (by omega) (by omega)]; omega
end Go.Proofs.Ytabapiofkipkoaa.Pure
