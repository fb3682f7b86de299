/- CentsOver: amounts that are added and taken away again are as they were; in another order they make the same sum, if none is below 0; no condition. -/
import Derived.Test.YtefhljhpcpajgaaXPCents
import Derived.Test.YtefhljhpcpajgaaF5
namespace Go.Proofs.Ytefhljhpcpajgaa.Pure
open Go.RowKit Go.Proofs.Ytefhljhpcpajgaa.F Go.Proofs.Ytefhljhpcpajgaa.Q Go.Proofs.YtefhljhpcpajgaaW.PrintWords Go.Proofs.YtefhljhpcpajgaaW.PrintLast Go.Proofs.YtefhljhpcpajgaaW.PrintMore

theorem sumS_pos (l : List Int) (h : ∀ x ∈ l, 0 ≤ x) : ∀ n, 0 ≤ n → n ≤ 1000000000000 → sumS n l = if n + l.sum ≤ 1000000000000 then (n + l.sum, 0) else (0, 8) := by
  have hs : ∀ l : List Int, (∀ x ∈ l, 0 ≤ x) → 0 ≤ l.sum := by
    intro l
    induction l with
    | nil => intro _; simp
    | cons x xs ih => intro h; have := ih (fun y hy => h y (List.mem_cons_of_mem _ hy)); have := h x List.mem_cons_self; simp only [List.sum_cons]; omega
  induction l with
  | nil => intro n h0 h1; simp [sumS]; omega
  | cons x xs ih =>
    intro n h0 h1
    have hx := h x List.mem_cons_self
    have hxs := hs xs (fun y hy => h y (List.mem_cons_of_mem _ hy))
    rw [show (x :: xs).sum = x + xs.sum from List.sum_cons]
    simp only [sumS]
    by_cases h2 : amt x ∧ amt (n + x)
    · rw [if_pos h2, ih (fun y hy => h y (List.mem_cons_of_mem _ hy)) (n + x) (by omega) h2.2.2, Int.add_assoc]
    · rw [if_neg h2, if_neg (by unfold amt at h2; omega)]
theorem sumS_ok {l : List Int} : ∀ {n s e}, amt n → sumS n l = (s, e) → (e = 0 ∧ amt s ∨ e = 8 ∧ s = 0) := by
  induction l with
  | nil => intro n s e hn h; simp only [sumS, Prod.mk.injEq] at h; obtain ⟨rfl, rfl⟩ := h; exact .inl ⟨rfl, hn⟩
  | cons x xs ih =>
    intro n s e hn h
    simp only [sumS] at h
    split at h
    · rename_i h2; exact ih h2.2 h
    · simp only [Prod.mk.injEq] at h; obtain ⟨rfl, rfl⟩ := h; exact .inr ⟨rfl, rfl⟩
theorem over_j2 {l : List Int} {a s : Int} (hs : amt s) (b : Bool) (hb : b = false → 0 ≤ a ∧ a < l.length) : Ev (fun k => backhaullaw02_CentsOver.j2 k l a s b) true := by
  refine Ev.step (fun k => by simp only [backhaullaw02_CentsOver.j2]; rfl) ?_
  refine Q.Ev.ite (fun h => Q.Ev.const rfl) (fun h => ?_)
  obtain ⟨h0, h1⟩ := hb (by simpa using h)
  refine Q.Ev.pos h0 (Q.Ev.pos h1 ?_)
  refine Q.Ev.bindc (sub_f _ _) ?_
  refine Ev.bind (cents_Add_f (l := [(subS s (rd l a)).1, rd l a]) (by simp)) ?_
  refine Q.Ev.ite (fun h2 => ?_) (fun h2 => Q.Ev.const rfl)
  have h3 : amt s ∧ amt (rd l a) ∧ amt (s - rd l a) := by
    unfold subS at h2
    split at h2
    · assumption
    · simp at h2
  have h4 : subS s (rd l a) = (s - rd l a, 0) := by unfold subS; rw [if_pos h3]
  have h5 : sumS 0 [(subS s (rd l a)).1, rd l a] = (s, 0) := by
    rw [h4]
    simp only [sumS, Int.zero_add, and_self, h3.2.2, if_true, Int.sub_add_cancel, hs, h3.2.1]
  rw [h5]
  exact Q.Ev.pos rfl (Q.Ev.pos rfl (Q.Ev.const rfl))
theorem over_j1 {l : List Int} {a s : Int} (hs : amt s) : Ev (fun k => backhaullaw02_CentsOver.j1 k l a s false) true := by
  refine Ev.step (fun k => by simp only [backhaullaw02_CentsOver.j1]; rfl) ?_
  refine Q.Ev.neg (by decide) ?_
  refine Q.Ev.ite (fun h => over_j2 hs true (by simp)) (fun h => over_j2 hs _ (fun h2 => ⟨by omega, by simpa using h2⟩))
theorem over_l0 {l : List Int} (hl : l.length ≤ 1000) {a s : Int} (hs : amt s) (hsum : sumS 0 l = (s, 0)) : ∀ (d : Nat) (low : Int), d ≤ l.length → (low ≥ 0 → ∀ x ∈ l.drop d, 0 ≤ x) →
    Ev (fun k => backhaullaw02_CentsOver.l0 k l a s low (l.drop d).reverse ((d : Int) - 1)) true := by
  intro d
  induction d with
  | zero =>
    intro low _ hlow
    refine Ev.step (fun k => by simp only [backhaullaw02_CentsOver.l0]; rfl) ?_
    refine Q.Ev.neg (by omega) ?_
    rw [List.drop_zero] at hlow ⊢
    refine Ev.bind (cents_Add_f (l := l.reverse) (by simp; omega)) ?_
    refine Q.Ev.ite (fun h => ?_) (fun h => ?_)
    · have hp := sumS_pos l (hlow h) 0 (by omega) (by omega)
      have hq := sumS_pos l.reverse (fun x hx => hlow h x (List.mem_reverse.1 hx)) 0 (by omega) (by omega)
      rw [List.sum_reverse, ← hp, hsum] at hq
      rw [hq]
      refine Q.Ev.pos rfl (Q.Ev.pos rfl (Q.Ev.bindc (in_f _) ?_))
      rw [decide_eq_true hs]
      exact over_j1 hs
    · refine Q.Ev.bindc (in_f _) ?_
      rw [decide_eq_true hs]
      exact over_j1 hs
  | succ d ih =>
    intro low hd hlow
    have h : d < l.length := by omega
    have e : ((d + 1 : Nat) : Int) - 1 = (d : Int) := by omega
    rw [e]
    refine Ev.step (fun k => by simp only [backhaullaw02_CentsOver.l0]; rfl) ?_
    refine Q.Ev.pos (by omega) (Q.Ev.pos (by omega) (Q.Ev.pos (by omega) (Q.Ev.pos (by simp; omega) ?_)))
    have hrev : (l.drop (d + 1)).reverse ++ [rd l (d : Int)] = (l.drop d).reverse := by rw [rd_nat h, drop_cons h, List.reverse_cons]
    rw [hrev, wrap_eq (by omega) (by omega)]
    refine ih _ (by omega) (fun h2 x hx => ?_)
    rw [drop_cons h] at hx
    rw [rd_nat h] at h2
    unfold mn at h2
    rcases List.mem_cons.1 hx with rfl | hx
    · split at h2 <;> omega
    · refine hlow ?_ x hx
      split at h2 <;> omega
theorem CentsOver : backhaullaw02_CentsOver.Pure := by
  intro l a hl ha
  refine Ev.rounds (r := true) ?_
  unfold backhaullaw02_CentsOver.f
  refine Q.Ev.ite (fun h => Q.Ev.const rfl) (fun h => ?_)
  refine Ev.bind (cents_Add_f (l := l) (by omega)) ?_
  obtain ⟨s, e, hse⟩ : ∃ s e, sumS 0 l = (s, e) := ⟨_, _, rfl⟩
  rw [hse]
  rcases sumS_ok amt0 hse with ⟨rfl, hs⟩ | ⟨rfl, rfl⟩
  · refine Q.Ev.pos rfl ?_
    have := over_l0 (l := l) (by omega) (a := a) hs hse l.length 0 (by omega) (by simp)
    rw [List.drop_length] at this
    rw [wrap_eq (by omega) (by omega)]
    exact this
  · exact Q.Ev.neg (by decide) (Q.Ev.pos rfl (Q.Ev.const rfl))
end Go.Proofs.Ytefhljhpcpajgaa.Pure
