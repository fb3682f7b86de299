-- printed by xprint (the session's own program) out of the translation
import Derived.Test.YtabapiofkipkoaaF
import Derived.Test.YtabapiofkipkoaaF18
import Derived.Test.YtabapiofkipkoaaF19
import Derived.Test.YtabapiofkipkoaaF20
import Derived.Test.YtabapiofkipkoaaF21
import Derived.Test.YtabapiofkipkoaaF22
namespace Go.Proofs.Ytabapiofkipkoaa.F
open Go.RowKit Go.Proofs.YtabapiofkipkoaaX Go.Proofs.YtabapiofkipkoaaW.PrintWords Go.Proofs.YtabapiofkipkoaaW.PrintLast Go.Proofs.YtabapiofkipkoaaW.PrintMore
attribute [local go_sem] max2_int min2_int max_two min_two max_three min_three max_four min_four   -- for this text's walks alone
set_option linter.unusedVariables false
set_option linter.unusedSimpArgs false

/-! ### backhaullaw13_RowsFind: function 3 -/
def backhaullaw13_RowsFind.f (k : Nat) (l0 : List Int) (a1 : Int) : Option (Bool) := if (l0.length : Int) > 300 then ((backhaullaw13_awake.f).bind fun t364 => (if t364 = true then (some true) else (some false))) else ((rows_Find.f k l0 a1).bind fun bt365 => ((backhaulref13_Find.f k l0 a1).bind fun bt367 => ((rows_Rising.f k l0).bind fun t369 => ((backhaulref13_Rising.f k l0).bind fun t370 => (if t369 = t370 then (if bt365.1 = bt367.1 then (if (bt365.2 == bt367.2) = true then ((backhaullaw13_awake.f).bind fun t371 => (if t371 = true then (some true) else (some false))) else (some false)) else (some false)) else (some false))))))
theorem backhaullaw13_RowsFind.mono : ∀ a0 a1 k, LeO (backhaullaw13_RowsFind.f k a0 a1) (backhaullaw13_RowsFind.f (k + 1) a0 a1) := by
  intro a0 a1 k
  unfold backhaullaw13_RowsFind.f
  repeat' first
      | (with_reducible exact backhaulref13_Find.mono _ _ _)
      | (with_reducible exact backhaulref13_Rising.mono _ _)
      | (with_reducible exact rows_Find.mono _ _ _)
      | (with_reducible exact rows_Rising.mono _ _)
      | (with_reducible exact LeO.refl _)
      | (with_reducible exact LeO.none _)
      | (with_reducible refine LeO.ite ?_ ?_)
      | (with_reducible refine LeO.bind ?_ (fun _ => ?_))
      | exact backhaulref13_Find.mono _ _ _
      | exact backhaulref13_Rising.mono _ _
      | exact rows_Find.mono _ _ _
      | exact rows_Rising.mono _ _
      | exact LeO.none _
      | refine LeO.ite ?_ ?_
      | refine LeO.bind ?_ (fun _ => ?_)
set_option maxHeartbeats 8000000 in
set_option maxRecDepth 100000 in
theorem backhaullaw13_RowsFind.calls (k : Nat) (A0 : Option Addr) (c0 : Nat) (l0 : List Int) (a1 : Int) (w : World) (hr0 : Kd.C (Kd.int .i64) w A0 l0.length l0) (hc0 : l0.length ≤ c0) (h : backhaullaw13_RowsFind.f k l0 a1 = some true) :
    Calls Try.prog 3 #[.slice A0 l0.length c0, .int .i64 a1] w fun e w' => e = .returned (.bool true) ∧ Below w.heap.size w w' := by
  have HR0 := Aside0.mk hr0
  have HC0 := Aside0.mk hc0
  clear hr0 hc0
  have HB := Aside0.mk (Below.refl w.heap.size w)
  have H : (if (l0.length : Int) > 300 then ((backhaullaw13_awake.f).bind fun t364 => (if t364 = true then (some true) else (some false))) else ((rows_Find.f k l0 a1).bind fun bt365 => ((backhaulref13_Find.f k l0 a1).bind fun bt367 => ((rows_Rising.f k l0).bind fun t369 => ((backhaulref13_Rising.f k l0).bind fun t370 => (if t369 = t370 then (if bt365.1 = bt367.1 then (if (bt365.2 == bt367.2) = true then ((backhaullaw13_awake.f).bind fun t371 => (if t371 = true then (some true) else (some false))) else (some false)) else (some false)) else (some false))))))) = some true := h
  clear h
  by_cases c3 : (l0.length : Int) > 300
  · rw [if_pos c3] at H
    have c3b0 : decide (300 < (l0.length : Int)) = true := decide_eq_true c3
    have c3b1 : decide (300 < l0.length) = true := decide_eq_true (by omega)
    clear c3
    replace H := Option.bind_eq_some_iff.mp H
    obtain ⟨t364, A40, H⟩ := H
    replace H : (if t364 = true then (some true) else (some false)) = some true := H
    have A4 := Aside0.mk A40
    clear A40
    by_cases c5 : t364 = true
    · subst c5
      have H1 : (some true) = some true := by first | (rw [if_pos rfl] at H; exact H) | rfl
      clear H
      have H := H1
      clear H1
      clear H
      go_enter Try.func3, Try.ntmps3
      go_wp2_with (first | ((with_reducible refine gate_callee (f := 18) rfl ?_); refine goesL_ (some 12) rfl rfl Try.func18 (by kernel_rfl) rfl #[] rfl (by (try simp only [List.map_toArray, List.map_cons, List.map_nil]); first | done | rfl | (simp only [List.length_drop, List.length_take]; rfl)) ?_; (with_reducible refine (backhaullaw13_awake.calls  true _ A4.out).mono ?_); rintro e w6 ⟨rfl, hb⟩; refine ⟨_, rfl, ?_⟩; have n0_ := Aside0.mk (below_step (by repeat (first | (with_reducible first | exact HB.out | apply below_alloc | apply pw_below_drewN | apply below_drew1) | exact HB.out)) hb); clear HB; have HB := n0_; clear n0_; (try clear hb); (try clear hb2); (try clear hk); (try clear hi)))
      go_ret
      exact ⟨by first | rfl | (simp [errW_none, errW_some] <;> rfl) | (simp [*, errW_none, errW_some] <;> rfl), by repeat (first | (with_reducible first | exact HB.out | apply below_alloc | apply pw_below_drewN | apply below_drew1) | exact HB.out)⟩
    · replace c5 := Bool.eq_false_iff.mpr c5
      subst c5
      have H1 : (some false) = some true := by first | (rw [if_neg (show ¬ (false = true) by decide)] at H; exact H) | rfl
      clear H
      have H := H1
      clear H1
      exact absurd H (by simp)
  · rw [if_neg c3] at H
    have c3b0 : decide (300 < (l0.length : Int)) = false := decide_eq_false c3
    have c3b1 : decide (300 < l0.length) = false := decide_eq_false (by omega)
    clear c3
    replace H := Option.bind_eq_some_iff.mp H
    obtain ⟨⟨t365, t366⟩, A70, H⟩ := H
    replace H : ((backhaulref13_Find.f k l0 a1).bind fun bt367 => ((rows_Rising.f k l0).bind fun t369 => ((backhaulref13_Rising.f k l0).bind fun t370 => (if t369 = t370 then (if t365 = bt367.1 then (if (t366 == bt367.2) = true then ((backhaullaw13_awake.f).bind fun t371 => (if t371 = true then (some true) else (some false))) else (some false)) else (some false)) else (some false))))) = some true := H
    have A7 := Aside0.mk A70
    clear A70
    replace H := Option.bind_eq_some_iff.mp H
    obtain ⟨⟨t367, t368⟩, A80, H⟩ := H
    replace H : ((rows_Rising.f k l0).bind fun t369 => ((backhaulref13_Rising.f k l0).bind fun t370 => (if t369 = t370 then (if t365 = t367 then (if (t366 == t368) = true then ((backhaullaw13_awake.f).bind fun t371 => (if t371 = true then (some true) else (some false))) else (some false)) else (some false)) else (some false)))) = some true := H
    have A8 := Aside0.mk A80
    clear A80
    replace H := Option.bind_eq_some_iff.mp H
    obtain ⟨t369, A90, H⟩ := H
    replace H : ((backhaulref13_Rising.f k l0).bind fun t370 => (if t369 = t370 then (if t365 = t367 then (if (t366 == t368) = true then ((backhaullaw13_awake.f).bind fun t371 => (if t371 = true then (some true) else (some false))) else (some false)) else (some false)) else (some false))) = some true := H
    have A9 := Aside0.mk A90
    clear A90
    replace H := Option.bind_eq_some_iff.mp H
    obtain ⟨t370, A100, H⟩ := H
    replace H : (if t369 = t370 then (if t365 = t367 then (if (t366 == t368) = true then ((backhaullaw13_awake.f).bind fun t371 => (if t371 = true then (some true) else (some false))) else (some false)) else (some false)) else (some false)) = some true := H
    have A10 := Aside0.mk A100
    clear A100
    by_cases c11 : t369 = t370
    · rw [if_pos c11] at H
      have c11b0 : (t369 == t370) = true := beq_iff_eq.mpr c11
      have c11b1 : (t369 != t370) = false := bne_eq_false_iff_eq.mpr c11
      clear c11
      by_cases c12 : t365 = t367
      · rw [if_pos c12] at H
        have c12b0 : (t365 == t367) = true := beq_iff_eq.mpr c12
        have c12b1 : (t365 != t367) = false := bne_eq_false_iff_eq.mpr c12
        clear c12
        by_cases c13 : (t366 == t368) = true
        · rw [if_pos c13] at H
          have c13b0 : (t366 == t368) = true := c13
          (try (have c13b1 : decide (t366 = t368) = true := by simpa using c13))
          (try (have c13b2 : (t366 == t368) = true := by simpa using c13))
          clear c13
          replace H := Option.bind_eq_some_iff.mp H
          obtain ⟨t371, A140, H⟩ := H
          replace H : (if t371 = true then (some true) else (some false)) = some true := H
          have A14 := Aside0.mk A140
          clear A140
          by_cases c15 : t371 = true
          · subst c15
            have H1 : (some true) = some true := by first | (rw [if_pos rfl] at H; exact H) | rfl
            clear H
            have H := H1
            clear H1
            clear H
            go_enter Try.func3, Try.ntmps3
            go_wp2_with (first | ((with_reducible refine gate_callee (f := 19) rfl ?_); refine goesL_ (some 16) rfl rfl Try.func19 (by kernel_rfl) rfl #[.slice A0 l0.length c0, .int .i64 a1] rfl (by (try simp only [List.map_toArray, List.map_cons, List.map_nil]); first | done | rfl | (simp only [List.length_drop, List.length_take]; rfl)) ?_; (with_reducible refine (rows_Find.calls k _ _ l0 a1 t365 t366 _ ?side1 ?side2 A7.out).mono ?_); (case side1 => repeat (first | exact HR0.out | (with_reducible refine Kd.C_alloc ?_ _) | (with_reducible refine Kd.C_drewN ?_ _) | (with_reducible refine Kd.C_drew ?_))); (case side2 => exact HC0.out); rintro e w' ⟨rfl, ⟨nd, rfl⟩⟩; refine ⟨_, rfl, ?_⟩) | ((with_reducible refine gate_callee (f := 20) rfl ?_); refine goesL_ (some 22) rfl rfl Try.func20 (by kernel_rfl) rfl #[.slice A0 l0.length c0, .int .i64 a1] rfl (by (try simp only [List.map_toArray, List.map_cons, List.map_nil]); first | done | rfl | (simp only [List.length_drop, List.length_take]; rfl)) ?_; (with_reducible refine (backhaulref13_Find.calls k _ _ l0 a1 t367 t368 _ ?side1 ?side2 A8.out).mono ?_); (case side1 => repeat (first | exact HR0.out | (with_reducible refine Kd.C_alloc ?_ _) | (with_reducible refine Kd.C_drewN ?_ _) | (with_reducible refine Kd.C_drew ?_))); (case side2 => exact HC0.out); rintro e w' ⟨rfl, ⟨nd, rfl⟩⟩; refine ⟨_, rfl, ?_⟩) | ((with_reducible refine gate_callee (f := 21) rfl ?_); refine goesL_ (some 26) rfl rfl Try.func21 (by kernel_rfl) rfl #[.slice A0 l0.length c0] rfl (by (try simp only [List.map_toArray, List.map_cons, List.map_nil]); first | done | rfl | (simp only [List.length_drop, List.length_take]; rfl)) ?_; (with_reducible refine (rows_Rising.calls k _ _ l0 t369 _ ?side1 ?side2 A9.out).mono ?_); (case side1 => repeat (first | exact HR0.out | (with_reducible refine Kd.C_alloc ?_ _) | (with_reducible refine Kd.C_drewN ?_ _) | (with_reducible refine Kd.C_drew ?_))); (case side2 => exact HC0.out); rintro e w' ⟨rfl, ⟨nd, rfl⟩⟩; refine ⟨_, rfl, ?_⟩) | ((with_reducible refine gate_callee (f := 22) rfl ?_); refine goesL_ (some 28) rfl rfl Try.func22 (by kernel_rfl) rfl #[.slice A0 l0.length c0] rfl (by (try simp only [List.map_toArray, List.map_cons, List.map_nil]); first | done | rfl | (simp only [List.length_drop, List.length_take]; rfl)) ?_; (with_reducible refine (backhaulref13_Rising.calls k _ _ l0 t370 _ ?side1 ?side2 A10.out).mono ?_); (case side1 => repeat (first | exact HR0.out | (with_reducible refine Kd.C_alloc ?_ _) | (with_reducible refine Kd.C_drewN ?_ _) | (with_reducible refine Kd.C_drew ?_))); (case side2 => exact HC0.out); rintro e w' ⟨rfl, ⟨nd, rfl⟩⟩; refine ⟨_, rfl, ?_⟩) | (go_at_call 18; (with_reducible refine (backhaullaw13_awake.calls  true _ A14.out).mono ?_); rintro e w16 ⟨rfl, hb⟩; have n0_ := Aside0.mk (below_step (by repeat (first | (with_reducible first | exact HB.out | apply below_alloc | apply pw_below_drewN | apply below_drew1) | exact HB.out)) hb); clear HB; have HB := n0_; clear n0_; (try clear hb); (try clear hb2); (try clear hk); (try clear hi)))
            go_ret
            exact ⟨by first | rfl | (simp [errW_none, errW_some] <;> rfl) | (simp [*, errW_none, errW_some] <;> rfl), by repeat (first | (with_reducible first | exact HB.out | apply below_alloc | apply pw_below_drewN | apply below_drew1) | exact HB.out)⟩
          · replace c15 := Bool.eq_false_iff.mpr c15
            subst c15
            have H1 : (some false) = some true := by first | (rw [if_neg (show ¬ (false = true) by decide)] at H; exact H) | rfl
            clear H
            have H := H1
            clear H1
            exact absurd H (by simp)
        · rw [if_neg c13] at H
          have c13b0 : (t366 == t368) = false := by simpa using c13
          (try (have c13b1 : decide (t366 = t368) = false := by simpa using c13))
          (try (have c13b2 : (t366 == t368) = false := by simpa using c13))
          (try (have c13b3 : ¬ (t366 = t368) := by simpa using c13))
          clear c13
          exact absurd H (by simp)
      · rw [if_neg c12] at H
        have c12b0 : (t365 == t367) = false := beq_eq_false_iff_ne.mpr c12
        have c12b1 : (t365 != t367) = true := bne_iff_ne.mpr c12
        exact absurd H (by simp)
    · rw [if_neg c11] at H
      have c11b0 : (t369 == t370) = false := beq_eq_false_iff_ne.mpr c11
      have c11b1 : (t369 != t370) = true := bne_iff_ne.mpr c11
      exact absurd H (by simp)

/-- THE ONE PURE STATEMENT of backhaullaw13_RowsFind: yours. -/
def backhaullaw13_RowsFind.Pure : Prop := ∀ (l0 : List Int) (a1 : Int), l0.length ≤ maxLen → l0.length * 8 ≤ 140737488351232 → (∀ x ∈ l0, (Lit.int .i64 x).wf = true) → (Lit.int .i64 a1).wf = true → ∃ k, backhaullaw13_RowsFind.f k l0 a1 = some true
theorem backhaullaw13_RowsFind.walk (P : backhaullaw13_RowsFind.Pure) (a0 : Option Addr) (len0 cap0 : Nat) (z0 : List Int) (a1 : Int) (w : World) (w0 : (a0 = none ∧ len0 = 0 ∧ cap0 = 0 ∧ z0 = []) ∨ ∃ x, a0 = some x ∧ len0 ≤ cap0 ∧ cap0 ≤ maxLen ∧ z0.length = cap0 ∧ (∀ i, i < z0.length → w.cell? (x.add i) = some (.int .i64 (z0.getD i 0))) ∧ ∀ n ∈ z0, (Lit.int .i64 n).wf = true) (y0 : len0 * 8 ≤ 140737488351232) (w1 : (Lit.int .i64 a1).wf = true) :
    Calls Try.prog 3 #[.slice a0 len0 cap0, .int .i64 a1] w fun e w' => e = .returned (.bool true) ∧ Below w.heap.size w w' := by
  obtain ⟨l0, rfl, hr0, hm0, hw0, hc0⟩ := ReadsInt.ofRowC w0
  obtain ⟨k, h⟩ := P l0 a1 hm0 y0 hw0 w1
  refine (backhaullaw13_RowsFind.calls k _ _ l0 a1 w (Kd.C_of_reads (d := (0 : Int)) (h1 := fun _ => rfl) hr0) hc0 h).mono ?_
  rintro e w' ⟨rfl, hd⟩
  exact ⟨rfl, hd⟩

end Go.Proofs.Ytabapiofkipkoaa.F
