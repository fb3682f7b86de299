-- printed by xprint (the session's own program) out of the translation
import Derived.Test.YtabapiofkipkoaaF
import Derived.Test.YtabapiofkipkoaaF18
import Derived.Test.YtabapiofkipkoaaF19
import Derived.Test.YtabapiofkipkoaaF21
import Derived.Test.YtabapiofkipkoaaF33
namespace Go.Proofs.Ytabapiofkipkoaa.F
open Go.RowKit Go.Proofs.YtabapiofkipkoaaX Go.Proofs.YtabapiofkipkoaaW.PrintWords Go.Proofs.YtabapiofkipkoaaW.PrintLast Go.Proofs.YtabapiofkipkoaaW.PrintMore
attribute [local go_sem] max2_int min2_int max_two min_two max_three min_three max_four min_four   -- for this text's walks alone
set_option linter.unusedVariables false
set_option linter.unusedSimpArgs false

/-! ### backhaullaw13_RowsOrder: function 6 -/
def backhaullaw13_RowsOrder.j0 : Nat → List Int → Int → Bool → Option (Bool)
  | 0, _, _, _ => none
  | k + 1, x0, x1, x24 => if x24 = true then ((backhaullaw13_awake.f).bind fun t437 => (if t437 = true then (some true) else (some false))) else ((rows_Find.f k x0 x1).bind fun bt438 => (if bt438.2 = true then (if bt438.1 ≥ 0 then (if bt438.1 < (x0.length : Int) then (if 0 ≤ bt438.1 then (if (rd x0 bt438.1) = x1 then ((backhaullaw13_awake.f).bind fun t441 => (if t441 = true then (some true) else (some false))) else (some false)) else (none)) else (some false)) else (some false)) else ((rows_With_int.f x0 bt438.1 x1).bind fun bt442 => (if bt442.2 = 0 then ((rows_Rising.f k bt442.1).bind fun t446 => (if t446 = 0 then (if (bt442.1.length : Int) = (wrap64 ((x0.length : Int) + 1)) then ((backhaullaw13_awake.f).bind fun t447 => (if t447 = true then (some true) else (some false))) else (some false)) else (some false))) else (some false)))))
def backhaullaw13_RowsOrder.f (k : Nat) (l0 : List Int) (a1 : Int) : Option (Bool) := if (l0.length : Int) > 300 then (backhaullaw13_RowsOrder.j0 k l0 a1 true) else ((rows_Rising.f k l0).bind fun t436 => (if t436 = 0 then (if a1 < 1 then (backhaullaw13_RowsOrder.j0 k l0 a1 true) else (backhaullaw13_RowsOrder.j0 k l0 a1 (decide (a1 > 999999)))) else (backhaullaw13_RowsOrder.j0 k l0 a1 true)))
theorem backhaullaw13_RowsOrder.mono_l : ∀ k, (∀ y0 y1 y2, LeO (backhaullaw13_RowsOrder.j0 k y0 y1 y2) (backhaullaw13_RowsOrder.j0 (k + 1) y0 y1 y2))
  | 0 => fun _ _ _ r h => by simp [backhaullaw13_RowsOrder.j0] at h
  | k + 1 => by
    have ih0 := backhaullaw13_RowsOrder.mono_l k
    · intro y0 y1 y2
      unfold backhaullaw13_RowsOrder.j0
      repeat' first
      | (with_reducible exact ih0 _ _ _)
      | (with_reducible exact rows_Find.mono _ _ _)
      | (with_reducible exact rows_Rising.mono _ _)
      | (with_reducible exact LeO.refl _)
      | (with_reducible exact LeO.none _)
      | (with_reducible refine LeO.ite ?_ ?_)
      | (with_reducible refine LeO.bind ?_ (fun _ => ?_))
      | exact ih0 _ _ _
      | exact rows_Find.mono _ _ _
      | exact rows_Rising.mono _ _
      | exact LeO.none _
      | refine LeO.ite ?_ ?_
      | refine LeO.bind ?_ (fun _ => ?_)
theorem backhaullaw13_RowsOrder.mono : ∀ a0 a1 k, LeO (backhaullaw13_RowsOrder.f k a0 a1) (backhaullaw13_RowsOrder.f (k + 1) a0 a1) := by
  intro a0 a1 k
  have ih0 := backhaullaw13_RowsOrder.mono_l k
  unfold backhaullaw13_RowsOrder.f
  repeat' first
      | (with_reducible exact ih0 _ _ _)
      | (with_reducible exact rows_Find.mono _ _ _)
      | (with_reducible exact rows_Rising.mono _ _)
      | (with_reducible exact LeO.refl _)
      | (with_reducible exact LeO.none _)
      | (with_reducible refine LeO.ite ?_ ?_)
      | (with_reducible refine LeO.bind ?_ (fun _ => ?_))
      | exact ih0 _ _ _
      | exact rows_Find.mono _ _ _
      | exact rows_Rising.mono _ _
      | exact LeO.none _
      | refine LeO.ite ?_ ?_
      | refine LeO.bind ?_ (fun _ => ?_)
set_option maxHeartbeats 8000000 in
set_option maxRecDepth 100000 in
theorem backhaullaw13_RowsOrder.calls (k : Nat) (A0 : Option Addr) (c0 : Nat) (l0 : List Int) (a1 : Int) (w : World) (hr0 : Kd.C (Kd.int .i64) w A0 l0.length l0) (hc0 : l0.length ≤ c0) (h : backhaullaw13_RowsOrder.f k l0 a1 = some true) :
    Calls Try.prog 6 #[.slice A0 l0.length c0, .int .i64 a1] w fun e w' => e = .returned (.bool true) ∧ Below w.heap.size w w' := by
  have HR0 := Aside0.mk hr0
  have HC0 := Aside0.mk hc0
  clear hr0 hc0
  have HB := Aside0.mk (Below.refl w.heap.size w)
  have H : (if (l0.length : Int) > 300 then (backhaullaw13_RowsOrder.j0 k l0 a1 true) else ((rows_Rising.f k l0).bind fun t436 => (if t436 = 0 then (if a1 < 1 then (backhaullaw13_RowsOrder.j0 k l0 a1 true) else (backhaullaw13_RowsOrder.j0 k l0 a1 (decide (a1 > 999999)))) else (backhaullaw13_RowsOrder.j0 k l0 a1 true)))) = some true := h
  clear h
  have HC3 := Aside0.mk H
  clear H
  go_enter Try.func6, Try.ntmps6
  go_upto_region 1 with (fail)
  go_cut [24] (fun v24 wc => ∃ (kq : Nat) (x24_2 : Bool), v24 = .bool x24_2 ∧ Aside0 (backhaullaw13_RowsOrder.j0 kq l0 a1 x24_2 = some true) ∧ Aside0 (kq ≤ k) ∧ Aside0 (Below w.heap.size w wc))
  case first =>
    have H := HC3.out
    clear HC3
    by_cases c4 : (l0.length : Int) > 300
    · rw [if_pos c4] at H
      have c4b0 : decide (300 < (l0.length : Int)) = true := decide_eq_true c4
      have c4b1 : decide (300 < l0.length) = true := decide_eq_true (by omega)
      clear c4
      (first | rw [c4b0] | (simp only [i64_w, i32_w]; rw [c4b0]) | skip)
      have H' := Aside0.mk H
      clear H
      go_wp2
      go_meet
      case rel => exact ⟨_, (true), (by first | rfl | (simp; done) | (simp [*]; done)), H', ⟨by first | omega | exact Nat.le_refl _⟩, ⟨by repeat (first | (with_reducible first | exact HB.out | apply below_alloc | apply pw_below_drewN | apply below_drew1) | exact HB.out)⟩⟩
    · rw [if_neg c4] at H
      have c4b0 : decide (300 < (l0.length : Int)) = false := decide_eq_false c4
      have c4b1 : decide (300 < l0.length) = false := decide_eq_false (by omega)
      clear c4
      (first | rw [c4b0] | (simp only [i64_w, i32_w]; rw [c4b0]) | skip)
      replace H := Option.bind_eq_some_iff.mp H
      obtain ⟨t436, A50, H⟩ := H
      replace H : (if t436 = 0 then (if a1 < 1 then (backhaullaw13_RowsOrder.j0 k l0 a1 true) else (backhaullaw13_RowsOrder.j0 k l0 a1 (decide (a1 > 999999)))) else (backhaullaw13_RowsOrder.j0 k l0 a1 true)) = some true := H
      have A5 := Aside0.mk A50
      clear A50
      by_cases c6 : t436 = 0
      · rw [if_pos c6] at H
        have c6b0 : (t436 == 0) = true := beq_iff_eq.mpr c6
        have c6b1 : (t436 != 0) = false := bne_eq_false_iff_eq.mpr c6
        clear c6
        by_cases c7 : a1 < 1
        · rw [if_pos c7] at H
          have c7b0 : decide (a1 < 1) = true := decide_eq_true c7
          clear c7
          have H' := Aside0.mk H
          clear H
          go_wp2_with (first | (go_at_call 21; (with_reducible refine (rows_Rising.calls k _ _ l0 t436 _ ?side1 ?side2 A5.out).mono ?_); (case side1 => repeat (first | exact (Kd.C_below HR0.out HB.out) | (with_reducible refine Kd.C_alloc ?_ _) | (with_reducible refine Kd.C_drewN ?_ _) | (with_reducible refine Kd.C_drew ?_))); (case side2 => exact HC0.out); rintro e w' ⟨rfl, ⟨nd, rfl⟩⟩))
          go_meet
          case rel => exact ⟨_, (true), (by first | rfl | (simp; done) | (simp [*]; done)), H', ⟨by first | omega | exact Nat.le_refl _⟩, ⟨by repeat (first | (with_reducible first | exact HB.out | apply below_alloc | apply pw_below_drewN | apply below_drew1) | exact HB.out)⟩⟩
        · rw [if_neg c7] at H
          have c7b0 : decide (a1 < 1) = false := decide_eq_false c7
          clear c7
          have H' := Aside0.mk H
          clear H
          go_wp2_with (first | (go_at_call 21; (with_reducible refine (rows_Rising.calls k _ _ l0 t436 _ ?side1 ?side2 A5.out).mono ?_); (case side1 => repeat (first | exact (Kd.C_below HR0.out HB.out) | (with_reducible refine Kd.C_alloc ?_ _) | (with_reducible refine Kd.C_drewN ?_ _) | (with_reducible refine Kd.C_drew ?_))); (case side2 => exact HC0.out); rintro e w' ⟨rfl, ⟨nd, rfl⟩⟩))
          go_meet
          case rel => exact ⟨_, (decide (a1 > 999999)), (by first | rfl | (simp; done) | (simp [*]; done)), H', ⟨by first | omega | exact Nat.le_refl _⟩, ⟨by repeat (first | (with_reducible first | exact HB.out | apply below_alloc | apply pw_below_drewN | apply below_drew1) | exact HB.out)⟩⟩
      · rw [if_neg c6] at H
        have c6b0 : (t436 == 0) = false := beq_eq_false_iff_ne.mpr c6
        have c6b1 : (t436 != 0) = true := bne_iff_ne.mpr c6
        have H' := Aside0.mk H
        clear H
        go_wp2_with (first | (go_at_call 21; (with_reducible refine (rows_Rising.calls k _ _ l0 t436 _ ?side1 ?side2 A5.out).mono ?_); (case side1 => repeat (first | exact (Kd.C_below HR0.out HB.out) | (with_reducible refine Kd.C_alloc ?_ _) | (with_reducible refine Kd.C_drewN ?_ _) | (with_reducible refine Kd.C_drew ?_))); (case side2 => exact HC0.out); rintro e w' ⟨rfl, ⟨nd, rfl⟩⟩))
        go_meet
        case rel => exact ⟨_, (true), (by first | rfl | (simp; done) | (simp [*]; done)), H', ⟨by first | omega | exact Nat.le_refl _⟩, ⟨by repeat (first | (with_reducible first | exact HB.out | apply below_alloc | apply pw_below_drewN | apply below_drew1) | exact HB.out)⟩⟩
  case rest =>
    clear HC3
    try clear p2
    try clear c4
    try clear c4b0
    try clear c4b1
    try clear c6
    try clear c6b0
    try clear c6b1
    try clear c7
    try clear c7b0
    obtain ⟨kq, x24_2, rfl, HA, HJ2, HB⟩ := hcut
    cases kq with
    | zero => exact absurd HA.out (by simp [backhaullaw13_RowsOrder.j0])
    | succ kj2 =>
      have H := HA.out
      clear HA
      simp only [backhaullaw13_RowsOrder.j0] at H
      by_cases c8 : x24_2 = true
      · subst c8
        have H1 : ((backhaullaw13_awake.f).bind fun t437 => (if t437 = true then (some true) else (some false))) = some true := by first | (rw [if_pos rfl] at H; exact H) | rfl
        clear H
        have H := H1
        clear H1
        replace H := Option.bind_eq_some_iff.mp H
        obtain ⟨t437, A90, H⟩ := H
        replace H : (if t437 = true then (some true) else (some false)) = some true := H
        have A9 := Aside0.mk A90
        clear A90
        by_cases c10 : t437 = true
        · subst c10
          have H1 : (some true) = some true := by first | (rw [if_pos rfl] at H; exact H) | rfl
          clear H
          have H := H1
          clear H1
          clear H
          go_wp2_with (first | ((with_reducible refine gate_callee (f := 18) rfl ?_); refine goesL_ (some 25) rfl rfl Try.func18 (by kernel_rfl) rfl #[] rfl (by (try simp only [List.map_toArray, List.map_cons, List.map_nil]); first | done | rfl | (simp only [List.length_drop, List.length_take]; rfl)) ?_; (with_reducible refine (backhaullaw13_awake.calls  true _ A9.out).mono ?_); rintro e w11 ⟨rfl, hb⟩; refine ⟨_, rfl, ?_⟩; have n0_ := Aside0.mk (below_step (by repeat (first | (with_reducible first | exact HB.out | apply below_alloc | apply pw_below_drewN | apply below_drew1) | exact HB.out)) hb); clear HB; have HB := n0_; clear n0_; (try clear hb); (try clear hb2); (try clear hk); (try clear hi)))
          go_ret
          exact ⟨by first | rfl | (simp [errW_none, errW_some] <;> rfl) | (simp [*, errW_none, errW_some] <;> rfl), by repeat (first | (with_reducible first | exact HB.out | apply below_alloc | apply pw_below_drewN | apply below_drew1) | exact HB.out)⟩
        · replace c10 := Bool.eq_false_iff.mpr c10
          subst c10
          have H1 : (some false) = some true := by first | (rw [if_neg (show ¬ (false = true) by decide)] at H; exact H) | rfl
          clear H
          have H := H1
          clear H1
          exact absurd H (by simp)
      · replace c8 := Bool.eq_false_iff.mpr c8
        subst c8
        have H1 : ((rows_Find.f kj2 l0 a1).bind fun bt438 => (if bt438.2 = true then (if bt438.1 ≥ 0 then (if bt438.1 < (l0.length : Int) then (if 0 ≤ bt438.1 then (if (rd l0 bt438.1) = a1 then ((backhaullaw13_awake.f).bind fun t441 => (if t441 = true then (some true) else (some false))) else (some false)) else (none)) else (some false)) else (some false)) else ((rows_With_int.f l0 bt438.1 a1).bind fun bt442 => (if bt442.2 = 0 then ((rows_Rising.f kj2 bt442.1).bind fun t446 => (if t446 = 0 then (if (bt442.1.length : Int) = (wrap64 ((l0.length : Int) + 1)) then ((backhaullaw13_awake.f).bind fun t447 => (if t447 = true then (some true) else (some false))) else (some false)) else (some false))) else (some false))))) = some true := by first | (rw [if_neg (show ¬ (false = true) by decide)] at H; exact H) | rfl
        clear H
        have H := H1
        clear H1
        replace H := Option.bind_eq_some_iff.mp H
        obtain ⟨⟨t438, t439⟩, A120, H⟩ := H
        replace H : (if t439 = true then (if t438 ≥ 0 then (if t438 < (l0.length : Int) then (if 0 ≤ t438 then (if (rd l0 t438) = a1 then ((backhaullaw13_awake.f).bind fun t441 => (if t441 = true then (some true) else (some false))) else (some false)) else (none)) else (some false)) else (some false)) else ((rows_With_int.f l0 t438 a1).bind fun bt442 => (if bt442.2 = 0 then ((rows_Rising.f kj2 bt442.1).bind fun t446 => (if t446 = 0 then (if (bt442.1.length : Int) = (wrap64 ((l0.length : Int) + 1)) then ((backhaullaw13_awake.f).bind fun t447 => (if t447 = true then (some true) else (some false))) else (some false)) else (some false))) else (some false)))) = some true := H
        have A12 := Aside0.mk A120
        clear A120
        by_cases c13 : t439 = true
        · subst c13
          have H1 : (if t438 ≥ 0 then (if t438 < (l0.length : Int) then (if 0 ≤ t438 then (if (rd l0 t438) = a1 then ((backhaullaw13_awake.f).bind fun t441 => (if t441 = true then (some true) else (some false))) else (some false)) else (none)) else (some false)) else (some false)) = some true := by first | (rw [if_pos rfl] at H; exact H) | rfl
          clear H
          have H := H1
          clear H1
          by_cases c14 : t438 ≥ 0
          · rw [if_pos c14] at H
            have c14b0 : decide (0 ≤ t438) = true := decide_eq_true c14
            clear c14
            by_cases c15 : t438 < (l0.length : Int)
            · rw [if_pos c15] at H
              have c15b0 : decide (t438 < (l0.length : Int)) = true := decide_eq_true c15
              clear c15
              by_cases c16 : 0 ≤ t438
              · rw [if_pos c16] at H
                have c16b0 : decide (0 ≤ t438) = true := decide_eq_true c16
                clear c16
                by_cases c17 : (rd l0 t438) = a1
                · rw [if_pos c17] at H
                  have c17b0 : ((rd l0 t438) == a1) = true := beq_iff_eq.mpr c17
                  have c17b1 : ((rd l0 t438) != a1) = false := bne_eq_false_iff_eq.mpr c17
                  clear c17
                  replace H := Option.bind_eq_some_iff.mp H
                  obtain ⟨t441, A180, H⟩ := H
                  replace H : (if t441 = true then (some true) else (some false)) = some true := H
                  have A18 := Aside0.mk A180
                  clear A180
                  by_cases c19 : t441 = true
                  · subst c19
                    have H1 : (some true) = some true := by first | (rw [if_pos rfl] at H; exact H) | rfl
                    clear H
                    have H := H1
                    clear H1
                    clear H
                    go_wp2_with (first | ((with_reducible refine gate_callee (f := 19) rfl ?_); refine goesL_ (some 29) rfl rfl Try.func19 (by kernel_rfl) rfl #[.slice A0 l0.length c0, .int .i64 a1] rfl (by (try simp only [List.map_toArray, List.map_cons, List.map_nil]); first | done | rfl | (simp only [List.length_drop, List.length_take]; rfl)) ?_; (with_reducible refine (rows_Find.calls kj2 _ _ l0 a1 t438 true _ ?side1 ?side2 A12.out).mono ?_); (case side1 => repeat (first | exact (Kd.C_below HR0.out HB.out) | (with_reducible refine Kd.C_alloc ?_ _) | (with_reducible refine Kd.C_drewN ?_ _) | (with_reducible refine Kd.C_drew ?_))); (case side2 => exact HC0.out); rintro e w' ⟨rfl, ⟨nd, rfl⟩⟩; refine ⟨_, rfl, ?_⟩; have p440 : 0 ≤ (t438 : Int) := of_decide_eq_true (by first | (with_reducible assumption) | assumption); have q440 : t438 < (l0.length : Int) := of_decide_eq_true (by first | (with_reducible assumption) | assumption); obtain ⟨ad440, e440, hx440_0⟩ := Kd.at_int HR0.out t438 p440 q440; cases e440; replace hx440_0 := (HB.out.cell (World.block_lt_of_cell? w _ hx440_0)).trans hx440_0; replace p440 := eq_true p440; replace q440 := eq_true q440) | (go_at_call 18; (with_reducible refine (backhaullaw13_awake.calls  true _ A18.out).mono ?_); rintro e w20 ⟨rfl, hb⟩; have n0_ := Aside0.mk (below_step (by repeat (first | (with_reducible first | exact HB.out | apply below_alloc | apply pw_below_drewN | apply below_drew1) | exact HB.out)) hb); clear HB; have HB := n0_; clear n0_; (try clear hb); (try clear hb2); (try clear hk); (try clear hi)))
                    go_ret
                    exact ⟨by first | rfl | (simp [errW_none, errW_some] <;> rfl) | (simp [*, errW_none, errW_some] <;> rfl), by repeat (first | (with_reducible first | exact HB.out | apply below_alloc | apply pw_below_drewN | apply below_drew1) | exact HB.out)⟩
                  · replace c19 := Bool.eq_false_iff.mpr c19
                    subst c19
                    have H1 : (some false) = some true := by first | (rw [if_neg (show ¬ (false = true) by decide)] at H; exact H) | rfl
                    clear H
                    have H := H1
                    clear H1
                    exact absurd H (by simp)
                · rw [if_neg c17] at H
                  have c17b0 : ((rd l0 t438) == a1) = false := beq_eq_false_iff_ne.mpr c17
                  have c17b1 : ((rd l0 t438) != a1) = true := bne_iff_ne.mpr c17
                  exact absurd H (by simp)
              · rw [if_neg c16] at H
                exact absurd H (by simp)
            · rw [if_neg c15] at H
              have c15b0 : decide (t438 < (l0.length : Int)) = false := decide_eq_false c15
              clear c15
              exact absurd H (by simp)
          · rw [if_neg c14] at H
            have c14b0 : decide (0 ≤ t438) = false := decide_eq_false c14
            clear c14
            exact absurd H (by simp)
        · replace c13 := Bool.eq_false_iff.mpr c13
          subst c13
          have H1 : ((rows_With_int.f l0 t438 a1).bind fun bt442 => (if bt442.2 = 0 then ((rows_Rising.f kj2 bt442.1).bind fun t446 => (if t446 = 0 then (if (bt442.1.length : Int) = (wrap64 ((l0.length : Int) + 1)) then ((backhaullaw13_awake.f).bind fun t447 => (if t447 = true then (some true) else (some false))) else (some false)) else (some false))) else (some false))) = some true := by first | (rw [if_neg (show ¬ (false = true) by decide)] at H; exact H) | rfl
          clear H
          have H := H1
          clear H1
          replace H := Option.bind_eq_some_iff.mp H
          obtain ⟨⟨t442, t443⟩, A210, H⟩ := H
          replace H : (if t443 = 0 then ((rows_Rising.f kj2 t442).bind fun t446 => (if t446 = 0 then (if (t442.length : Int) = (wrap64 ((l0.length : Int) + 1)) then ((backhaullaw13_awake.f).bind fun t447 => (if t447 = true then (some true) else (some false))) else (some false)) else (some false))) else (some false)) = some true := H
          have A21 := Aside0.mk A210
          clear A210
          by_cases c22 : t443 = 0
          · rw [if_pos c22] at H
            have c22b0 : (t443 == 0) = true := beq_iff_eq.mpr c22
            have c22b1 : (t443 != 0) = false := bne_eq_false_iff_eq.mpr c22
            clear c22
            replace H := Option.bind_eq_some_iff.mp H
            obtain ⟨t446, A230, H⟩ := H
            replace H : (if t446 = 0 then (if (t442.length : Int) = (wrap64 ((l0.length : Int) + 1)) then ((backhaullaw13_awake.f).bind fun t447 => (if t447 = true then (some true) else (some false))) else (some false)) else (some false)) = some true := H
            have A23 := Aside0.mk A230
            clear A230
            by_cases c24 : t446 = 0
            · rw [if_pos c24] at H
              have c24b0 : (t446 == 0) = true := beq_iff_eq.mpr c24
              have c24b1 : (t446 != 0) = false := bne_eq_false_iff_eq.mpr c24
              clear c24
              by_cases c25 : (t442.length : Int) = (wrap64 ((l0.length : Int) + 1))
              · rw [if_pos c25] at H
                have c25b0 : ((t442.length : Int) == (wrap64 ((l0.length : Int) + 1))) = true := beq_iff_eq.mpr c25
                have c25b1 : ((t442.length : Int) != (wrap64 ((l0.length : Int) + 1))) = false := bne_eq_false_iff_eq.mpr c25
                clear c25
                replace H := Option.bind_eq_some_iff.mp H
                obtain ⟨t447, A260, H⟩ := H
                replace H : (if t447 = true then (some true) else (some false)) = some true := H
                have A26 := Aside0.mk A260
                clear A260
                by_cases c27 : t447 = true
                · subst c27
                  have H1 : (some true) = some true := by first | (rw [if_pos rfl] at H; exact H) | rfl
                  clear H
                  have H := H1
                  clear H1
                  clear H
                  go_wp2_with (first | ((with_reducible refine gate_callee (f := 19) rfl ?_); refine goesL_ (some 29) rfl rfl Try.func19 (by kernel_rfl) rfl #[.slice A0 l0.length c0, .int .i64 a1] rfl (by (try simp only [List.map_toArray, List.map_cons, List.map_nil]); first | done | rfl | (simp only [List.length_drop, List.length_take]; rfl)) ?_; (with_reducible refine (rows_Find.calls kj2 _ _ l0 a1 t438 false _ ?side1 ?side2 A12.out).mono ?_); (case side1 => repeat (first | exact (Kd.C_below HR0.out HB.out) | (with_reducible refine Kd.C_alloc ?_ _) | (with_reducible refine Kd.C_drewN ?_ _) | (with_reducible refine Kd.C_drew ?_))); (case side2 => exact HC0.out); rintro e w' ⟨rfl, ⟨nd, rfl⟩⟩; refine ⟨_, rfl, ?_⟩) | ((with_reducible refine gate_callee (f := 33) rfl ?_); refine goesL_ (some 56) rfl rfl Try.func33 (by kernel_rfl) rfl #[.slice A0 l0.length c0, .int .i64 t438, .int .i64 a1] rfl (by (try simp only [List.map_toArray, List.map_cons, List.map_nil]); first | done | rfl | (simp only [List.length_drop, List.length_take]; rfl)) ?_; (with_reducible refine (rows_With_int.calls _ _ l0 t438 a1 t442 t443 _ ?side1 ?side2 A21.out).mono ?_); (case side1 => repeat (first | exact (Kd.C_below HR0.out (by repeat (first | (with_reducible first | exact HB.out | apply below_alloc | apply pw_below_drewN | apply below_drew1) | exact HB.out))) | (with_reducible refine Kd.C_alloc ?_ _) | (with_reducible refine Kd.C_drewN ?_ _) | (with_reducible refine Kd.C_drew ?_))); (case side2 => exact HC0.out); rintro e w28 ⟨v444, rfl, ho0, hb⟩; refine ⟨_, rfl, ?_⟩; have n0_ := Aside0.mk (Kd.R_lower ho0 (below_size (by repeat (first | (with_reducible first | exact HB.out | apply below_alloc | apply pw_below_drewN | apply below_drew1) | exact HB.out)))); have n1_ := Aside0.mk (below_step (by repeat (first | (with_reducible first | exact HB.out | apply below_alloc | apply pw_below_drewN | apply below_drew1) | exact HB.out)) hb); clear HB; have HO445 := n0_; have HB := n1_; clear n0_ n1_; (try clear hb); (try clear hb2); (try clear hk); (try clear hi); (try clear ho0); obtain ⟨Ao29, co29, eo29⟩ := Kd.R_slice HO445.out; subst eo29) | (go_at_call 21; (with_reducible refine (rows_Rising.calls kj2 _ _ t442 t446 _ ?side1 ?side2 A23.out).mono ?_); (case side1 => repeat (first | exact (Kd.R_reads' HO445.out).2.2 | (with_reducible refine Kd.C_alloc ?_ _) | (with_reducible refine Kd.C_drewN ?_ _) | (with_reducible refine Kd.C_drew ?_))); (case side2 => exact (Kd.R_reads' HO445.out).2.1); rintro e w' ⟨rfl, ⟨nd, rfl⟩⟩) | (go_at_call 18; (with_reducible refine (backhaullaw13_awake.calls  true _ A26.out).mono ?_); rintro e w30 ⟨rfl, hb⟩; have n0_ := Aside0.mk (Kd.R_below (by (with_reducible repeat (first | apply Kd.R_alloc | apply Kd.R_drewN | apply Kd.R_drew)); exact HO445.out) hb); have n1_ := Aside0.mk (below_step (by repeat (first | (with_reducible first | exact HB.out | apply below_alloc | apply pw_below_drewN | apply below_drew1) | exact HB.out)) hb); clear HO445; clear HB; have HO445 := n0_; have HB := n1_; clear n0_ n1_; (try clear hb); (try clear hb2); (try clear hk); (try clear hi)))
                  go_ret
                  exact ⟨by first | rfl | (simp [errW_none, errW_some] <;> rfl) | (simp [*, errW_none, errW_some] <;> rfl), by repeat (first | (with_reducible first | exact HB.out | apply below_alloc | apply pw_below_drewN | apply below_drew1) | exact HB.out)⟩
                · replace c27 := Bool.eq_false_iff.mpr c27
                  subst c27
                  have H1 : (some false) = some true := by first | (rw [if_neg (show ¬ (false = true) by decide)] at H; exact H) | rfl
                  clear H
                  have H := H1
                  clear H1
                  exact absurd H (by simp)
              · rw [if_neg c25] at H
                have c25b0 : ((t442.length : Int) == (wrap64 ((l0.length : Int) + 1))) = false := beq_eq_false_iff_ne.mpr c25
                have c25b1 : ((t442.length : Int) != (wrap64 ((l0.length : Int) + 1))) = true := bne_iff_ne.mpr c25
                exact absurd H (by simp)
            · rw [if_neg c24] at H
              have c24b0 : (t446 == 0) = false := beq_eq_false_iff_ne.mpr c24
              have c24b1 : (t446 != 0) = true := bne_iff_ne.mpr c24
              exact absurd H (by simp)
          · rw [if_neg c22] at H
            have c22b0 : (t443 == 0) = false := beq_eq_false_iff_ne.mpr c22
            have c22b1 : (t443 != 0) = true := bne_iff_ne.mpr c22
            exact absurd H (by simp)

/-- THE ONE PURE STATEMENT of backhaullaw13_RowsOrder: yours. -/
def backhaullaw13_RowsOrder.Pure : Prop := ∀ (l0 : List Int) (a1 : Int), l0.length ≤ maxLen → l0.length * 8 ≤ 140737488351232 → (∀ x ∈ l0, (Lit.int .i64 x).wf = true) → (Lit.int .i64 a1).wf = true → ∃ k, backhaullaw13_RowsOrder.f k l0 a1 = some true
theorem backhaullaw13_RowsOrder.walk (P : backhaullaw13_RowsOrder.Pure) (a0 : Option Addr) (len0 cap0 : Nat) (z0 : List Int) (a1 : Int) (w : World) (w0 : (a0 = none ∧ len0 = 0 ∧ cap0 = 0 ∧ z0 = []) ∨ ∃ x, a0 = some x ∧ len0 ≤ cap0 ∧ cap0 ≤ maxLen ∧ z0.length = cap0 ∧ (∀ i, i < z0.length → w.cell? (x.add i) = some (.int .i64 (z0.getD i 0))) ∧ ∀ n ∈ z0, (Lit.int .i64 n).wf = true) (y0 : len0 * 8 ≤ 140737488351232) (w1 : (Lit.int .i64 a1).wf = true) :
    Calls Try.prog 6 #[.slice a0 len0 cap0, .int .i64 a1] w fun e w' => e = .returned (.bool true) ∧ Below w.heap.size w w' := by
  obtain ⟨l0, rfl, hr0, hm0, hw0, hc0⟩ := ReadsInt.ofRowC w0
  obtain ⟨k, h⟩ := P l0 a1 hm0 y0 hw0 w1
  refine (backhaullaw13_RowsOrder.calls k _ _ l0 a1 w (Kd.C_of_reads (d := (0 : Int)) (h1 := fun _ => rfl) hr0) hc0 h).mono ?_
  rintro e w' ⟨rfl, hd⟩
  exact ⟨rfl, hd⟩

end Go.Proofs.Ytabapiofkipkoaa.F
