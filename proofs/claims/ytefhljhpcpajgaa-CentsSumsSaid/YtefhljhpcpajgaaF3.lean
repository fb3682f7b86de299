-- printed by xprint (the session's own program) out of the translation
import Derived.Test.YtefhljhpcpajgaaF
import Derived.Test.YtefhljhpcpajgaaF24
import Derived.Test.YtefhljhpcpajgaaF25
import Derived.Test.YtefhljhpcpajgaaF26
import Derived.Test.YtefhljhpcpajgaaF27
import Derived.Test.YtefhljhpcpajgaaF28
import Derived.Test.YtefhljhpcpajgaaF29
import Derived.Test.YtefhljhpcpajgaaF30
import Derived.Test.YtefhljhpcpajgaaF31
import Derived.Test.YtefhljhpcpajgaaF32
namespace Go.Proofs.Ytefhljhpcpajgaa.F
open Go.RowKit Go.Proofs.YtefhljhpcpajgaaX Go.Proofs.YtefhljhpcpajgaaW.PrintWords Go.Proofs.YtefhljhpcpajgaaW.PrintLast Go.Proofs.YtefhljhpcpajgaaW.PrintMore
attribute [local go_sem] max2_int min2_int max_two min_two max_three min_three max_four min_four   -- for this text's walks alone
set_option linter.unusedVariables false
set_option linter.unusedSimpArgs false

/-! ### backhaullaw02_CentsSums: function 3 -/
def backhaullaw02_CentsSums.f (k : Nat) (l0 : List Int) (a1 : Int) (a2 : Int) : Option (Bool) := if (l0.length : Int) > 1000 then ((backhaullaw02_awake.f).bind fun t176 => (if t176 = true then (some true) else (some false))) else ((cents_Add.f k l0).bind fun bt177 => ((backhaulref02_Add.f k l0).bind fun bt179 => ((cents_Sub.f a1 a2).bind fun bt181 => ((backhaulref02_Sub.f a1 a2).bind fun bt183 => ((cents_Times.f a1 a2).bind fun bt185 => ((backhaulref02_Times.f k a1 a2).bind fun bt187 => (if bt177.1 = bt179.1 then (if bt177.2 = bt179.2 then (if bt181.1 = bt183.1 then (if bt181.2 = bt183.2 then (if bt185.1 = bt187.1 then (if bt185.2 = bt187.2 then ((cents_In.f a1).bind fun t189 => ((backhaulref02_In.f a1).bind fun t190 => (if (t189 == t190) = true then ((backhaullaw02_awake.f).bind fun t191 => (if t191 = true then (some true) else (some false))) else (some false)))) else (some false)) else (some false)) else (some false)) else (some false)) else (some false)) else (some false))))))))
theorem backhaullaw02_CentsSums.mono : ∀ a0 a1 a2 k, LeO (backhaullaw02_CentsSums.f k a0 a1 a2) (backhaullaw02_CentsSums.f (k + 1) a0 a1 a2) := by
  intro a0 a1 a2 k
  unfold backhaullaw02_CentsSums.f
  repeat' first
      | (with_reducible exact backhaulref02_Add.mono _ _)
      | (with_reducible exact backhaulref02_Times.mono _ _ _)
      | (with_reducible exact cents_Add.mono _ _)
      | (with_reducible exact LeO.refl _)
      | (with_reducible exact LeO.none _)
      | (with_reducible refine LeO.ite ?_ ?_)
      | (with_reducible refine LeO.bind ?_ (fun _ => ?_))
      | exact backhaulref02_Add.mono _ _
      | exact backhaulref02_Times.mono _ _ _
      | exact cents_Add.mono _ _
      | exact LeO.none _
      | refine LeO.ite ?_ ?_
      | refine LeO.bind ?_ (fun _ => ?_)
set_option maxHeartbeats 8000000 in
set_option maxRecDepth 100000 in
theorem backhaullaw02_CentsSums.calls (k : Nat) (A0 : Option Addr) (c0 : Nat) (l0 : List Int) (a1 : Int) (a2 : Int) (w : World) (hr0 : Kd.C (Kd.int .i64) w A0 l0.length l0) (hc0 : l0.length ≤ c0) (h : backhaullaw02_CentsSums.f k l0 a1 a2 = some true) :
    Calls Try.prog 3 #[.slice A0 l0.length c0, .int .i64 a1, .int .i64 a2] w fun e w' => e = .returned (.bool true) ∧ Below w.heap.size w w' := by
  have HR0 := Aside0.mk hr0
  have HC0 := Aside0.mk hc0
  clear hr0 hc0
  have HB := Aside0.mk (Below.refl w.heap.size w)
  have H : (if (l0.length : Int) > 1000 then ((backhaullaw02_awake.f).bind fun t176 => (if t176 = true then (some true) else (some false))) else ((cents_Add.f k l0).bind fun bt177 => ((backhaulref02_Add.f k l0).bind fun bt179 => ((cents_Sub.f a1 a2).bind fun bt181 => ((backhaulref02_Sub.f a1 a2).bind fun bt183 => ((cents_Times.f a1 a2).bind fun bt185 => ((backhaulref02_Times.f k a1 a2).bind fun bt187 => (if bt177.1 = bt179.1 then (if bt177.2 = bt179.2 then (if bt181.1 = bt183.1 then (if bt181.2 = bt183.2 then (if bt185.1 = bt187.1 then (if bt185.2 = bt187.2 then ((cents_In.f a1).bind fun t189 => ((backhaulref02_In.f a1).bind fun t190 => (if (t189 == t190) = true then ((backhaullaw02_awake.f).bind fun t191 => (if t191 = true then (some true) else (some false))) else (some false)))) else (some false)) else (some false)) else (some false)) else (some false)) else (some false)) else (some false))))))))) = some true := h
  clear h
  by_cases c4 : (l0.length : Int) > 1000
  · rw [if_pos c4] at H
    have c4b0 : decide (1000 < (l0.length : Int)) = true := decide_eq_true c4
    have c4b1 : decide (1000 < l0.length) = true := decide_eq_true (by omega)
    clear c4
    replace H := Option.bind_eq_some_iff.mp H
    obtain ⟨t176, A50, H⟩ := H
    replace H : (if t176 = true then (some true) else (some false)) = some true := H
    have A5 := Aside0.mk A50
    clear A50
    by_cases c6 : t176 = true
    · subst c6
      have H1 : (some true) = some true := by first | (rw [if_pos rfl] at H; exact H) | rfl
      clear H
      have H := H1
      clear H1
      clear H
      go_enter Try.func3, Try.ntmps3
      go_wp2_with (first | ((with_reducible refine gate_callee (f := 24) rfl ?_); refine goesL_ (some 22) rfl rfl Try.func24 (by kernel_rfl) rfl #[] rfl (by (try simp only [List.map_toArray, List.map_cons, List.map_nil]); first | done | rfl | (simp only [List.length_drop, List.length_take]; rfl)) ?_; (with_reducible refine (backhaullaw02_awake.calls  true _ A5.out).mono ?_); rintro e w7 ⟨rfl, hb⟩; refine ⟨_, rfl, ?_⟩; have n0_ := Aside0.mk (below_step (by repeat (first | (with_reducible first | exact HB.out | apply below_alloc | apply pw_below_drewN | apply below_drew1) | exact HB.out)) hb); clear HB; have HB := n0_; clear n0_; (try clear hb); (try clear hb2); (try clear hk); (try clear hi)))
      go_ret
      exact ⟨by first | rfl | (simp [errW_none, errW_some] <;> rfl) | (simp [*, errW_none, errW_some] <;> rfl), by repeat (first | (with_reducible first | exact HB.out | apply below_alloc | apply pw_below_drewN | apply below_drew1) | exact HB.out)⟩
    · replace c6 := Bool.eq_false_iff.mpr c6
      subst c6
      have H1 : (some false) = some true := by first | (rw [if_neg (show ¬ (false = true) by decide)] at H; exact H) | rfl
      clear H
      have H := H1
      clear H1
      exact absurd H (by simp)
  · rw [if_neg c4] at H
    have c4b0 : decide (1000 < (l0.length : Int)) = false := decide_eq_false c4
    have c4b1 : decide (1000 < l0.length) = false := decide_eq_false (by omega)
    clear c4
    replace H := Option.bind_eq_some_iff.mp H
    obtain ⟨⟨t177, t178⟩, A80, H⟩ := H
    replace H : ((backhaulref02_Add.f k l0).bind fun bt179 => ((cents_Sub.f a1 a2).bind fun bt181 => ((backhaulref02_Sub.f a1 a2).bind fun bt183 => ((cents_Times.f a1 a2).bind fun bt185 => ((backhaulref02_Times.f k a1 a2).bind fun bt187 => (if t177 = bt179.1 then (if t178 = bt179.2 then (if bt181.1 = bt183.1 then (if bt181.2 = bt183.2 then (if bt185.1 = bt187.1 then (if bt185.2 = bt187.2 then ((cents_In.f a1).bind fun t189 => ((backhaulref02_In.f a1).bind fun t190 => (if (t189 == t190) = true then ((backhaullaw02_awake.f).bind fun t191 => (if t191 = true then (some true) else (some false))) else (some false)))) else (some false)) else (some false)) else (some false)) else (some false)) else (some false)) else (some false))))))) = some true := H
    have A8 := Aside0.mk A80
    clear A80
    replace H := Option.bind_eq_some_iff.mp H
    obtain ⟨⟨t179, t180⟩, A90, H⟩ := H
    replace H : ((cents_Sub.f a1 a2).bind fun bt181 => ((backhaulref02_Sub.f a1 a2).bind fun bt183 => ((cents_Times.f a1 a2).bind fun bt185 => ((backhaulref02_Times.f k a1 a2).bind fun bt187 => (if t177 = t179 then (if t178 = t180 then (if bt181.1 = bt183.1 then (if bt181.2 = bt183.2 then (if bt185.1 = bt187.1 then (if bt185.2 = bt187.2 then ((cents_In.f a1).bind fun t189 => ((backhaulref02_In.f a1).bind fun t190 => (if (t189 == t190) = true then ((backhaullaw02_awake.f).bind fun t191 => (if t191 = true then (some true) else (some false))) else (some false)))) else (some false)) else (some false)) else (some false)) else (some false)) else (some false)) else (some false)))))) = some true := H
    have A9 := Aside0.mk A90
    clear A90
    replace H := Option.bind_eq_some_iff.mp H
    obtain ⟨⟨t181, t182⟩, A100, H⟩ := H
    replace H : ((backhaulref02_Sub.f a1 a2).bind fun bt183 => ((cents_Times.f a1 a2).bind fun bt185 => ((backhaulref02_Times.f k a1 a2).bind fun bt187 => (if t177 = t179 then (if t178 = t180 then (if t181 = bt183.1 then (if t182 = bt183.2 then (if bt185.1 = bt187.1 then (if bt185.2 = bt187.2 then ((cents_In.f a1).bind fun t189 => ((backhaulref02_In.f a1).bind fun t190 => (if (t189 == t190) = true then ((backhaullaw02_awake.f).bind fun t191 => (if t191 = true then (some true) else (some false))) else (some false)))) else (some false)) else (some false)) else (some false)) else (some false)) else (some false)) else (some false))))) = some true := H
    have A10 := Aside0.mk A100
    clear A100
    replace H := Option.bind_eq_some_iff.mp H
    obtain ⟨⟨t183, t184⟩, A110, H⟩ := H
    replace H : ((cents_Times.f a1 a2).bind fun bt185 => ((backhaulref02_Times.f k a1 a2).bind fun bt187 => (if t177 = t179 then (if t178 = t180 then (if t181 = t183 then (if t182 = t184 then (if bt185.1 = bt187.1 then (if bt185.2 = bt187.2 then ((cents_In.f a1).bind fun t189 => ((backhaulref02_In.f a1).bind fun t190 => (if (t189 == t190) = true then ((backhaullaw02_awake.f).bind fun t191 => (if t191 = true then (some true) else (some false))) else (some false)))) else (some false)) else (some false)) else (some false)) else (some false)) else (some false)) else (some false)))) = some true := H
    have A11 := Aside0.mk A110
    clear A110
    replace H := Option.bind_eq_some_iff.mp H
    obtain ⟨⟨t185, t186⟩, A120, H⟩ := H
    replace H : ((backhaulref02_Times.f k a1 a2).bind fun bt187 => (if t177 = t179 then (if t178 = t180 then (if t181 = t183 then (if t182 = t184 then (if t185 = bt187.1 then (if t186 = bt187.2 then ((cents_In.f a1).bind fun t189 => ((backhaulref02_In.f a1).bind fun t190 => (if (t189 == t190) = true then ((backhaullaw02_awake.f).bind fun t191 => (if t191 = true then (some true) else (some false))) else (some false)))) else (some false)) else (some false)) else (some false)) else (some false)) else (some false)) else (some false))) = some true := H
    have A12 := Aside0.mk A120
    clear A120
    replace H := Option.bind_eq_some_iff.mp H
    obtain ⟨⟨t187, t188⟩, A130, H⟩ := H
    replace H : (if t177 = t179 then (if t178 = t180 then (if t181 = t183 then (if t182 = t184 then (if t185 = t187 then (if t186 = t188 then ((cents_In.f a1).bind fun t189 => ((backhaulref02_In.f a1).bind fun t190 => (if (t189 == t190) = true then ((backhaullaw02_awake.f).bind fun t191 => (if t191 = true then (some true) else (some false))) else (some false)))) else (some false)) else (some false)) else (some false)) else (some false)) else (some false)) else (some false)) = some true := H
    have A13 := Aside0.mk A130
    clear A130
    by_cases c14 : t177 = t179
    · rw [if_pos c14] at H
      have c14b0 : (t177 == t179) = true := beq_iff_eq.mpr c14
      have c14b1 : (t177 != t179) = false := bne_eq_false_iff_eq.mpr c14
      clear c14
      by_cases c15 : t178 = t180
      · rw [if_pos c15] at H
        have c15b0 : (t178 == t180) = true := beq_iff_eq.mpr c15
        have c15b1 : (t178 != t180) = false := bne_eq_false_iff_eq.mpr c15
        clear c15
        by_cases c16 : t181 = t183
        · rw [if_pos c16] at H
          have c16b0 : (t181 == t183) = true := beq_iff_eq.mpr c16
          have c16b1 : (t181 != t183) = false := bne_eq_false_iff_eq.mpr c16
          clear c16
          by_cases c17 : t182 = t184
          · rw [if_pos c17] at H
            have c17b0 : (t182 == t184) = true := beq_iff_eq.mpr c17
            have c17b1 : (t182 != t184) = false := bne_eq_false_iff_eq.mpr c17
            clear c17
            by_cases c18 : t185 = t187
            · rw [if_pos c18] at H
              have c18b0 : (t185 == t187) = true := beq_iff_eq.mpr c18
              have c18b1 : (t185 != t187) = false := bne_eq_false_iff_eq.mpr c18
              clear c18
              by_cases c19 : t186 = t188
              · rw [if_pos c19] at H
                have c19b0 : (t186 == t188) = true := beq_iff_eq.mpr c19
                have c19b1 : (t186 != t188) = false := bne_eq_false_iff_eq.mpr c19
                clear c19
                replace H := Option.bind_eq_some_iff.mp H
                obtain ⟨t189, A200, H⟩ := H
                replace H : ((backhaulref02_In.f a1).bind fun t190 => (if (t189 == t190) = true then ((backhaullaw02_awake.f).bind fun t191 => (if t191 = true then (some true) else (some false))) else (some false))) = some true := H
                have A20 := Aside0.mk A200
                clear A200
                replace H := Option.bind_eq_some_iff.mp H
                obtain ⟨t190, A210, H⟩ := H
                replace H : (if (t189 == t190) = true then ((backhaullaw02_awake.f).bind fun t191 => (if t191 = true then (some true) else (some false))) else (some false)) = some true := H
                have A21 := Aside0.mk A210
                clear A210
                by_cases c22 : (t189 == t190) = true
                · rw [if_pos c22] at H
                  have c22b0 : (t189 == t190) = true := c22
                  (try (have c22b1 : decide (t189 = t190) = true := by simpa using c22))
                  (try (have c22b2 : (t189 == t190) = true := by simpa using c22))
                  clear c22
                  replace H := Option.bind_eq_some_iff.mp H
                  obtain ⟨t191, A230, H⟩ := H
                  replace H : (if t191 = true then (some true) else (some false)) = some true := H
                  have A23 := Aside0.mk A230
                  clear A230
                  by_cases c24 : t191 = true
                  · subst c24
                    have H1 : (some true) = some true := by first | (rw [if_pos rfl] at H; exact H) | rfl
                    clear H
                    have H := H1
                    clear H1
                    clear H
                    go_enter Try.func3, Try.ntmps3
                    go_wp2_with (first | ((with_reducible refine gate_callee (f := 25) rfl ?_); refine goesL_ (some 25) rfl rfl Try.func25 (by kernel_rfl) rfl #[.slice A0 l0.length c0] rfl (by (try simp only [List.map_toArray, List.map_cons, List.map_nil]); first | done | rfl | (simp only [List.length_drop, List.length_take]; rfl)) ?_; (with_reducible refine (cents_Add.calls k _ _ l0 t177 t178 _ ?side1 ?side2 A8.out).mono ?_); (case side1 => repeat (first | exact HR0.out | (with_reducible refine Kd.C_alloc ?_ _) | (with_reducible refine Kd.C_drewN ?_ _) | (with_reducible refine Kd.C_drew ?_))); (case side2 => exact HC0.out); rintro e w' ⟨rfl, ⟨nd, rfl⟩⟩; refine ⟨_, rfl, ?_⟩) | ((with_reducible refine gate_callee (f := 26) rfl ?_); refine goesL_ (some 30) rfl rfl Try.func26 (by kernel_rfl) rfl #[.slice A0 l0.length c0] rfl (by (try simp only [List.map_toArray, List.map_cons, List.map_nil]); first | done | rfl | (simp only [List.length_drop, List.length_take]; rfl)) ?_; (with_reducible refine (backhaulref02_Add.calls k _ _ l0 t179 t180 _ ?side1 ?side2 A9.out).mono ?_); (case side1 => repeat (first | exact HR0.out | (with_reducible refine Kd.C_alloc ?_ _) | (with_reducible refine Kd.C_drewN ?_ _) | (with_reducible refine Kd.C_drew ?_))); (case side2 => exact HC0.out); rintro e w' ⟨rfl, ⟨nd, rfl⟩⟩; refine ⟨_, rfl, ?_⟩) | ((with_reducible refine gate_callee (f := 27) rfl ?_); refine goesL_ (some 36) rfl rfl Try.func27 (by kernel_rfl) rfl #[.int .i64 a1, .int .i64 a2] rfl (by (try simp only [List.map_toArray, List.map_cons, List.map_nil]); first | done | rfl | (simp only [List.length_drop, List.length_take]; rfl)) ?_; (with_reducible refine (cents_Sub.calls a1 a2 t181 t182 _ A10.out).mono ?_); rintro e w' ⟨rfl, ⟨nd, rfl⟩⟩; refine ⟨_, rfl, ?_⟩) | ((with_reducible refine gate_callee (f := 28) rfl ?_); refine goesL_ (some 42) rfl rfl Try.func28 (by kernel_rfl) rfl #[.int .i64 a1, .int .i64 a2] rfl (by (try simp only [List.map_toArray, List.map_cons, List.map_nil]); first | done | rfl | (simp only [List.length_drop, List.length_take]; rfl)) ?_; (with_reducible refine (backhaulref02_Sub.calls a1 a2 t183 t184 _ A11.out).mono ?_); rintro e w' ⟨rfl, ⟨nd, rfl⟩⟩; refine ⟨_, rfl, ?_⟩) | ((with_reducible refine gate_callee (f := 29) rfl ?_); refine goesL_ (some 48) rfl rfl Try.func29 (by kernel_rfl) rfl #[.int .i64 a1, .int .i64 a2] rfl (by (try simp only [List.map_toArray, List.map_cons, List.map_nil]); first | done | rfl | (simp only [List.length_drop, List.length_take]; rfl)) ?_; (with_reducible refine (cents_Times.calls a1 a2 t185 t186 _ A12.out).mono ?_); rintro e w25 ⟨rfl, hb⟩; refine ⟨_, rfl, ?_⟩; have n0_ := Aside0.mk (below_step (by repeat (first | (with_reducible first | exact HB.out | apply below_alloc | apply pw_below_drewN | apply below_drew1) | exact HB.out)) hb); clear HB; have HB := n0_; clear n0_; (try clear hb); (try clear hb2); (try clear hk); (try clear hi)) | ((with_reducible refine gate_callee (f := 30) rfl ?_); refine goesL_ (some 54) rfl rfl Try.func30 (by kernel_rfl) rfl #[.int .i64 a1, .int .i64 a2] rfl (by (try simp only [List.map_toArray, List.map_cons, List.map_nil]); first | done | rfl | (simp only [List.length_drop, List.length_take]; rfl)) ?_; (with_reducible refine (backhaulref02_Times.calls k a1 a2 t187 t188 _ A13.out).mono ?_); rintro e w' ⟨rfl, ⟨nd, rfl⟩⟩; refine ⟨_, rfl, ?_⟩) | (go_at_call 31; (with_reducible refine (cents_In.calls a1 t189 _ A20.out).mono ?_); rintro e w' ⟨rfl, ⟨nd, rfl⟩⟩) | (go_at_call 32; (with_reducible refine (backhaulref02_In.calls a1 t190 _ A21.out).mono ?_); rintro e w' ⟨rfl, ⟨nd, rfl⟩⟩) | (go_at_call 24; (with_reducible refine (backhaullaw02_awake.calls  true _ A23.out).mono ?_); rintro e w26 ⟨rfl, hb⟩; have n0_ := Aside0.mk (below_step (by repeat (first | (with_reducible first | exact HB.out | apply below_alloc | apply pw_below_drewN | apply below_drew1) | exact HB.out)) hb); clear HB; have HB := n0_; clear n0_; (try clear hb); (try clear hb2); (try clear hk); (try clear hi)))
                    go_ret
                    exact ⟨by first | rfl | (simp [errW_none, errW_some] <;> rfl) | (simp [*, errW_none, errW_some] <;> rfl), by repeat (first | (with_reducible first | exact HB.out | apply below_alloc | apply pw_below_drewN | apply below_drew1) | exact HB.out)⟩
                  · replace c24 := Bool.eq_false_iff.mpr c24
                    subst c24
                    have H1 : (some false) = some true := by first | (rw [if_neg (show ¬ (false = true) by decide)] at H; exact H) | rfl
                    clear H
                    have H := H1
                    clear H1
                    exact absurd H (by simp)
                · rw [if_neg c22] at H
                  have c22b0 : (t189 == t190) = false := by simpa using c22
                  (try (have c22b1 : decide (t189 = t190) = false := by simpa using c22))
                  (try (have c22b2 : (t189 == t190) = false := by simpa using c22))
                  (try (have c22b3 : ¬ (t189 = t190) := by simpa using c22))
                  clear c22
                  exact absurd H (by simp)
              · rw [if_neg c19] at H
                have c19b0 : (t186 == t188) = false := beq_eq_false_iff_ne.mpr c19
                have c19b1 : (t186 != t188) = true := bne_iff_ne.mpr c19
                exact absurd H (by simp)
            · rw [if_neg c18] at H
              have c18b0 : (t185 == t187) = false := beq_eq_false_iff_ne.mpr c18
              have c18b1 : (t185 != t187) = true := bne_iff_ne.mpr c18
              exact absurd H (by simp)
          · rw [if_neg c17] at H
            have c17b0 : (t182 == t184) = false := beq_eq_false_iff_ne.mpr c17
            have c17b1 : (t182 != t184) = true := bne_iff_ne.mpr c17
            exact absurd H (by simp)
        · rw [if_neg c16] at H
          have c16b0 : (t181 == t183) = false := beq_eq_false_iff_ne.mpr c16
          have c16b1 : (t181 != t183) = true := bne_iff_ne.mpr c16
          exact absurd H (by simp)
      · rw [if_neg c15] at H
        have c15b0 : (t178 == t180) = false := beq_eq_false_iff_ne.mpr c15
        have c15b1 : (t178 != t180) = true := bne_iff_ne.mpr c15
        exact absurd H (by simp)
    · rw [if_neg c14] at H
      have c14b0 : (t177 == t179) = false := beq_eq_false_iff_ne.mpr c14
      have c14b1 : (t177 != t179) = true := bne_iff_ne.mpr c14
      exact absurd H (by simp)

/-- THE ONE PURE STATEMENT of backhaullaw02_CentsSums. -/
def backhaullaw02_CentsSums.Pure : Prop := ∀ (l0 : List Int) (a1 : Int) (a2 : Int), (l0.length ≤ maxLen ∧ ∀ x ∈ l0, (Lit.int .i64 x).wf = true) → (Lit.int .i64 a1).wf = true → (Lit.int .i64 a2).wf = true → ∃ k, backhaullaw02_CentsSums.f k l0 a1 a2 = some true

end Go.Proofs.Ytefhljhpcpajgaa.F
