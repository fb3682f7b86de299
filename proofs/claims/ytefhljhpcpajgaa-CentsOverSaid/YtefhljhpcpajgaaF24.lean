-- printed by xprint (the session's own program) out of the translation
import Derived.Test.YtefhljhpcpajgaaF
import Derived.Test.YtefhljhpcpajgaaF25
import Derived.Test.YtefhljhpcpajgaaF27
import Derived.Test.YtefhljhpcpajgaaF29
import Derived.Test.YtefhljhpcpajgaaF31
import Derived.Test.YtefhljhpcpajgaaF33
import Derived.Test.YtefhljhpcpajgaaF35
import Derived.Test.YtefhljhpcpajgaaF37
namespace Go.Proofs.Ytefhljhpcpajgaa.F
open Go.RowKit Go.Proofs.YtefhljhpcpajgaaX Go.Proofs.YtefhljhpcpajgaaW.PrintWords Go.Proofs.YtefhljhpcpajgaaW.PrintLast Go.Proofs.YtefhljhpcpajgaaW.PrintMore
attribute [local go_sem] max2_int min2_int max_two min_two max_three min_three max_four min_four   -- for this text's walks alone
set_option linter.unusedVariables false
set_option linter.unusedSimpArgs false

/-! ### backhaullaw02_awake: function 24 -/
def backhaullaw02_awake.f  : Option (Bool) := some true
set_option maxHeartbeats 8000000 in
set_option maxRecDepth 100000 in
theorem backhaullaw02_awake.calls (r : Bool)  (w : World) (h : backhaullaw02_awake.f  = some r) :
    Calls Try.prog 24 #[] w fun e w' => e = .returned (.bool r) ∧ Below w.heap.size w w' := by
  obtain rfl : r = true := by injection h with h; exact h.symm
  have HB := Aside0.mk (Below.refl w.heap.size w)
  have H : ((cents_Add.f 1000 (([1, 2, (-5)] : List Int))).bind fun bt147 => ((cents_Add.f 1000 (([1000000000000, 1] : List Int))).bind fun bt152 => ((cents_Half.f 1000 5 1 2).bind fun bt154 => ((cents_Floor.f 1000 1000000000000 1000000 1000000).bind fun bt156 => ((cents_Rest.f 1000 7 3 4).bind fun bt158 => ((cents_Times.f 1000000000000 2).bind fun bt160 => ((cents_Sub.f 3 5).bind fun bt162 => ((cents_Floor.f 1000 1 1 0).bind fun bt164 => (if bt147.1 = (-2) then (if bt147.2 = 0 then (if bt152.2 = 8 then (if bt154.1 = 3 then (if bt154.2 = 0 then (if bt156.1 = 1000000000000 then (if bt156.2 = 0 then (if bt158.1 = 1 then (if bt158.2 = 0 then (if bt160.2 = 8 then (if bt162.1 = (-2) then (if bt162.2 = 0 then (if bt164.2 = 2 then ((cents_In.f 5).bind fun t166 => (if t166 = true then (some true) else (some false))) else (some false)) else (some false)) else (some false)) else (some false)) else (some false)) else (some false)) else (some false)) else (some false)) else (some false)) else (some false)) else (some false)) else (some false)) else (some false)))))))))) = some true := by decide +kernel
  obtain ⟨y144, hy144⟩ : ∃ y_ : List Int, y_ = (([1, 2, (-5)] : List Int)) := ⟨_, rfl⟩
  replace H : ((cents_Add.f 1000 y144).bind fun bt147 => ((cents_Add.f 1000 (([1000000000000, 1] : List Int))).bind fun bt152 => ((cents_Half.f 1000 5 1 2).bind fun bt154 => ((cents_Floor.f 1000 1000000000000 1000000 1000000).bind fun bt156 => ((cents_Rest.f 1000 7 3 4).bind fun bt158 => ((cents_Times.f 1000000000000 2).bind fun bt160 => ((cents_Sub.f 3 5).bind fun bt162 => ((cents_Floor.f 1000 1 1 0).bind fun bt164 => (if bt147.1 = (-2) then (if bt147.2 = 0 then (if bt152.2 = 8 then (if bt154.1 = 3 then (if bt154.2 = 0 then (if bt156.1 = 1000000000000 then (if bt156.2 = 0 then (if bt158.1 = 1 then (if bt158.2 = 0 then (if bt160.2 = 8 then (if bt162.1 = (-2) then (if bt162.2 = 0 then (if bt164.2 = 2 then ((cents_In.f 5).bind fun t166 => (if t166 = true then (some true) else (some false))) else (some false)) else (some false)) else (some false)) else (some false)) else (some false)) else (some false)) else (some false)) else (some false)) else (some false)) else (some false)) else (some false)) else (some false)) else (some false)))))))))) = some true := by first | (rw [hy144]; with_reducible exact H) | (have H2_ := (Option.bind_some _ _).symm.trans H; rw [hy144]; with_reducible exact H2_) | (have H2_ := (Option.bind_some _ _).symm.trans H; with_reducible exact H2_) | with_reducible exact H | (rw [hy144]; exact H) | exact H
  have Ny144 := Aside0.mk hy144
  clear hy144
  replace H := Option.bind_eq_some_iff.mp H
  obtain ⟨⟨t147, t148⟩, A10, H⟩ := H
  replace H : ((cents_Add.f 1000 (([1000000000000, 1] : List Int))).bind fun bt152 => ((cents_Half.f 1000 5 1 2).bind fun bt154 => ((cents_Floor.f 1000 1000000000000 1000000 1000000).bind fun bt156 => ((cents_Rest.f 1000 7 3 4).bind fun bt158 => ((cents_Times.f 1000000000000 2).bind fun bt160 => ((cents_Sub.f 3 5).bind fun bt162 => ((cents_Floor.f 1000 1 1 0).bind fun bt164 => (if t147 = (-2) then (if t148 = 0 then (if bt152.2 = 8 then (if bt154.1 = 3 then (if bt154.2 = 0 then (if bt156.1 = 1000000000000 then (if bt156.2 = 0 then (if bt158.1 = 1 then (if bt158.2 = 0 then (if bt160.2 = 8 then (if bt162.1 = (-2) then (if bt162.2 = 0 then (if bt164.2 = 2 then ((cents_In.f 5).bind fun t166 => (if t166 = true then (some true) else (some false))) else (some false)) else (some false)) else (some false)) else (some false)) else (some false)) else (some false)) else (some false)) else (some false)) else (some false)) else (some false)) else (some false)) else (some false)) else (some false))))))))) = some true := H
  have A1 := Aside0.mk A10
  clear A10
  obtain ⟨y149, hy149⟩ : ∃ y_ : List Int, y_ = (([1000000000000, 1] : List Int)) := ⟨_, rfl⟩
  replace H : ((cents_Add.f 1000 y149).bind fun bt152 => ((cents_Half.f 1000 5 1 2).bind fun bt154 => ((cents_Floor.f 1000 1000000000000 1000000 1000000).bind fun bt156 => ((cents_Rest.f 1000 7 3 4).bind fun bt158 => ((cents_Times.f 1000000000000 2).bind fun bt160 => ((cents_Sub.f 3 5).bind fun bt162 => ((cents_Floor.f 1000 1 1 0).bind fun bt164 => (if t147 = (-2) then (if t148 = 0 then (if bt152.2 = 8 then (if bt154.1 = 3 then (if bt154.2 = 0 then (if bt156.1 = 1000000000000 then (if bt156.2 = 0 then (if bt158.1 = 1 then (if bt158.2 = 0 then (if bt160.2 = 8 then (if bt162.1 = (-2) then (if bt162.2 = 0 then (if bt164.2 = 2 then ((cents_In.f 5).bind fun t166 => (if t166 = true then (some true) else (some false))) else (some false)) else (some false)) else (some false)) else (some false)) else (some false)) else (some false)) else (some false)) else (some false)) else (some false)) else (some false)) else (some false)) else (some false)) else (some false))))))))) = some true := by first | (rw [hy149]; with_reducible exact H) | (have H2_ := (Option.bind_some _ _).symm.trans H; rw [hy149]; with_reducible exact H2_) | (have H2_ := (Option.bind_some _ _).symm.trans H; with_reducible exact H2_) | with_reducible exact H | (rw [hy149]; exact H) | exact H
  have Ny149 := Aside0.mk hy149
  clear hy149
  replace H := Option.bind_eq_some_iff.mp H
  obtain ⟨⟨t152, t153⟩, A20, H⟩ := H
  replace H : ((cents_Half.f 1000 5 1 2).bind fun bt154 => ((cents_Floor.f 1000 1000000000000 1000000 1000000).bind fun bt156 => ((cents_Rest.f 1000 7 3 4).bind fun bt158 => ((cents_Times.f 1000000000000 2).bind fun bt160 => ((cents_Sub.f 3 5).bind fun bt162 => ((cents_Floor.f 1000 1 1 0).bind fun bt164 => (if t147 = (-2) then (if t148 = 0 then (if t153 = 8 then (if bt154.1 = 3 then (if bt154.2 = 0 then (if bt156.1 = 1000000000000 then (if bt156.2 = 0 then (if bt158.1 = 1 then (if bt158.2 = 0 then (if bt160.2 = 8 then (if bt162.1 = (-2) then (if bt162.2 = 0 then (if bt164.2 = 2 then ((cents_In.f 5).bind fun t166 => (if t166 = true then (some true) else (some false))) else (some false)) else (some false)) else (some false)) else (some false)) else (some false)) else (some false)) else (some false)) else (some false)) else (some false)) else (some false)) else (some false)) else (some false)) else (some false)))))))) = some true := H
  have A2 := Aside0.mk A20
  clear A20
  replace H := Option.bind_eq_some_iff.mp H
  obtain ⟨⟨t154, t155⟩, A30, H⟩ := H
  replace H : ((cents_Floor.f 1000 1000000000000 1000000 1000000).bind fun bt156 => ((cents_Rest.f 1000 7 3 4).bind fun bt158 => ((cents_Times.f 1000000000000 2).bind fun bt160 => ((cents_Sub.f 3 5).bind fun bt162 => ((cents_Floor.f 1000 1 1 0).bind fun bt164 => (if t147 = (-2) then (if t148 = 0 then (if t153 = 8 then (if t154 = 3 then (if t155 = 0 then (if bt156.1 = 1000000000000 then (if bt156.2 = 0 then (if bt158.1 = 1 then (if bt158.2 = 0 then (if bt160.2 = 8 then (if bt162.1 = (-2) then (if bt162.2 = 0 then (if bt164.2 = 2 then ((cents_In.f 5).bind fun t166 => (if t166 = true then (some true) else (some false))) else (some false)) else (some false)) else (some false)) else (some false)) else (some false)) else (some false)) else (some false)) else (some false)) else (some false)) else (some false)) else (some false)) else (some false)) else (some false))))))) = some true := H
  have A3 := Aside0.mk A30
  clear A30
  replace H := Option.bind_eq_some_iff.mp H
  obtain ⟨⟨t156, t157⟩, A40, H⟩ := H
  replace H : ((cents_Rest.f 1000 7 3 4).bind fun bt158 => ((cents_Times.f 1000000000000 2).bind fun bt160 => ((cents_Sub.f 3 5).bind fun bt162 => ((cents_Floor.f 1000 1 1 0).bind fun bt164 => (if t147 = (-2) then (if t148 = 0 then (if t153 = 8 then (if t154 = 3 then (if t155 = 0 then (if t156 = 1000000000000 then (if t157 = 0 then (if bt158.1 = 1 then (if bt158.2 = 0 then (if bt160.2 = 8 then (if bt162.1 = (-2) then (if bt162.2 = 0 then (if bt164.2 = 2 then ((cents_In.f 5).bind fun t166 => (if t166 = true then (some true) else (some false))) else (some false)) else (some false)) else (some false)) else (some false)) else (some false)) else (some false)) else (some false)) else (some false)) else (some false)) else (some false)) else (some false)) else (some false)) else (some false)))))) = some true := H
  have A4 := Aside0.mk A40
  clear A40
  replace H := Option.bind_eq_some_iff.mp H
  obtain ⟨⟨t158, t159⟩, A50, H⟩ := H
  replace H : ((cents_Times.f 1000000000000 2).bind fun bt160 => ((cents_Sub.f 3 5).bind fun bt162 => ((cents_Floor.f 1000 1 1 0).bind fun bt164 => (if t147 = (-2) then (if t148 = 0 then (if t153 = 8 then (if t154 = 3 then (if t155 = 0 then (if t156 = 1000000000000 then (if t157 = 0 then (if t158 = 1 then (if t159 = 0 then (if bt160.2 = 8 then (if bt162.1 = (-2) then (if bt162.2 = 0 then (if bt164.2 = 2 then ((cents_In.f 5).bind fun t166 => (if t166 = true then (some true) else (some false))) else (some false)) else (some false)) else (some false)) else (some false)) else (some false)) else (some false)) else (some false)) else (some false)) else (some false)) else (some false)) else (some false)) else (some false)) else (some false))))) = some true := H
  have A5 := Aside0.mk A50
  clear A50
  replace H := Option.bind_eq_some_iff.mp H
  obtain ⟨⟨t160, t161⟩, A60, H⟩ := H
  replace H : ((cents_Sub.f 3 5).bind fun bt162 => ((cents_Floor.f 1000 1 1 0).bind fun bt164 => (if t147 = (-2) then (if t148 = 0 then (if t153 = 8 then (if t154 = 3 then (if t155 = 0 then (if t156 = 1000000000000 then (if t157 = 0 then (if t158 = 1 then (if t159 = 0 then (if t161 = 8 then (if bt162.1 = (-2) then (if bt162.2 = 0 then (if bt164.2 = 2 then ((cents_In.f 5).bind fun t166 => (if t166 = true then (some true) else (some false))) else (some false)) else (some false)) else (some false)) else (some false)) else (some false)) else (some false)) else (some false)) else (some false)) else (some false)) else (some false)) else (some false)) else (some false)) else (some false)))) = some true := H
  have A6 := Aside0.mk A60
  clear A60
  replace H := Option.bind_eq_some_iff.mp H
  obtain ⟨⟨t162, t163⟩, A70, H⟩ := H
  replace H : ((cents_Floor.f 1000 1 1 0).bind fun bt164 => (if t147 = (-2) then (if t148 = 0 then (if t153 = 8 then (if t154 = 3 then (if t155 = 0 then (if t156 = 1000000000000 then (if t157 = 0 then (if t158 = 1 then (if t159 = 0 then (if t161 = 8 then (if t162 = (-2) then (if t163 = 0 then (if bt164.2 = 2 then ((cents_In.f 5).bind fun t166 => (if t166 = true then (some true) else (some false))) else (some false)) else (some false)) else (some false)) else (some false)) else (some false)) else (some false)) else (some false)) else (some false)) else (some false)) else (some false)) else (some false)) else (some false)) else (some false))) = some true := H
  have A7 := Aside0.mk A70
  clear A70
  replace H := Option.bind_eq_some_iff.mp H
  obtain ⟨⟨t164, t165⟩, A80, H⟩ := H
  replace H : (if t147 = (-2) then (if t148 = 0 then (if t153 = 8 then (if t154 = 3 then (if t155 = 0 then (if t156 = 1000000000000 then (if t157 = 0 then (if t158 = 1 then (if t159 = 0 then (if t161 = 8 then (if t162 = (-2) then (if t163 = 0 then (if t165 = 2 then ((cents_In.f 5).bind fun t166 => (if t166 = true then (some true) else (some false))) else (some false)) else (some false)) else (some false)) else (some false)) else (some false)) else (some false)) else (some false)) else (some false)) else (some false)) else (some false)) else (some false)) else (some false)) else (some false)) = some true := H
  have A8 := Aside0.mk A80
  clear A80
  by_cases c9 : t147 = (-2)
  · rw [if_pos c9] at H
    have c9b0 : (t147 == (-2)) = true := beq_iff_eq.mpr c9
    have c9b1 : (t147 != (-2)) = false := bne_eq_false_iff_eq.mpr c9
    clear c9
    by_cases c10 : t148 = 0
    · rw [if_pos c10] at H
      have c10b0 : (t148 == 0) = true := beq_iff_eq.mpr c10
      have c10b1 : (t148 != 0) = false := bne_eq_false_iff_eq.mpr c10
      clear c10
      by_cases c11 : t153 = 8
      · rw [if_pos c11] at H
        have c11b0 : (t153 == 8) = true := beq_iff_eq.mpr c11
        have c11b1 : (t153 != 8) = false := bne_eq_false_iff_eq.mpr c11
        clear c11
        by_cases c12 : t154 = 3
        · rw [if_pos c12] at H
          have c12b0 : (t154 == 3) = true := beq_iff_eq.mpr c12
          have c12b1 : (t154 != 3) = false := bne_eq_false_iff_eq.mpr c12
          clear c12
          by_cases c13 : t155 = 0
          · rw [if_pos c13] at H
            have c13b0 : (t155 == 0) = true := beq_iff_eq.mpr c13
            have c13b1 : (t155 != 0) = false := bne_eq_false_iff_eq.mpr c13
            clear c13
            by_cases c14 : t156 = 1000000000000
            · rw [if_pos c14] at H
              have c14b0 : (t156 == 1000000000000) = true := beq_iff_eq.mpr c14
              have c14b1 : (t156 != 1000000000000) = false := bne_eq_false_iff_eq.mpr c14
              clear c14
              by_cases c15 : t157 = 0
              · rw [if_pos c15] at H
                have c15b0 : (t157 == 0) = true := beq_iff_eq.mpr c15
                have c15b1 : (t157 != 0) = false := bne_eq_false_iff_eq.mpr c15
                clear c15
                by_cases c16 : t158 = 1
                · rw [if_pos c16] at H
                  have c16b0 : (t158 == 1) = true := beq_iff_eq.mpr c16
                  have c16b1 : (t158 != 1) = false := bne_eq_false_iff_eq.mpr c16
                  clear c16
                  by_cases c17 : t159 = 0
                  · rw [if_pos c17] at H
                    have c17b0 : (t159 == 0) = true := beq_iff_eq.mpr c17
                    have c17b1 : (t159 != 0) = false := bne_eq_false_iff_eq.mpr c17
                    clear c17
                    by_cases c18 : t161 = 8
                    · rw [if_pos c18] at H
                      have c18b0 : (t161 == 8) = true := beq_iff_eq.mpr c18
                      have c18b1 : (t161 != 8) = false := bne_eq_false_iff_eq.mpr c18
                      clear c18
                      by_cases c19 : t162 = (-2)
                      · rw [if_pos c19] at H
                        have c19b0 : (t162 == (-2)) = true := beq_iff_eq.mpr c19
                        have c19b1 : (t162 != (-2)) = false := bne_eq_false_iff_eq.mpr c19
                        clear c19
                        by_cases c20 : t163 = 0
                        · rw [if_pos c20] at H
                          have c20b0 : (t163 == 0) = true := beq_iff_eq.mpr c20
                          have c20b1 : (t163 != 0) = false := bne_eq_false_iff_eq.mpr c20
                          clear c20
                          by_cases c21 : t165 = 2
                          · rw [if_pos c21] at H
                            have c21b0 : (t165 == 2) = true := beq_iff_eq.mpr c21
                            have c21b1 : (t165 != 2) = false := bne_eq_false_iff_eq.mpr c21
                            clear c21
                            replace H := Option.bind_eq_some_iff.mp H
                            obtain ⟨t166, A220, H⟩ := H
                            replace H : (if t166 = true then (some true) else (some false)) = some true := H
                            have A22 := Aside0.mk A220
                            clear A220
                            by_cases c23 : t166 = true
                            · subst c23
                              have H1 : (some true) = some true := by first | (rw [if_pos rfl] at H; exact H) | rfl
                              clear H
                              have H := H1
                              clear H1
                              clear H
                              go_enter Try.func24, Try.ntmps24
                              go_wp2_with (first | ((with_reducible refine gate_dst (N := 18) rfl ?_); refine Kd.R_lit (Kd.int .i64) _ 3 ?hg (N := 18) ?hd (xs := ([1, 2, (-5)] : List Int)) (inner := [.int .i64 1, .int .i64 2, .int .i64 (-5)]) (ok := fun _ => True) (okp := fun _ => True) ?hr ?hp (fun _ hk => hk) trivial (Below.refl _ _) (Nat.le_refl _) (by simp) ?_; (case hd => rfl); (case hg => rfl); (case hr => first | (go_simp; done) | (go_simp; rfl)); (case hp => exact (Reps.one (show Kd.M (Kd.int .i64) _ _ _ 1 [.int .i64 1] from rfl) (Reps.one (show Kd.M (Kd.int .i64) _ _ _ 2 [.int .i64 2] from rfl) (Reps.one (show Kd.M (Kd.int .i64) _ _ _ (-5) [.int .i64 (-5)] from rfl) (Reps.none _ _))))); intro v145 w24 ho25 hb hg_ hnew_; clear hg_ hnew_; (first | rw [← Ny144.out] at ho25 | (simp only [Int.reduceToNat] at ho25; rw [← Ny144.out] at ho25)); have n0_ := Aside0.mk (Kd.R_lower ho25 (below_size (by repeat (first | (with_reducible first | exact HB.out | apply below_alloc | apply pw_below_drewN | apply below_drew1) | exact HB.out)))); have n1_ := Aside0.mk (below_step (by repeat (first | (with_reducible first | exact HB.out | apply below_alloc | apply pw_below_drewN | apply below_drew1) | exact HB.out)) hb); clear HB; have HO146 := n0_; have HB := n1_; clear n0_ n1_; clear hb ho25; obtain ⟨Ao26, co26, eo26⟩ := Kd.R_slice HO146.out; subst eo26) | ((with_reducible refine gate_callee (f := 25) rfl ?_); refine goesL_ (some 19) rfl rfl Try.func25 (by kernel_rfl) rfl #[.slice Ao26 y144.length co26] rfl (by (try simp only [List.map_toArray, List.map_cons, List.map_nil]); first | done | rfl | (simp only [List.length_drop, List.length_take]; rfl)) ?_; (with_reducible refine (cents_Add.calls 1000 _ _ y144 t147 t148 _ ?side1 ?side2 A1.out).mono ?_); (case side1 => repeat (first | exact (Kd.R_reads' HO146.out).2.2 | (with_reducible refine Kd.C_alloc ?_ _) | (with_reducible refine Kd.C_drewN ?_ _) | (with_reducible refine Kd.C_drew ?_))); (case side2 => exact (Kd.R_reads' HO146.out).2.1); rintro e w' ⟨rfl, ⟨nd, rfl⟩⟩; refine ⟨_, rfl, ?_⟩) | ((with_reducible refine gate_dst (N := 23) rfl ?_); refine Kd.R_lit (Kd.int .i64) _ 3 ?hg (N := 23) ?hd (xs := ([1000000000000, 1] : List Int)) (inner := [.int .i64 1000000000000, .int .i64 1]) (ok := fun _ => True) (okp := fun _ => True) ?hr ?hp (fun _ hk => hk) trivial (Below.refl _ _) (Nat.le_refl _) (by simp) ?_; (case hd => rfl); (case hg => rfl); (case hr => first | (go_simp; done) | (go_simp; rfl)); (case hp => exact (Reps.one (show Kd.M (Kd.int .i64) _ _ _ 1000000000000 [.int .i64 1000000000000] from rfl) (Reps.one (show Kd.M (Kd.int .i64) _ _ _ 1 [.int .i64 1] from rfl) (Reps.none _ _)))); intro v150 w27 ho28 hb hg_ hnew_; clear hg_ hnew_; (first | rw [← Ny149.out] at ho28 | (simp only [Int.reduceToNat] at ho28; rw [← Ny149.out] at ho28)); have n0_ := Aside0.mk (Kd.R_elder' (by (with_reducible repeat (first | apply Kd.R_alloc | apply Kd.R_drewN | apply Kd.R_drew)); exact HO146.out) (Kd.R_base ho28) hb); have n1_ := Aside0.mk (Kd.R_lower (Kd.R_new' ho28 (Kd.R_lt (by (with_reducible repeat (first | apply Kd.R_alloc | apply Kd.R_drewN | apply Kd.R_drew)); exact HO146.out))) (below_size (by repeat (first | (with_reducible first | exact HB.out | apply below_alloc | apply pw_below_drewN | apply below_drew1) | exact HB.out)))); have n2_ := Aside0.mk (below_step (by repeat (first | (with_reducible first | exact HB.out | apply below_alloc | apply pw_below_drewN | apply below_drew1) | exact HB.out)) hb); clear HO146; clear HB; have HO146 := n0_; have HO151 := n1_; have HB := n2_; clear n0_ n1_ n2_; clear hb ho28; obtain ⟨Ao29, co29, eo29⟩ := Kd.R_slice HO151.out; subst eo29) | ((with_reducible refine gate_callee (f := 25) rfl ?_); refine goesL_ (some 24) rfl rfl Try.func25 (by kernel_rfl) rfl #[.slice Ao29 y149.length co29] rfl (by (try simp only [List.map_toArray, List.map_cons, List.map_nil]); first | done | rfl | (simp only [List.length_drop, List.length_take]; rfl)) ?_; (with_reducible refine (cents_Add.calls 1000 _ _ y149 t152 t153 _ ?side1 ?side2 A2.out).mono ?_); (case side1 => repeat (first | exact (Kd.R_reads' HO151.out).2.2 | (with_reducible refine Kd.C_alloc ?_ _) | (with_reducible refine Kd.C_drewN ?_ _) | (with_reducible refine Kd.C_drew ?_))); (case side2 => exact (Kd.R_reads' HO151.out).2.1); rintro e w' ⟨rfl, ⟨nd, rfl⟩⟩; refine ⟨_, rfl, ?_⟩) | ((with_reducible refine gate_callee (f := 35) rfl ?_); refine goesL_ (some 28) rfl rfl Try.func35 (by kernel_rfl) rfl #[.int .i64 5, .int .i64 1, .int .i64 2] rfl (by (try simp only [List.map_toArray, List.map_cons, List.map_nil]); first | done | rfl | (simp only [List.length_drop, List.length_take]; rfl)) ?_; (with_reducible refine (cents_Half.calls 1000 5 1 2 t154 t155 _ A3.out).mono ?_); rintro e w30 ⟨rfl, hb⟩; refine ⟨_, rfl, ?_⟩; have n0_ := Aside0.mk (Kd.R_below (by (with_reducible repeat (first | apply Kd.R_alloc | apply Kd.R_drewN | apply Kd.R_drew)); exact HO146.out) hb); have n1_ := Aside0.mk (Kd.R_below (by (with_reducible repeat (first | apply Kd.R_alloc | apply Kd.R_drewN | apply Kd.R_drew)); exact HO151.out) hb); have n2_ := Aside0.mk (below_step (by repeat (first | (with_reducible first | exact HB.out | apply below_alloc | apply pw_below_drewN | apply below_drew1) | exact HB.out)) hb); clear HO146; clear HO151; clear HB; have HO146 := n0_; have HO151 := n1_; have HB := n2_; clear n0_ n1_ n2_; (try clear hb); (try clear hb2); (try clear hk); (try clear hi)) | ((with_reducible refine gate_callee (f := 33) rfl ?_); refine goesL_ (some 32) rfl rfl Try.func33 (by kernel_rfl) rfl #[.int .i64 1000000000000, .int .i64 1000000, .int .i64 1000000] rfl (by (try simp only [List.map_toArray, List.map_cons, List.map_nil]); first | done | rfl | (simp only [List.length_drop, List.length_take]; rfl)) ?_; (with_reducible refine (cents_Floor.calls 1000 1000000000000 1000000 1000000 t156 t157 _ A4.out).mono ?_); rintro e w31 ⟨rfl, hb⟩; refine ⟨_, rfl, ?_⟩; have n0_ := Aside0.mk (Kd.R_below (by (with_reducible repeat (first | apply Kd.R_alloc | apply Kd.R_drewN | apply Kd.R_drew)); exact HO146.out) hb); have n1_ := Aside0.mk (Kd.R_below (by (with_reducible repeat (first | apply Kd.R_alloc | apply Kd.R_drewN | apply Kd.R_drew)); exact HO151.out) hb); have n2_ := Aside0.mk (below_step (by repeat (first | (with_reducible first | exact HB.out | apply below_alloc | apply pw_below_drewN | apply below_drew1) | exact HB.out)) hb); clear HO146; clear HO151; clear HB; have HO146 := n0_; have HO151 := n1_; have HB := n2_; clear n0_ n1_ n2_; (try clear hb); (try clear hb2); (try clear hk); (try clear hi)) | ((with_reducible refine gate_callee (f := 37) rfl ?_); refine goesL_ (some 36) rfl rfl Try.func37 (by kernel_rfl) rfl #[.int .i64 7, .int .i64 3, .int .i64 4] rfl (by (try simp only [List.map_toArray, List.map_cons, List.map_nil]); first | done | rfl | (simp only [List.length_drop, List.length_take]; rfl)) ?_; (with_reducible refine (cents_Rest.calls 1000 7 3 4 t158 t159 _ A5.out).mono ?_); rintro e w32 ⟨rfl, hb⟩; refine ⟨_, rfl, ?_⟩; have n0_ := Aside0.mk (Kd.R_below (by (with_reducible repeat (first | apply Kd.R_alloc | apply Kd.R_drewN | apply Kd.R_drew)); exact HO146.out) hb); have n1_ := Aside0.mk (Kd.R_below (by (with_reducible repeat (first | apply Kd.R_alloc | apply Kd.R_drewN | apply Kd.R_drew)); exact HO151.out) hb); have n2_ := Aside0.mk (below_step (by repeat (first | (with_reducible first | exact HB.out | apply below_alloc | apply pw_below_drewN | apply below_drew1) | exact HB.out)) hb); clear HO146; clear HO151; clear HB; have HO146 := n0_; have HO151 := n1_; have HB := n2_; clear n0_ n1_ n2_; (try clear hb); (try clear hb2); (try clear hk); (try clear hi)) | ((with_reducible refine gate_callee (f := 29) rfl ?_); refine goesL_ (some 40) rfl rfl Try.func29 (by kernel_rfl) rfl #[.int .i64 1000000000000, .int .i64 2] rfl (by (try simp only [List.map_toArray, List.map_cons, List.map_nil]); first | done | rfl | (simp only [List.length_drop, List.length_take]; rfl)) ?_; (with_reducible refine (cents_Times.calls 1000000000000 2 t160 t161 _ A6.out).mono ?_); rintro e w33 ⟨rfl, hb⟩; refine ⟨_, rfl, ?_⟩; have n0_ := Aside0.mk (Kd.R_below (by (with_reducible repeat (first | apply Kd.R_alloc | apply Kd.R_drewN | apply Kd.R_drew)); exact HO146.out) hb); have n1_ := Aside0.mk (Kd.R_below (by (with_reducible repeat (first | apply Kd.R_alloc | apply Kd.R_drewN | apply Kd.R_drew)); exact HO151.out) hb); have n2_ := Aside0.mk (below_step (by repeat (first | (with_reducible first | exact HB.out | apply below_alloc | apply pw_below_drewN | apply below_drew1) | exact HB.out)) hb); clear HO146; clear HO151; clear HB; have HO146 := n0_; have HO151 := n1_; have HB := n2_; clear n0_ n1_ n2_; (try clear hb); (try clear hb2); (try clear hk); (try clear hi)) | ((with_reducible refine gate_callee (f := 27) rfl ?_); refine goesL_ (some 44) rfl rfl Try.func27 (by kernel_rfl) rfl #[.int .i64 3, .int .i64 5] rfl (by (try simp only [List.map_toArray, List.map_cons, List.map_nil]); first | done | rfl | (simp only [List.length_drop, List.length_take]; rfl)) ?_; (with_reducible refine (cents_Sub.calls 3 5 t162 t163 _ A7.out).mono ?_); rintro e w' ⟨rfl, ⟨nd, rfl⟩⟩; refine ⟨_, rfl, ?_⟩) | ((with_reducible refine gate_callee (f := 33) rfl ?_); refine goesL_ (some 48) rfl rfl Try.func33 (by kernel_rfl) rfl #[.int .i64 1, .int .i64 1, .int .i64 0] rfl (by (try simp only [List.map_toArray, List.map_cons, List.map_nil]); first | done | rfl | (simp only [List.length_drop, List.length_take]; rfl)) ?_; (with_reducible refine (cents_Floor.calls 1000 1 1 0 t164 t165 _ A8.out).mono ?_); rintro e w34 ⟨rfl, hb⟩; refine ⟨_, rfl, ?_⟩; have n0_ := Aside0.mk (Kd.R_below (by (with_reducible repeat (first | apply Kd.R_alloc | apply Kd.R_drewN | apply Kd.R_drew)); exact HO146.out) hb); have n1_ := Aside0.mk (Kd.R_below (by (with_reducible repeat (first | apply Kd.R_alloc | apply Kd.R_drewN | apply Kd.R_drew)); exact HO151.out) hb); have n2_ := Aside0.mk (below_step (by repeat (first | (with_reducible first | exact HB.out | apply below_alloc | apply pw_below_drewN | apply below_drew1) | exact HB.out)) hb); clear HO146; clear HO151; clear HB; have HO146 := n0_; have HO151 := n1_; have HB := n2_; clear n0_ n1_ n2_; (try clear hb); (try clear hb2); (try clear hk); (try clear hi)) | (go_at_call 31; (with_reducible refine (cents_In.calls 5 true _ A22.out).mono ?_); rintro e w' ⟨rfl, ⟨nd, rfl⟩⟩))
                              go_ret
                              exact ⟨by first | rfl | (simp [errW_none, errW_some] <;> rfl) | (simp [*, errW_none, errW_some] <;> rfl), by repeat (first | (with_reducible first | exact HB.out | apply below_alloc | apply pw_below_drewN | apply below_drew1) | exact HB.out)⟩
                            · replace c23 := Bool.eq_false_iff.mpr c23
                              subst c23
                              have H1 : (some false) = some true := by first | (rw [if_neg (show ¬ (false = true) by decide)] at H; exact H) | rfl
                              clear H
                              have H := H1
                              clear H1
                              exact absurd H (by simp)
                          · rw [if_neg c21] at H
                            have c21b0 : (t165 == 2) = false := beq_eq_false_iff_ne.mpr c21
                            have c21b1 : (t165 != 2) = true := bne_iff_ne.mpr c21
                            exact absurd H (by simp)
                        · rw [if_neg c20] at H
                          have c20b0 : (t163 == 0) = false := beq_eq_false_iff_ne.mpr c20
                          have c20b1 : (t163 != 0) = true := bne_iff_ne.mpr c20
                          exact absurd H (by simp)
                      · rw [if_neg c19] at H
                        have c19b0 : (t162 == (-2)) = false := beq_eq_false_iff_ne.mpr c19
                        have c19b1 : (t162 != (-2)) = true := bne_iff_ne.mpr c19
                        exact absurd H (by simp)
                    · rw [if_neg c18] at H
                      have c18b0 : (t161 == 8) = false := beq_eq_false_iff_ne.mpr c18
                      have c18b1 : (t161 != 8) = true := bne_iff_ne.mpr c18
                      exact absurd H (by simp)
                  · rw [if_neg c17] at H
                    have c17b0 : (t159 == 0) = false := beq_eq_false_iff_ne.mpr c17
                    have c17b1 : (t159 != 0) = true := bne_iff_ne.mpr c17
                    exact absurd H (by simp)
                · rw [if_neg c16] at H
                  have c16b0 : (t158 == 1) = false := beq_eq_false_iff_ne.mpr c16
                  have c16b1 : (t158 != 1) = true := bne_iff_ne.mpr c16
                  exact absurd H (by simp)
              · rw [if_neg c15] at H
                have c15b0 : (t157 == 0) = false := beq_eq_false_iff_ne.mpr c15
                have c15b1 : (t157 != 0) = true := bne_iff_ne.mpr c15
                exact absurd H (by simp)
            · rw [if_neg c14] at H
              have c14b0 : (t156 == 1000000000000) = false := beq_eq_false_iff_ne.mpr c14
              have c14b1 : (t156 != 1000000000000) = true := bne_iff_ne.mpr c14
              exact absurd H (by simp)
          · rw [if_neg c13] at H
            have c13b0 : (t155 == 0) = false := beq_eq_false_iff_ne.mpr c13
            have c13b1 : (t155 != 0) = true := bne_iff_ne.mpr c13
            exact absurd H (by simp)
        · rw [if_neg c12] at H
          have c12b0 : (t154 == 3) = false := beq_eq_false_iff_ne.mpr c12
          have c12b1 : (t154 != 3) = true := bne_iff_ne.mpr c12
          exact absurd H (by simp)
      · rw [if_neg c11] at H
        have c11b0 : (t153 == 8) = false := beq_eq_false_iff_ne.mpr c11
        have c11b1 : (t153 != 8) = true := bne_iff_ne.mpr c11
        exact absurd H (by simp)
    · rw [if_neg c10] at H
      have c10b0 : (t148 == 0) = false := beq_eq_false_iff_ne.mpr c10
      have c10b1 : (t148 != 0) = true := bne_iff_ne.mpr c10
      exact absurd H (by simp)
  · rw [if_neg c9] at H
    have c9b0 : (t147 == (-2)) = false := beq_eq_false_iff_ne.mpr c9
    have c9b1 : (t147 != (-2)) = true := bne_iff_ne.mpr c9
    exact absurd H (by simp)

end Go.Proofs.Ytefhljhpcpajgaa.F
