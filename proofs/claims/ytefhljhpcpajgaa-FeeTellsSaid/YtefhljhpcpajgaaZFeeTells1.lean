-- merged by merge.py (the session's own program)
import Derived.Test.YtefhljhpcpajgaaZFeeTells0
namespace Go.Proofs.Ytefhljhpcpajgaa.F
open Go.RowKit Go.Proofs.YtefhljhpcpajgaaX Go.Proofs.YtefhljhpcpajgaaW.PrintWords Go.Proofs.YtefhljhpcpajgaaW.PrintLast Go.Proofs.YtefhljhpcpajgaaW.PrintMore
attribute [local go_sem] max2_int min2_int max_two min_two max_three min_three max_four min_four   -- for this text's walks alone
set_option linter.unusedVariables false
set_option linter.unusedSimpArgs false

/-! ### fee_Of: function 40 -/
def fee_Of.f (k : Nat) (a0 : Int) (a1 : Int) : Option (Int × Int) := (fee_may.f a1).bind fun t253 => (if t253 = true then (if a0 < 0 then (some (0, 8)) else ((cents_In.f a0).bind fun t254 => (if t254 = true then ((cents_Half.f k a0 a1 10000).bind fun bt255 => (some (bt255.1, bt255.2))) else (some (0, 8))))) else (some (0, 2)))
theorem fee_Of.mono : ∀ a0 a1 k, LeO (fee_Of.f k a0 a1) (fee_Of.f (k + 1) a0 a1) := by
  intro a0 a1 k
  unfold fee_Of.f
  repeat' first
      | (with_reducible exact cents_Half.mono _ _ _ _)
      | (with_reducible exact LeO.refl _)
      | (with_reducible exact LeO.none _)
      | (with_reducible refine LeO.ite ?_ ?_)
      | (with_reducible refine LeO.bind ?_ (fun _ => ?_))
      | exact cents_Half.mono _ _ _ _
      | exact LeO.none _
      | refine LeO.ite ?_ ?_
      | refine LeO.bind ?_ (fun _ => ?_)
set_option maxHeartbeats 8000000 in
set_option maxRecDepth 100000 in
theorem fee_Of.calls (k : Nat) (a0 : Int) (a1 : Int) (r1 : Int) (r2 : Int) (w : World) (h : fee_Of.f k a0 a1 = some (r1, r2)) :
    Calls Try.prog 40 #[.int .i64 a0, .int .i64 a1] w fun e w' => e = .returned (.tuple #[.int .i64 r1, .int .i64 r2]) ∧ Below w.heap.size w w' := by
  have HB := Aside0.mk (Below.refl w.heap.size w)
  have H : ((fee_may.f a1).bind fun t253 => (if t253 = true then (if a0 < 0 then (some (0, 8)) else ((cents_In.f a0).bind fun t254 => (if t254 = true then ((cents_Half.f k a0 a1 10000).bind fun bt255 => (some (bt255.1, bt255.2))) else (some (0, 8))))) else (some (0, 2)))) = some (r1, r2) := h
  clear h
  replace H := Option.bind_eq_some_iff.mp H
  obtain ⟨t253, A30, H⟩ := H
  replace H : (if t253 = true then (if a0 < 0 then (some (0, 8)) else ((cents_In.f a0).bind fun t254 => (if t254 = true then ((cents_Half.f k a0 a1 10000).bind fun bt255 => (some (bt255.1, bt255.2))) else (some (0, 8))))) else (some (0, 2))) = some (r1, r2) := H
  have A3 := Aside0.mk A30
  clear A30
  by_cases c4 : t253 = true
  · subst c4
    have H1 : (if a0 < 0 then (some (0, 8)) else ((cents_In.f a0).bind fun t254 => (if t254 = true then ((cents_Half.f k a0 a1 10000).bind fun bt255 => (some (bt255.1, bt255.2))) else (some (0, 8))))) = some (r1, r2) := by first | (rw [if_pos rfl] at H; exact H) | rfl
    clear H
    have H := H1
    clear H1
    by_cases c5 : a0 < 0
    · rw [if_pos c5] at H
      have c5b0 : decide (a0 < 0) = true := decide_eq_true c5
      clear c5
      simp only [Option.some.injEq, Prod.mk.injEq] at H
      obtain ⟨rfl, rfl⟩ := H
      go_enter Try.func40, Try.ntmps40
      go_wp2_with (first | ((with_reducible refine gate_callee (f := 103) rfl ?_); refine goesL_ (some 8) rfl rfl Try.func103 (by kernel_rfl) rfl #[.int .i64 a1] rfl (by (try simp only [List.map_toArray, List.map_cons, List.map_nil]); first | done | rfl | (simp only [List.length_drop, List.length_take]; rfl)) ?_; (with_reducible refine (fee_may.calls a1 true _ A3.out).mono ?_); rintro e w' ⟨rfl, ⟨nd, rfl⟩⟩; refine ⟨_, rfl, ?_⟩))
      go_ret2
      exact ⟨by first | rfl | (simp [errW_none, errW_some] <;> rfl) | (simp [*, errW_none, errW_some] <;> rfl), by repeat (first | (with_reducible first | exact HB.out | apply below_alloc | apply pw_below_drewN | apply below_drew1) | exact HB.out)⟩
    · rw [if_neg c5] at H
      have c5b0 : decide (a0 < 0) = false := decide_eq_false c5
      clear c5
      replace H := Option.bind_eq_some_iff.mp H
      obtain ⟨t254, A60, H⟩ := H
      replace H : (if t254 = true then ((cents_Half.f k a0 a1 10000).bind fun bt255 => (some (bt255.1, bt255.2))) else (some (0, 8))) = some (r1, r2) := H
      have A6 := Aside0.mk A60
      clear A60
      by_cases c7 : t254 = true
      · subst c7
        have H1 : ((cents_Half.f k a0 a1 10000).bind fun bt255 => (some (bt255.1, bt255.2))) = some (r1, r2) := by first | (rw [if_pos rfl] at H; exact H) | rfl
        clear H
        have H := H1
        clear H1
        replace H := Option.bind_eq_some_iff.mp H
        obtain ⟨⟨t255, t256⟩, A80, H⟩ := H
        replace H : (some (t255, t256)) = some (r1, r2) := H
        have A8 := Aside0.mk A80
        clear A80
        simp only [Option.some.injEq, Prod.mk.injEq] at H
        obtain ⟨rfl, rfl⟩ := H
        go_enter Try.func40, Try.ntmps40
        go_wp2_with (first | ((with_reducible refine gate_callee (f := 103) rfl ?_); refine goesL_ (some 8) rfl rfl Try.func103 (by kernel_rfl) rfl #[.int .i64 a1] rfl (by (try simp only [List.map_toArray, List.map_cons, List.map_nil]); first | done | rfl | (simp only [List.length_drop, List.length_take]; rfl)) ?_; (with_reducible refine (fee_may.calls a1 true _ A3.out).mono ?_); rintro e w' ⟨rfl, ⟨nd, rfl⟩⟩; refine ⟨_, rfl, ?_⟩) | (go_at_call 31; (with_reducible refine (cents_In.calls a0 true _ A6.out).mono ?_); rintro e w' ⟨rfl, ⟨nd, rfl⟩⟩) | ((with_reducible refine gate_callee (f := 35) rfl ?_); refine goesL_ (some 20) rfl rfl Try.func35 (by kernel_rfl) rfl #[.int .i64 a0, .int .i64 a1, .int .i64 10000] rfl (by (try simp only [List.map_toArray, List.map_cons, List.map_nil]); first | done | rfl | (simp only [List.length_drop, List.length_take]; rfl)) ?_; (with_reducible refine (cents_Half.calls k a0 a1 10000 t255 t256 _ A8.out).mono ?_); rintro e w9 ⟨rfl, hb⟩; refine ⟨_, rfl, ?_⟩; have n0_ := Aside0.mk (below_step (by repeat (first | (with_reducible first | exact HB.out | apply below_alloc | apply pw_below_drewN | apply below_drew1) | exact HB.out)) hb); clear HB; have HB := n0_; clear n0_; (try clear hb); (try clear hb2); (try clear hk); (try clear hi)))
        go_ret2
        exact ⟨by first | rfl | (simp [errW_none, errW_some] <;> rfl) | (simp [*, errW_none, errW_some] <;> rfl), by repeat (first | (with_reducible first | exact HB.out | apply below_alloc | apply pw_below_drewN | apply below_drew1) | exact HB.out)⟩
      · replace c7 := Bool.eq_false_iff.mpr c7
        subst c7
        have H1 : (some (0, 8)) = some (r1, r2) := by first | (rw [if_neg (show ¬ (false = true) by decide)] at H; exact H) | rfl
        clear H
        have H := H1
        clear H1
        simp only [Option.some.injEq, Prod.mk.injEq] at H
        obtain ⟨rfl, rfl⟩ := H
        go_enter Try.func40, Try.ntmps40
        go_wp2_with (first | ((with_reducible refine gate_callee (f := 103) rfl ?_); refine goesL_ (some 8) rfl rfl Try.func103 (by kernel_rfl) rfl #[.int .i64 a1] rfl (by (try simp only [List.map_toArray, List.map_cons, List.map_nil]); first | done | rfl | (simp only [List.length_drop, List.length_take]; rfl)) ?_; (with_reducible refine (fee_may.calls a1 true _ A3.out).mono ?_); rintro e w' ⟨rfl, ⟨nd, rfl⟩⟩; refine ⟨_, rfl, ?_⟩) | (go_at_call 31; (with_reducible refine (cents_In.calls a0 false _ A6.out).mono ?_); rintro e w' ⟨rfl, ⟨nd, rfl⟩⟩))
        go_ret2
        exact ⟨by first | rfl | (simp [errW_none, errW_some] <;> rfl) | (simp [*, errW_none, errW_some] <;> rfl), by repeat (first | (with_reducible first | exact HB.out | apply below_alloc | apply pw_below_drewN | apply below_drew1) | exact HB.out)⟩
  · replace c4 := Bool.eq_false_iff.mpr c4
    subst c4
    have H1 : (some (0, 2)) = some (r1, r2) := by first | (rw [if_neg (show ¬ (false = true) by decide)] at H; exact H) | rfl
    clear H
    have H := H1
    clear H1
    simp only [Option.some.injEq, Prod.mk.injEq] at H
    obtain ⟨rfl, rfl⟩ := H
    go_enter Try.func40, Try.ntmps40
    go_wp2_with (first | ((with_reducible refine gate_callee (f := 103) rfl ?_); refine goesL_ (some 8) rfl rfl Try.func103 (by kernel_rfl) rfl #[.int .i64 a1] rfl (by (try simp only [List.map_toArray, List.map_cons, List.map_nil]); first | done | rfl | (simp only [List.length_drop, List.length_take]; rfl)) ?_; (with_reducible refine (fee_may.calls a1 false _ A3.out).mono ?_); rintro e w' ⟨rfl, ⟨nd, rfl⟩⟩; refine ⟨_, rfl, ?_⟩))
    go_ret2
    exact ⟨by first | rfl | (simp [errW_none, errW_some] <;> rfl) | (simp [*, errW_none, errW_some] <;> rfl), by repeat (first | (with_reducible first | exact HB.out | apply below_alloc | apply pw_below_drewN | apply below_drew1) | exact HB.out)⟩

end Go.Proofs.Ytefhljhpcpajgaa.F

namespace Go.Proofs.Ytefhljhpcpajgaa.F
open Go.RowKit Go.Proofs.YtefhljhpcpajgaaX Go.Proofs.YtefhljhpcpajgaaW.PrintWords Go.Proofs.YtefhljhpcpajgaaW.PrintLast Go.Proofs.YtefhljhpcpajgaaW.PrintMore
attribute [local go_sem] max2_int min2_int max_two min_two max_three min_three max_four min_four   -- for this text's walks alone
set_option linter.unusedVariables false
set_option linter.unusedSimpArgs false

/-! ### cents_Sub: function 27 -/
def cents_Sub.f (a0 : Int) (a1 : Int) : Option (Int × Int) := (cents_In.f a0).bind fun t105 => (if t105 = true then ((cents_In.f a1).bind fun t106 => (if t106 = true then ((cents_told.f (wrap64 (a0 - a1))).bind fun bt107 => (some (bt107.1, bt107.2))) else (some (0, 8)))) else (some (0, 8)))
set_option maxHeartbeats 8000000 in
set_option maxRecDepth 100000 in
theorem cents_Sub.calls (a0 : Int) (a1 : Int) (r1 : Int) (r2 : Int) (w : World) (h : cents_Sub.f a0 a1 = some (r1, r2)) :
    Calls Try.prog 27 #[.int .i64 a0, .int .i64 a1] w fun e w' => e = .returned (.tuple #[.int .i64 r1, .int .i64 r2]) ∧ Drawn0 w w' := by
  have H : ((cents_In.f a0).bind fun t105 => (if t105 = true then ((cents_In.f a1).bind fun t106 => (if t106 = true then ((cents_told.f (wrap64 (a0 - a1))).bind fun bt107 => (some (bt107.1, bt107.2))) else (some (0, 8)))) else (some (0, 8)))) = some (r1, r2) := h
  clear h
  replace H := Option.bind_eq_some_iff.mp H
  obtain ⟨t105, A30, H⟩ := H
  replace H : (if t105 = true then ((cents_In.f a1).bind fun t106 => (if t106 = true then ((cents_told.f (wrap64 (a0 - a1))).bind fun bt107 => (some (bt107.1, bt107.2))) else (some (0, 8)))) else (some (0, 8))) = some (r1, r2) := H
  have A3 := Aside0.mk A30
  clear A30
  by_cases c4 : t105 = true
  · subst c4
    have H1 : ((cents_In.f a1).bind fun t106 => (if t106 = true then ((cents_told.f (wrap64 (a0 - a1))).bind fun bt107 => (some (bt107.1, bt107.2))) else (some (0, 8)))) = some (r1, r2) := by first | (rw [if_pos rfl] at H; exact H) | rfl
    clear H
    have H := H1
    clear H1
    replace H := Option.bind_eq_some_iff.mp H
    obtain ⟨t106, A50, H⟩ := H
    replace H : (if t106 = true then ((cents_told.f (wrap64 (a0 - a1))).bind fun bt107 => (some (bt107.1, bt107.2))) else (some (0, 8))) = some (r1, r2) := H
    have A5 := Aside0.mk A50
    clear A50
    by_cases c6 : t106 = true
    · subst c6
      have H1 : ((cents_told.f (wrap64 (a0 - a1))).bind fun bt107 => (some (bt107.1, bt107.2))) = some (r1, r2) := by first | (rw [if_pos rfl] at H; exact H) | rfl
      clear H
      have H := H1
      clear H1
      replace H := Option.bind_eq_some_iff.mp H
      obtain ⟨⟨t107, t108⟩, A70, H⟩ := H
      replace H : (some (t107, t108)) = some (r1, r2) := H
      have A7 := Aside0.mk A70
      clear A70
      simp only [Option.some.injEq, Prod.mk.injEq] at H
      obtain ⟨rfl, rfl⟩ := H
      go_enter Try.func27, Try.ntmps27
      go_wp2_with (first | ((with_reducible refine gate_callee (f := 31) rfl ?_); refine goesL_ (some 7) rfl rfl Try.func31 (by kernel_rfl) rfl #[.int .i64 a0] rfl (by (try simp only [List.map_toArray, List.map_cons, List.map_nil]); first | done | rfl | (simp only [List.length_drop, List.length_take]; rfl)) ?_; (with_reducible refine (cents_In.calls a0 true _ A3.out).mono ?_); rintro e w' ⟨rfl, ⟨nd, rfl⟩⟩; refine ⟨_, rfl, ?_⟩) | (go_at_call 31; (with_reducible refine (cents_In.calls a1 true _ A5.out).mono ?_); rintro e w' ⟨rfl, ⟨nd, rfl⟩⟩) | ((with_reducible refine gate_callee (f := 96) rfl ?_); refine goesL_ (some 17) rfl rfl Try.func96 (by kernel_rfl) rfl #[.int .i64 (wrap64 (a0 - a1))] rfl (by (try simp only [List.map_toArray, List.map_cons, List.map_nil]); first | done | rfl | (simp only [List.length_drop, List.length_take]; rfl)) ?_; (with_reducible refine (cents_told.calls (wrap64 (a0 - a1)) t107 t108 _ A7.out).mono ?_); rintro e w' ⟨rfl, ⟨nd, rfl⟩⟩; refine ⟨_, rfl, ?_⟩))
      go_ret2
      exact ⟨by first | rfl | (simp; done) | (simp [*]; done), by repeat (first | exact Drawn0.refl _ | apply Drawn0.step)⟩
    · replace c6 := Bool.eq_false_iff.mpr c6
      subst c6
      have H1 : (some (0, 8)) = some (r1, r2) := by first | (rw [if_neg (show ¬ (false = true) by decide)] at H; exact H) | rfl
      clear H
      have H := H1
      clear H1
      simp only [Option.some.injEq, Prod.mk.injEq] at H
      obtain ⟨rfl, rfl⟩ := H
      go_enter Try.func27, Try.ntmps27
      go_wp2_with (first | ((with_reducible refine gate_callee (f := 31) rfl ?_); refine goesL_ (some 7) rfl rfl Try.func31 (by kernel_rfl) rfl #[.int .i64 a0] rfl (by (try simp only [List.map_toArray, List.map_cons, List.map_nil]); first | done | rfl | (simp only [List.length_drop, List.length_take]; rfl)) ?_; (with_reducible refine (cents_In.calls a0 true _ A3.out).mono ?_); rintro e w' ⟨rfl, ⟨nd, rfl⟩⟩; refine ⟨_, rfl, ?_⟩) | (go_at_call 31; (with_reducible refine (cents_In.calls a1 false _ A5.out).mono ?_); rintro e w' ⟨rfl, ⟨nd, rfl⟩⟩))
      go_ret2
      exact ⟨by first | rfl | (simp; done) | (simp [*]; done), by repeat (first | exact Drawn0.refl _ | apply Drawn0.step)⟩
  · replace c4 := Bool.eq_false_iff.mpr c4
    subst c4
    have H1 : (some (0, 8)) = some (r1, r2) := by first | (rw [if_neg (show ¬ (false = true) by decide)] at H; exact H) | rfl
    clear H
    have H := H1
    clear H1
    simp only [Option.some.injEq, Prod.mk.injEq] at H
    obtain ⟨rfl, rfl⟩ := H
    go_enter Try.func27, Try.ntmps27
    go_wp2_with (first | ((with_reducible refine gate_callee (f := 31) rfl ?_); refine goesL_ (some 7) rfl rfl Try.func31 (by kernel_rfl) rfl #[.int .i64 a0] rfl (by (try simp only [List.map_toArray, List.map_cons, List.map_nil]); first | done | rfl | (simp only [List.length_drop, List.length_take]; rfl)) ?_; (with_reducible refine (cents_In.calls a0 false _ A3.out).mono ?_); rintro e w' ⟨rfl, ⟨nd, rfl⟩⟩; refine ⟨_, rfl, ?_⟩))
    go_ret2
    exact ⟨by first | rfl | (simp; done) | (simp [*]; done), by repeat (first | exact Drawn0.refl _ | apply Drawn0.step)⟩

end Go.Proofs.Ytefhljhpcpajgaa.F

namespace Go.Proofs.Ytefhljhpcpajgaa.F
open Go.RowKit Go.Proofs.YtefhljhpcpajgaaX Go.Proofs.YtefhljhpcpajgaaW.PrintWords Go.Proofs.YtefhljhpcpajgaaW.PrintLast Go.Proofs.YtefhljhpcpajgaaW.PrintMore
attribute [local go_sem] max2_int min2_int max_two min_two max_three min_three max_four min_four   -- for this text's walks alone
set_option linter.unusedVariables false
set_option linter.unusedSimpArgs false

/-! ### fee_paid_less: function 104 -/
def fee_paid_less.f (k : Nat) (a0 : Int) (a1 : Int) : Option (Int × Int) := (fee_Of.f k a0 a1).bind fun bt257 => (if bt257.2 = 0 then ((cents_Sub.f a0 bt257.1).bind fun bt259 => (some (bt259.1, bt259.2))) else (some (0, bt257.2)))
theorem fee_paid_less.mono : ∀ a0 a1 k, LeO (fee_paid_less.f k a0 a1) (fee_paid_less.f (k + 1) a0 a1) := by
  intro a0 a1 k
  unfold fee_paid_less.f
  repeat' first
      | (with_reducible exact fee_Of.mono _ _ _)
      | (with_reducible exact LeO.refl _)
      | (with_reducible exact LeO.none _)
      | (with_reducible refine LeO.ite ?_ ?_)
      | (with_reducible refine LeO.bind ?_ (fun _ => ?_))
      | exact fee_Of.mono _ _ _
      | exact LeO.none _
      | refine LeO.ite ?_ ?_
      | refine LeO.bind ?_ (fun _ => ?_)
set_option maxHeartbeats 8000000 in
set_option maxRecDepth 100000 in
theorem fee_paid_less.calls (k : Nat) (a0 : Int) (a1 : Int) (r1 : Int) (r2 : Int) (w : World) (h : fee_paid_less.f k a0 a1 = some (r1, r2)) :
    Calls Try.prog 104 #[.int .i64 a0, .int .i64 a1] w fun e w' => e = .returned (.tuple #[.int .i64 r1, .int .i64 r2]) ∧ Below w.heap.size w w' := by
  have HB := Aside0.mk (Below.refl w.heap.size w)
  have H : ((fee_Of.f k a0 a1).bind fun bt257 => (if bt257.2 = 0 then ((cents_Sub.f a0 bt257.1).bind fun bt259 => (some (bt259.1, bt259.2))) else (some (0, bt257.2)))) = some (r1, r2) := h
  clear h
  replace H := Option.bind_eq_some_iff.mp H
  obtain ⟨⟨t257, t258⟩, A30, H⟩ := H
  replace H : (if t258 = 0 then ((cents_Sub.f a0 t257).bind fun bt259 => (some (bt259.1, bt259.2))) else (some (0, t258))) = some (r1, r2) := H
  have A3 := Aside0.mk A30
  clear A30
  by_cases c4 : t258 = 0
  · rw [if_pos c4] at H
    have c4b0 : (t258 == 0) = true := beq_iff_eq.mpr c4
    have c4b1 : (t258 != 0) = false := bne_eq_false_iff_eq.mpr c4
    clear c4
    replace H := Option.bind_eq_some_iff.mp H
    obtain ⟨⟨t259, t260⟩, A50, H⟩ := H
    replace H : (some (t259, t260)) = some (r1, r2) := H
    have A5 := Aside0.mk A50
    clear A50
    simp only [Option.some.injEq, Prod.mk.injEq] at H
    obtain ⟨rfl, rfl⟩ := H
    go_enter Try.func104, Try.ntmps104
    go_wp2_with (first | ((with_reducible refine gate_callee (f := 40) rfl ?_); refine goesL_ (some 11) rfl rfl Try.func40 (by kernel_rfl) rfl #[.int .i64 a0, .int .i64 a1] rfl (by (try simp only [List.map_toArray, List.map_cons, List.map_nil]); first | done | rfl | (simp only [List.length_drop, List.length_take]; rfl)) ?_; (with_reducible refine (fee_Of.calls k a0 a1 t257 t258 _ A3.out).mono ?_); rintro e w6 ⟨rfl, hb⟩; refine ⟨_, rfl, ?_⟩; have n0_ := Aside0.mk (below_step (by repeat (first | (with_reducible first | exact HB.out | apply below_alloc | apply pw_below_drewN | apply below_drew1) | exact HB.out)) hb); clear HB; have HB := n0_; clear n0_; (try clear hb); (try clear hb2); (try clear hk); (try clear hi)) | ((with_reducible refine gate_callee (f := 27) rfl ?_); refine goesL_ (some 19) rfl rfl Try.func27 (by kernel_rfl) rfl #[.int .i64 a0, .int .i64 t257] rfl (by (try simp only [List.map_toArray, List.map_cons, List.map_nil]); first | done | rfl | (simp only [List.length_drop, List.length_take]; rfl)) ?_; (with_reducible refine (cents_Sub.calls a0 t257 t259 t260 _ A5.out).mono ?_); rintro e w' ⟨rfl, ⟨nd, rfl⟩⟩; refine ⟨_, rfl, ?_⟩))
    go_ret2
    exact ⟨by first | rfl | (simp [errW_none, errW_some] <;> rfl) | (simp [*, errW_none, errW_some] <;> rfl), by repeat (first | (with_reducible first | exact HB.out | apply below_alloc | apply pw_below_drewN | apply below_drew1) | exact HB.out)⟩
  · rw [if_neg c4] at H
    have c4b0 : (t258 == 0) = false := beq_eq_false_iff_ne.mpr c4
    have c4b1 : (t258 != 0) = true := bne_iff_ne.mpr c4
    simp only [Option.some.injEq, Prod.mk.injEq] at H
    obtain ⟨rfl, rfl⟩ := H
    go_enter Try.func104, Try.ntmps104
    go_wp2_with (first | ((with_reducible refine gate_callee (f := 40) rfl ?_); refine goesL_ (some 11) rfl rfl Try.func40 (by kernel_rfl) rfl #[.int .i64 a0, .int .i64 a1] rfl (by (try simp only [List.map_toArray, List.map_cons, List.map_nil]); first | done | rfl | (simp only [List.length_drop, List.length_take]; rfl)) ?_; (with_reducible refine (fee_Of.calls k a0 a1 t257 t258 _ A3.out).mono ?_); rintro e w7 ⟨rfl, hb⟩; refine ⟨_, rfl, ?_⟩; have n0_ := Aside0.mk (below_step (by repeat (first | (with_reducible first | exact HB.out | apply below_alloc | apply pw_below_drewN | apply below_drew1) | exact HB.out)) hb); clear HB; have HB := n0_; clear n0_; (try clear hb); (try clear hb2); (try clear hk); (try clear hi)))
    go_ret2
    exact ⟨by first | rfl | (simp [errW_none, errW_some] <;> rfl) | (simp [*, errW_none, errW_some] <;> rfl), by repeat (first | (with_reducible first | exact HB.out | apply below_alloc | apply pw_below_drewN | apply below_drew1) | exact HB.out)⟩

end Go.Proofs.Ytefhljhpcpajgaa.F

namespace Go.Proofs.Ytefhljhpcpajgaa.F
open Go.RowKit Go.Proofs.YtefhljhpcpajgaaX Go.Proofs.YtefhljhpcpajgaaW.PrintWords Go.Proofs.YtefhljhpcpajgaaW.PrintLast Go.Proofs.YtefhljhpcpajgaaW.PrintMore
attribute [local go_sem] max2_int min2_int max_two min_two max_three min_three max_four min_four   -- for this text's walks alone
set_option linter.unusedVariables false
set_option linter.unusedSimpArgs false

/-! ### fee_Less: function 42 -/
def fee_Less.f (k : Nat) (a0 : Int) (a1 : Int) : Option (Int × Int) := (fee_paid_less.f k a0 a1).bind fun bt261 => (some (bt261.1, bt261.2))
theorem fee_Less.mono : ∀ a0 a1 k, LeO (fee_Less.f k a0 a1) (fee_Less.f (k + 1) a0 a1) := by
  intro a0 a1 k
  unfold fee_Less.f
  repeat' first
      | (with_reducible exact fee_paid_less.mono _ _ _)
      | (with_reducible exact LeO.refl _)
      | (with_reducible exact LeO.none _)
      | (with_reducible refine LeO.ite ?_ ?_)
      | (with_reducible refine LeO.bind ?_ (fun _ => ?_))
      | exact fee_paid_less.mono _ _ _
      | exact LeO.none _
      | refine LeO.ite ?_ ?_
      | refine LeO.bind ?_ (fun _ => ?_)
set_option maxHeartbeats 8000000 in
set_option maxRecDepth 100000 in
theorem fee_Less.calls (k : Nat) (a0 : Int) (a1 : Int) (r1 : Int) (r2 : Int) (w : World) (h : fee_Less.f k a0 a1 = some (r1, r2)) :
    Calls Try.prog 42 #[.int .i64 a0, .int .i64 a1] w fun e w' => e = .returned (.tuple #[.int .i64 r1, .int .i64 r2]) ∧ Below w.heap.size w w' := by
  have HB := Aside0.mk (Below.refl w.heap.size w)
  have H : ((fee_paid_less.f k a0 a1).bind fun bt261 => (some (bt261.1, bt261.2))) = some (r1, r2) := h
  clear h
  replace H := Option.bind_eq_some_iff.mp H
  obtain ⟨⟨t261, t262⟩, A30, H⟩ := H
  replace H : (some (t261, t262)) = some (r1, r2) := H
  have A3 := Aside0.mk A30
  clear A30
  simp only [Option.some.injEq, Prod.mk.injEq] at H
  obtain ⟨rfl, rfl⟩ := H
  go_enter Try.func42, Try.ntmps42
  go_wp2_with (first | ((with_reducible refine gate_callee (f := 104) rfl ?_); refine goesL_ (some 8) rfl rfl Try.func104 (by kernel_rfl) rfl #[.int .i64 a0, .int .i64 a1] rfl (by (try simp only [List.map_toArray, List.map_cons, List.map_nil]); first | done | rfl | (simp only [List.length_drop, List.length_take]; rfl)) ?_; (with_reducible refine (fee_paid_less.calls k a0 a1 t261 t262 _ A3.out).mono ?_); rintro e w4 ⟨rfl, hb⟩; refine ⟨_, rfl, ?_⟩; have n0_ := Aside0.mk (below_step (by repeat (first | (with_reducible first | exact HB.out | apply below_alloc | apply pw_below_drewN | apply below_drew1) | exact HB.out)) hb); clear HB; have HB := n0_; clear n0_; (try clear hb); (try clear hb2); (try clear hk); (try clear hi)))
  go_ret2
  exact ⟨by first | rfl | (simp [errW_none, errW_some] <;> rfl) | (simp [*, errW_none, errW_some] <;> rfl), by repeat (first | (with_reducible first | exact HB.out | apply below_alloc | apply pw_below_drewN | apply below_drew1) | exact HB.out)⟩

end Go.Proofs.Ytefhljhpcpajgaa.F

namespace Go.Proofs.Ytefhljhpcpajgaa.F
open Go.RowKit Go.Proofs.YtefhljhpcpajgaaX Go.Proofs.YtefhljhpcpajgaaW.PrintWords Go.Proofs.YtefhljhpcpajgaaW.PrintLast Go.Proofs.YtefhljhpcpajgaaW.PrintMore
attribute [local go_sem] max2_int min2_int max_two min_two max_three min_three max_four min_four   -- for this text's walks alone
set_option linter.unusedVariables false
set_option linter.unusedSimpArgs false

/-! ### fee_Check: function 48 -/
def fee_Check.l0 : Nat → Int → List Int → Int → Int → Option (Int)
  | 0, _, _, _, _ => none
  | k + 1, x3, x9, x10, x11 => if x11 < x10 then (if 0 ≤ x11 then (if x11 < (x9.length : Int) then ((fee_may.f (rd x9 x11)).bind fun t264 => (if t264 = true then (if (rd x9 x11) < x3 then (some 36) else (fee_Check.l0 k (rd x9 x11) x9 x10 (wrap64 (x11 + 1)))) else (some 36))) else (none)) else (none)) else (some 0)
def fee_Check.f (k : Nat) (l0 : List Int) : Option (Int) := if (l0.length : Int) = 4 then (fee_Check.l0 k 0 l0 (l0.length : Int) 0) else (some 36)
theorem fee_Check.mono_l : ∀ k, (∀ y0 y1 y2 y3, LeO (fee_Check.l0 k y0 y1 y2 y3) (fee_Check.l0 (k + 1) y0 y1 y2 y3))
  | 0 => fun _ _ _ _ r h => by simp [fee_Check.l0] at h
  | k + 1 => by
    have ih0 := fee_Check.mono_l k
    · intro y0 y1 y2 y3
      unfold fee_Check.l0
      repeat' first
      | (with_reducible exact ih0 _ _ _ _)
      | (with_reducible exact LeO.refl _)
      | (with_reducible exact LeO.none _)
      | (with_reducible refine LeO.ite ?_ ?_)
      | (with_reducible refine LeO.bind ?_ (fun _ => ?_))
      | exact ih0 _ _ _ _
      | exact LeO.none _
      | refine LeO.ite ?_ ?_
      | refine LeO.bind ?_ (fun _ => ?_)
theorem fee_Check.mono : ∀ a0 k, LeO (fee_Check.f k a0) (fee_Check.f (k + 1) a0) := by
  intro a0 k
  have ih0 := fee_Check.mono_l k
  unfold fee_Check.f
  repeat' first
      | (with_reducible exact ih0 _ _ _ _)
      | (with_reducible exact LeO.refl _)
      | (with_reducible exact LeO.none _)
      | (with_reducible refine LeO.ite ?_ ?_)
      | (with_reducible refine LeO.bind ?_ (fun _ => ?_))
      | exact ih0 _ _ _ _
      | exact LeO.none _
      | refine LeO.ite ?_ ?_
      | refine LeO.bind ?_ (fun _ => ?_)
set_option maxHeartbeats 8000000 in
set_option maxRecDepth 100000 in
theorem fee_Check.calls (k : Nat) (A0 : Option Addr) (c0 : Nat) (l0 : List Int) (r : Int) (w : World) (hr0 : Kd.C (Kd.int .i64) w A0 l0.length l0) (hc0 : l0.length ≤ c0) (h : fee_Check.f k l0 = some r) :
    Calls Try.prog 48 #[.slice A0 l0.length c0] w fun e w' => e = .returned (.int .i64 r) ∧ Drawn0 w w' := by
  have HR0 := Aside0.mk hr0
  have HC0 := Aside0.mk hc0
  clear hr0 hc0
  have H : (if (l0.length : Int) = 4 then (fee_Check.l0 k 0 l0 (l0.length : Int) 0) else (some 36)) = some r := h
  clear h
  by_cases c2 : (l0.length : Int) = 4
  · rw [if_pos c2] at H
    have c2b0 : ((l0.length : Int) == 4) = true := beq_iff_eq.mpr c2
    have c2b1 : ((l0.length : Int) != 4) = false := bne_eq_false_iff_eq.mpr c2
    clear c2
    have H' := Aside0.mk H
    clear H
    go_enter Try.func48, Try.ntmps48
    go_wp2
    go_loopg [3, 11] k (fun kq v3 v11 w' => ∃ (x3_1 : Int) (x11_1 : Int), v3 = .int .i64 x3_1 ∧ v11 = .int .i64 x11_1 ∧ Aside0 (fee_Check.l0 kq x3_1 l0 (l0.length : Int) x11_1 = some r) ∧ Aside0 (kq ≤ k) ∧ Drawn0 w w')
    case atStart => exact ⟨(0), (0), (by first | rfl | (simp; done) | (simp [*]; done)), (by first | rfl | (simp; done) | (simp [*]; done)), H', ⟨Nat.le_refl _⟩, by repeat (first | exact Drawn0.refl _ | apply Drawn0.step)⟩
    case round =>
      clear H'
      try clear c2
      try clear c2b0
      try clear c2b1
      try clear p2
      obtain ⟨x3_1, x11_1, rfl, rfl, HA, HK1, ⟨m1, rfl⟩⟩ := hrel
      cases gk with
      | zero => exact absurd HA.out (by simp [fee_Check.l0])
      | succ k1 =>
        have H := HA.out
        clear HA
        simp only [fee_Check.l0] at H
        by_cases c3 : x11_1 < (l0.length : Int)
        · rw [if_pos c3] at H
          have c3b0 : decide (x11_1 < (l0.length : Int)) = true := decide_eq_true c3
          clear c3
          by_cases c4 : 0 ≤ x11_1
          · rw [if_pos c4] at H
            have c4b0 : decide (0 ≤ x11_1) = true := decide_eq_true c4
            clear c4
            by_cases c5 : x11_1 < (l0.length : Int)
            · rw [if_pos c5] at H
              have c5b0 : decide (x11_1 < (l0.length : Int)) = true := decide_eq_true c5
              clear c5
              replace H := Option.bind_eq_some_iff.mp H
              obtain ⟨t264, A60, H⟩ := H
              replace H : (if t264 = true then (if (rd l0 x11_1) < x3_1 then (some 36) else (fee_Check.l0 k1 (rd l0 x11_1) l0 (l0.length : Int) (wrap64 (x11_1 + 1)))) else (some 36)) = some r := H
              have A6 := Aside0.mk A60
              clear A60
              by_cases c7 : t264 = true
              · subst c7
                have H1 : (if (rd l0 x11_1) < x3_1 then (some 36) else (fee_Check.l0 k1 (rd l0 x11_1) l0 (l0.length : Int) (wrap64 (x11_1 + 1)))) = some r := by first | (rw [if_pos rfl] at H; exact H) | rfl
                clear H
                have H := H1
                clear H1
                by_cases c8 : (rd l0 x11_1) < x3_1
                · rw [if_pos c8] at H
                  have c8b0 : decide ((rd l0 x11_1) < x3_1) = true := decide_eq_true c8
                  clear c8
                  obtain rfl := Option.some.inj H
                  have p263 : 0 ≤ (x11_1 : Int) := of_decide_eq_true (by first | (with_reducible assumption) | assumption)
                  have q263 : x11_1 < (l0.length : Int) := of_decide_eq_true (by first | (with_reducible assumption) | assumption)
                  obtain ⟨ad263, e263, hx263_0⟩ := Kd.at_int HR0.out x11_1 p263 q263
                  cases e263
                  replace p263 := eq_true p263
                  replace q263 := eq_true q263
                  go_wp2_with (first | ((with_reducible refine gate_callee (f := 103) rfl ?_); refine goesL_ (some 16) rfl rfl Try.func103 (by kernel_rfl) rfl #[.int .i64 (rd l0 x11_1)] rfl (by (try simp only [List.map_toArray, List.map_cons, List.map_nil]); first | done | rfl | (simp only [List.length_drop, List.length_take]; rfl)) ?_; (with_reducible refine (fee_may.calls (rd l0 x11_1) true _ A6.out).mono ?_); rintro e w' ⟨rfl, ⟨nd, rfl⟩⟩; refine ⟨_, rfl, ?_⟩))
                  go_ret
                  exact ⟨by first | rfl | (simp; done) | (simp [*]; done), by repeat (first | exact Drawn0.refl _ | apply Drawn0.step)⟩
                · rw [if_neg c8] at H
                  have c8b0 : decide ((rd l0 x11_1) < x3_1) = false := decide_eq_false c8
                  clear c8
                  have H' := Aside0.mk H
                  clear H
                  have p263 : 0 ≤ (x11_1 : Int) := of_decide_eq_true (by first | (with_reducible assumption) | assumption)
                  have q263 : x11_1 < (l0.length : Int) := of_decide_eq_true (by first | (with_reducible assumption) | assumption)
                  obtain ⟨ad263, e263, hx263_0⟩ := Kd.at_int HR0.out x11_1 p263 q263
                  cases e263
                  replace p263 := eq_true p263
                  replace q263 := eq_true q263
                  go_wp2_with (first | ((with_reducible refine gate_callee (f := 103) rfl ?_); refine goesL_ (some 16) rfl rfl Try.func103 (by kernel_rfl) rfl #[.int .i64 (rd l0 x11_1)] rfl (by (try simp only [List.map_toArray, List.map_cons, List.map_nil]); first | done | rfl | (simp only [List.length_drop, List.length_take]; rfl)) ?_; (with_reducible refine (fee_may.calls (rd l0 x11_1) true _ A6.out).mono ?_); rintro e w' ⟨rfl, ⟨nd, rfl⟩⟩; refine ⟨_, rfl, ?_⟩))
                  go_roundg k1
                  case measure => have := HK1.out; omega
                  case rel => exact ⟨(rd l0 x11_1), (wrap64 (x11_1 + 1)), (by first | rfl | (simp; done) | (simp [*]; done)), (by first | rfl | (simp; done) | (simp [*]; done)), H', ⟨by have := HK1.out; omega⟩, by repeat (first | exact Drawn0.refl _ | apply Drawn0.step)⟩
              · replace c7 := Bool.eq_false_iff.mpr c7
                subst c7
                have H1 : (some 36) = some r := by first | (rw [if_neg (show ¬ (false = true) by decide)] at H; exact H) | rfl
                clear H
                have H := H1
                clear H1
                obtain rfl := Option.some.inj H
                have p263 : 0 ≤ (x11_1 : Int) := of_decide_eq_true (by first | (with_reducible assumption) | assumption)
                have q263 : x11_1 < (l0.length : Int) := of_decide_eq_true (by first | (with_reducible assumption) | assumption)
                obtain ⟨ad263, e263, hx263_0⟩ := Kd.at_int HR0.out x11_1 p263 q263
                cases e263
                replace p263 := eq_true p263
                replace q263 := eq_true q263
                go_wp2_with (first | ((with_reducible refine gate_callee (f := 103) rfl ?_); refine goesL_ (some 16) rfl rfl Try.func103 (by kernel_rfl) rfl #[.int .i64 (rd l0 x11_1)] rfl (by (try simp only [List.map_toArray, List.map_cons, List.map_nil]); first | done | rfl | (simp only [List.length_drop, List.length_take]; rfl)) ?_; (with_reducible refine (fee_may.calls (rd l0 x11_1) false _ A6.out).mono ?_); rintro e w' ⟨rfl, ⟨nd, rfl⟩⟩; refine ⟨_, rfl, ?_⟩))
                go_ret
                exact ⟨by first | rfl | (simp; done) | (simp [*]; done), by repeat (first | exact Drawn0.refl _ | apply Drawn0.step)⟩
            · rw [if_neg c5] at H
              exact absurd H (by simp)
          · rw [if_neg c4] at H
            exact absurd H (by simp)
        · rw [if_neg c3] at H
          have c3b0 : decide (x11_1 < (l0.length : Int)) = false := decide_eq_false c3
          clear c3
          obtain rfl := Option.some.inj H
          go_wp2
          go_ret
          exact ⟨by first | rfl | (simp; done) | (simp [*]; done), by repeat (first | exact Drawn0.refl _ | apply Drawn0.step)⟩
  · rw [if_neg c2] at H
    have c2b0 : ((l0.length : Int) == 4) = false := beq_eq_false_iff_ne.mpr c2
    have c2b1 : ((l0.length : Int) != 4) = true := bne_iff_ne.mpr c2
    obtain rfl := Option.some.inj H
    go_enter Try.func48, Try.ntmps48
    go_wp2
    go_ret
    exact ⟨by first | rfl | (simp; done) | (simp [*]; done), by repeat (first | exact Drawn0.refl _ | apply Drawn0.step)⟩

end Go.Proofs.Ytefhljhpcpajgaa.F

namespace Go.Proofs.Ytefhljhpcpajgaa.F
open Go.RowKit Go.Proofs.YtefhljhpcpajgaaX Go.Proofs.YtefhljhpcpajgaaW.PrintWords Go.Proofs.YtefhljhpcpajgaaW.PrintLast Go.Proofs.YtefhljhpcpajgaaW.PrintMore
attribute [local go_sem] max2_int min2_int max_two min_two max_three min_three max_four min_four   -- for this text's walks alone
set_option linter.unusedVariables false
set_option linter.unusedSimpArgs false

/-! ### fee_Grade: function 44 -/
def fee_Grade.f (k : Nat) (a0 : Int) (l1 : List Int) (a2 : Int) : Option (Int × Int) := (fee_Check.f k l1).bind fun t265 => (if t265 = 0 then (if a2 < 0 then (some (0, 2)) else (if a2 ≥ 4 then (some (0, 2)) else (if 0 ≤ a2 then (if a2 < (l1.length : Int) then ((fee_Less.f k a0 (rd l1 a2)).bind fun bt267 => (some (bt267.1, bt267.2))) else (none)) else (none)))) else (some (0, t265)))
theorem fee_Grade.mono : ∀ a0 a1 a2 k, LeO (fee_Grade.f k a0 a1 a2) (fee_Grade.f (k + 1) a0 a1 a2) := by
  intro a0 a1 a2 k
  unfold fee_Grade.f
  repeat' first
      | (with_reducible exact fee_Check.mono _ _)
      | (with_reducible exact fee_Less.mono _ _ _)
      | (with_reducible exact LeO.refl _)
      | (with_reducible exact LeO.none _)
      | (with_reducible refine LeO.ite ?_ ?_)
      | (with_reducible refine LeO.bind ?_ (fun _ => ?_))
      | exact fee_Check.mono _ _
      | exact fee_Less.mono _ _ _
      | exact LeO.none _
      | refine LeO.ite ?_ ?_
      | refine LeO.bind ?_ (fun _ => ?_)
set_option maxHeartbeats 8000000 in
set_option maxRecDepth 100000 in
theorem fee_Grade.calls (k : Nat) (a0 : Int) (A1 : Option Addr) (c1 : Nat) (l1 : List Int) (a2 : Int) (r1 : Int) (r2 : Int) (w : World) (hr1 : Kd.C (Kd.int .i64) w A1 l1.length l1) (hc1 : l1.length ≤ c1) (h : fee_Grade.f k a0 l1 a2 = some (r1, r2)) :
    Calls Try.prog 44 #[.int .i64 a0, .slice A1 l1.length c1, .int .i64 a2] w fun e w' => e = .returned (.tuple #[.int .i64 r1, .int .i64 r2]) ∧ Below w.heap.size w w' := by
  have HR1 := Aside0.mk hr1
  have HC1 := Aside0.mk hc1
  clear hr1 hc1
  have HB := Aside0.mk (Below.refl w.heap.size w)
  have H : ((fee_Check.f k l1).bind fun t265 => (if t265 = 0 then (if a2 < 0 then (some (0, 2)) else (if a2 ≥ 4 then (some (0, 2)) else (if 0 ≤ a2 then (if a2 < (l1.length : Int) then ((fee_Less.f k a0 (rd l1 a2)).bind fun bt267 => (some (bt267.1, bt267.2))) else (none)) else (none)))) else (some (0, t265)))) = some (r1, r2) := h
  clear h
  replace H := Option.bind_eq_some_iff.mp H
  obtain ⟨t265, A40, H⟩ := H
  replace H : (if t265 = 0 then (if a2 < 0 then (some (0, 2)) else (if a2 ≥ 4 then (some (0, 2)) else (if 0 ≤ a2 then (if a2 < (l1.length : Int) then ((fee_Less.f k a0 (rd l1 a2)).bind fun bt267 => (some (bt267.1, bt267.2))) else (none)) else (none)))) else (some (0, t265))) = some (r1, r2) := H
  have A4 := Aside0.mk A40
  clear A40
  by_cases c5 : t265 = 0
  · rw [if_pos c5] at H
    have c5b0 : (t265 == 0) = true := beq_iff_eq.mpr c5
    have c5b1 : (t265 != 0) = false := bne_eq_false_iff_eq.mpr c5
    clear c5
    by_cases c6 : a2 < 0
    · rw [if_pos c6] at H
      have c6b0 : decide (a2 < 0) = true := decide_eq_true c6
      clear c6
      simp only [Option.some.injEq, Prod.mk.injEq] at H
      obtain ⟨rfl, rfl⟩ := H
      go_enter Try.func44, Try.ntmps44
      go_wp2_with (first | ((with_reducible refine gate_callee (f := 48) rfl ?_); refine goesL_ (some 10) rfl rfl Try.func48 (by kernel_rfl) rfl #[.slice A1 l1.length c1] rfl (by (try simp only [List.map_toArray, List.map_cons, List.map_nil]); first | done | rfl | (simp only [List.length_drop, List.length_take]; rfl)) ?_; (with_reducible refine (fee_Check.calls k _ _ l1 t265 _ ?side1 ?side2 A4.out).mono ?_); (case side1 => repeat (first | exact HR1.out | (with_reducible refine Kd.C_alloc ?_ _) | (with_reducible refine Kd.C_drewN ?_ _) | (with_reducible refine Kd.C_drew ?_))); (case side2 => exact HC1.out); rintro e w' ⟨rfl, ⟨nd, rfl⟩⟩; refine ⟨_, rfl, ?_⟩))
      go_ret2
      exact ⟨by first | rfl | (simp [errW_none, errW_some] <;> rfl) | (simp [*, errW_none, errW_some] <;> rfl), by repeat (first | (with_reducible first | exact HB.out | apply below_alloc | apply pw_below_drewN | apply below_drew1) | exact HB.out)⟩
    · rw [if_neg c6] at H
      have c6b0 : decide (a2 < 0) = false := decide_eq_false c6
      clear c6
      by_cases c7 : a2 ≥ 4
      · rw [if_pos c7] at H
        have c7b0 : decide (4 ≤ a2) = true := decide_eq_true c7
        clear c7
        simp only [Option.some.injEq, Prod.mk.injEq] at H
        obtain ⟨rfl, rfl⟩ := H
        go_enter Try.func44, Try.ntmps44
        go_wp2_with (first | ((with_reducible refine gate_callee (f := 48) rfl ?_); refine goesL_ (some 10) rfl rfl Try.func48 (by kernel_rfl) rfl #[.slice A1 l1.length c1] rfl (by (try simp only [List.map_toArray, List.map_cons, List.map_nil]); first | done | rfl | (simp only [List.length_drop, List.length_take]; rfl)) ?_; (with_reducible refine (fee_Check.calls k _ _ l1 t265 _ ?side1 ?side2 A4.out).mono ?_); (case side1 => repeat (first | exact HR1.out | (with_reducible refine Kd.C_alloc ?_ _) | (with_reducible refine Kd.C_drewN ?_ _) | (with_reducible refine Kd.C_drew ?_))); (case side2 => exact HC1.out); rintro e w' ⟨rfl, ⟨nd, rfl⟩⟩; refine ⟨_, rfl, ?_⟩))
        go_ret2
        exact ⟨by first | rfl | (simp [errW_none, errW_some] <;> rfl) | (simp [*, errW_none, errW_some] <;> rfl), by repeat (first | (with_reducible first | exact HB.out | apply below_alloc | apply pw_below_drewN | apply below_drew1) | exact HB.out)⟩
      · rw [if_neg c7] at H
        have c7b0 : decide (4 ≤ a2) = false := decide_eq_false c7
        clear c7
        by_cases c8 : 0 ≤ a2
        · rw [if_pos c8] at H
          have c8b0 : decide (0 ≤ a2) = true := decide_eq_true c8
          clear c8
          by_cases c9 : a2 < (l1.length : Int)
          · rw [if_pos c9] at H
            have c9b0 : decide (a2 < (l1.length : Int)) = true := decide_eq_true c9
            clear c9
            replace H := Option.bind_eq_some_iff.mp H
            obtain ⟨⟨t267, t268⟩, A100, H⟩ := H
            replace H : (some (t267, t268)) = some (r1, r2) := H
            have A10 := Aside0.mk A100
            clear A100
            simp only [Option.some.injEq, Prod.mk.injEq] at H
            obtain ⟨rfl, rfl⟩ := H
            go_enter Try.func44, Try.ntmps44
            go_wp2_with (first | ((with_reducible refine gate_callee (f := 48) rfl ?_); refine goesL_ (some 10) rfl rfl Try.func48 (by kernel_rfl) rfl #[.slice A1 l1.length c1] rfl (by (try simp only [List.map_toArray, List.map_cons, List.map_nil]); first | done | rfl | (simp only [List.length_drop, List.length_take]; rfl)) ?_; (with_reducible refine (fee_Check.calls k _ _ l1 t265 _ ?side1 ?side2 A4.out).mono ?_); (case side1 => repeat (first | exact HR1.out | (with_reducible refine Kd.C_alloc ?_ _) | (with_reducible refine Kd.C_drewN ?_ _) | (with_reducible refine Kd.C_drew ?_))); (case side2 => exact HC1.out); rintro e w' ⟨rfl, ⟨nd, rfl⟩⟩; refine ⟨_, rfl, ?_⟩; have p266 : 0 ≤ (a2 : Int) := of_decide_eq_true (by first | (with_reducible assumption) | assumption); have q266 : a2 < (l1.length : Int) := of_decide_eq_true (by first | (with_reducible assumption) | assumption); obtain ⟨ad266, e266, hx266_0⟩ := Kd.at_int HR1.out a2 p266 q266; cases e266; replace p266 := eq_true p266; replace q266 := eq_true q266) | ((with_reducible refine gate_callee (f := 42) rfl ?_); refine goesL_ (some 25) rfl rfl Try.func42 (by kernel_rfl) rfl #[.int .i64 a0, .int .i64 (rd l1 a2)] rfl (by (try simp only [List.map_toArray, List.map_cons, List.map_nil]); first | done | rfl | (simp only [List.length_drop, List.length_take]; rfl)) ?_; (with_reducible refine (fee_Less.calls k a0 (rd l1 a2) t267 t268 _ A10.out).mono ?_); rintro e w11 ⟨rfl, hb⟩; refine ⟨_, rfl, ?_⟩; have n0_ := Aside0.mk (below_step (by repeat (first | (with_reducible first | exact HB.out | apply below_alloc | apply pw_below_drewN | apply below_drew1) | exact HB.out)) hb); clear HB; have HB := n0_; clear n0_; (try clear hb); (try clear hb2); (try clear hk); (try clear hi)))
            go_ret2
            exact ⟨by first | rfl | (simp [errW_none, errW_some] <;> rfl) | (simp [*, errW_none, errW_some] <;> rfl), by repeat (first | (with_reducible first | exact HB.out | apply below_alloc | apply pw_below_drewN | apply below_drew1) | exact HB.out)⟩
          · rw [if_neg c9] at H
            exact absurd H (by simp)
        · rw [if_neg c8] at H
          exact absurd H (by simp)
  · rw [if_neg c5] at H
    have c5b0 : (t265 == 0) = false := beq_eq_false_iff_ne.mpr c5
    have c5b1 : (t265 != 0) = true := bne_iff_ne.mpr c5
    simp only [Option.some.injEq, Prod.mk.injEq] at H
    obtain ⟨rfl, rfl⟩ := H
    go_enter Try.func44, Try.ntmps44
    go_wp2_with (first | ((with_reducible refine gate_callee (f := 48) rfl ?_); refine goesL_ (some 10) rfl rfl Try.func48 (by kernel_rfl) rfl #[.slice A1 l1.length c1] rfl (by (try simp only [List.map_toArray, List.map_cons, List.map_nil]); first | done | rfl | (simp only [List.length_drop, List.length_take]; rfl)) ?_; (with_reducible refine (fee_Check.calls k _ _ l1 t265 _ ?side1 ?side2 A4.out).mono ?_); (case side1 => repeat (first | exact HR1.out | (with_reducible refine Kd.C_alloc ?_ _) | (with_reducible refine Kd.C_drewN ?_ _) | (with_reducible refine Kd.C_drew ?_))); (case side2 => exact HC1.out); rintro e w' ⟨rfl, ⟨nd, rfl⟩⟩; refine ⟨_, rfl, ?_⟩))
    go_ret2
    exact ⟨by first | rfl | (simp [errW_none, errW_some] <;> rfl) | (simp [*, errW_none, errW_some] <;> rfl), by repeat (first | (with_reducible first | exact HB.out | apply below_alloc | apply pw_below_drewN | apply below_drew1) | exact HB.out)⟩

end Go.Proofs.Ytefhljhpcpajgaa.F

namespace Go.Proofs.Ytefhljhpcpajgaa.F
open Go.RowKit Go.Proofs.YtefhljhpcpajgaaX Go.Proofs.YtefhljhpcpajgaaW.PrintWords Go.Proofs.YtefhljhpcpajgaaW.PrintLast Go.Proofs.YtefhljhpcpajgaaW.PrintMore
attribute [local go_sem] max2_int min2_int max_two min_two max_three min_three max_four min_four   -- for this text's walks alone
set_option linter.unusedVariables false
set_option linter.unusedSimpArgs false

/-! ### fee_All: function 46 (by hand) -/
def fee_All.step (k : Nat) (a0 x : Int) (c : Int → Option (Int × Int × Int × Int × Int)) : Option (Int × Int × Int × Int × Int) := (fee_paid_less.f k a0 x).bind fun p => if p.2 = 0 then c p.1 else some (0, 0, 0, 0, p.2)
def fee_All.rem (k : Nat) (a0 : Int) (l : List Int) : Nat → Int → Int → Int → Int → Option (Int × Int × Int × Int × Int)
  | 0, _, _, _, _ => fee_All.step k a0 (rd l 0) fun x0 => fee_All.step k a0 (rd l 1) fun x1 => fee_All.step k a0 (rd l 2) fun x2 => fee_All.step k a0 (rd l 3) fun x3 => some (x0, x1, x2, x3, 0)
  | 1, x0, _, _, _ => fee_All.step k a0 (rd l 1) fun x1 => fee_All.step k a0 (rd l 2) fun x2 => fee_All.step k a0 (rd l 3) fun x3 => some (x0, x1, x2, x3, 0)
  | 2, x0, x1, _, _ => fee_All.step k a0 (rd l 2) fun x2 => fee_All.step k a0 (rd l 3) fun x3 => some (x0, x1, x2, x3, 0)
  | 3, x0, x1, x2, _ => fee_All.step k a0 (rd l 3) fun x3 => some (x0, x1, x2, x3, 0)
  | _, x0, x1, x2, x3 => some (x0, x1, x2, x3, 0)
def fee_All.f (k : Nat) (a0 : Int) (l1 : List Int) : Option (Int × Int × Int × Int × Int) := (fee_Check.f k l1).bind fun t => if t = 0 then (if l1.length = 4 then fee_All.rem k a0 l1 0 0 0 0 0 else none) else some (0, 0, 0, 0, t)
theorem fee_All.mono : ∀ a0 l1 k, LeO (fee_All.f k a0 l1) (fee_All.f (k + 1) a0 l1) := by
  intro a0 l1 k
  unfold fee_All.f fee_All.rem fee_All.step
  exact LeO.bind (fee_Check.mono _ _) (fun t => LeO.ite (LeO.ite (LeO.bind (fee_paid_less.mono _ _ _) (fun _ => LeO.ite (LeO.bind (fee_paid_less.mono _ _ _) (fun _ => LeO.ite (LeO.bind (fee_paid_less.mono _ _ _) (fun _ => LeO.ite (LeO.bind (fee_paid_less.mono _ _ _) (fun _ => LeO.ite (LeO.refl _) (LeO.refl _))) (LeO.refl _))) (LeO.refl _))) (LeO.refl _))) (LeO.refl _)) (LeO.refl _))
set_option maxHeartbeats 4000000 in
set_option maxRecDepth 100000 in
theorem fee_All.calls (k : Nat) (a0 : Int) (A1 : Option Addr) (c1 : Nat) (l1 : List Int) (r1 r2 r3 r4 r5 : Int) (w : World) (hr1 : Kd.C (Kd.int .i64) w A1 l1.length l1) (hc1 : l1.length ≤ c1) (h : fee_All.f k a0 l1 = some (r1, r2, r3, r4, r5)) :
    Calls Try.prog 46 #[.int .i64 a0, .slice A1 l1.length c1] w fun e w' => e = .returned (.tuple #[.agg #[.int .i64 r1, .int .i64 r2, .int .i64 r3, .int .i64 r4], .int .i64 r5]) ∧ Below w.heap.size w w' := by
  unfold fee_All.f at h
  obtain ⟨t, ht, h⟩ := Option.bind_eq_some_iff.1 h
  have Ht := Aside0.mk ht
  have HR := Aside0.mk hr1
  have HC := Aside0.mk hc1
  have hmf : ∀ (fn : Fn) (first cap : Array Value) (w : World), (Instr.makeFunc fn first cap).run Try.prog w = .ok (.func fn first cap) w := fun _ _ _ _ => rfl
  clear ht hr1 hc1
  by_cases h0 : t = 0
  · subst h0
    rw [if_pos rfl] at h
    by_cases h4 : l1.length = 4
    · rw [if_pos h4] at h
      have H := Aside0.mk h
      have H4 := Aside0.mk h4
      clear h h4
      go_enter Try.func46, Try.ntmps46
      go_wp2_with (first
        | (go_at_call 48; (with_reducible refine (fee_Check.calls k _ _ _ _ _ (Kd.C_below HR.out (by repeat (first | exact Below.refl _ _ | apply below_drew | apply below_alloc | apply pw_below_drewN))) HC.out Ht.out).mono ?_); rintro e w' ⟨rfl, ⟨nd, rfl⟩⟩))
      go_loopw [20] (fun v20 wr => ∃ (i : Nat) (x0 x1 x2 x3 : Int), v20 = .int .i64 i ∧ i ≤ 4 ∧ Aside0 (wr.heap[w.heap.size]? = some (.cells #[.int .i64 0, .int .i64 0, .int .i64 0, .int .i64 0] 39 (0, 0))) ∧ Aside0 (wr.heap[w.heap.size + 1]? = some (.cells #[.int .i64 x0, .int .i64 x1, .int .i64 x2, .int .i64 x3] 39 (0, 0))) ∧ Aside0 (Below w.heap.size w wr) ∧ Aside0 (fee_All.rem k a0 l1 i x0 x1 x2 x3 = some (r1, r2, r3, r4, r5))) (fun v20 _ => 4 - (intOf v20).toNat)
      case atStart =>
        refine ⟨0, 0, 0, 0, 0, rfl, by omega, ⟨?_⟩, ⟨?_⟩, ⟨?_⟩, H⟩
        · refine blk_alloc ?_ _; refine blk_drewN ?_ _; exact blk_new _ _
        · have := blk_new ((w.alloc (.cells #[.int .i64 0, .int .i64 0, .int .i64 0, .int .i64 0] 39)).drewN nd) (.cells #[.int .i64 0, .int .i64 0, .int .i64 0, .int .i64 0] 39)
          simpa using this
        · repeat (first | exact Below.refl _ _ | apply pw_below_drewN | apply below_drew | apply below_alloc)
      case round =>
        obtain ⟨i, x0, x1, x2, x3, rfl, hi, HG0, HG1, HB, HREM⟩ := hrel
        clear H
        have HRr := Aside0.mk (Kd.C_below HR.out HB.out)
        by_cases hlt : i < 4
        · obtain ⟨ad, e1, hx⟩ := Kd.at_int HRr.out (i : Int) (by omega) (by have := H4.out; omega)
          cases e1
          rw [Int.toNat_natCast] at hx
          have t21 : decide ((i : Int) < 4) = true := decide_eq_true (by omega)
          have hsz := HB.out.size
          have hb1 : w.heap.size + 1 < wr.heap.size := (Array.getElem?_eq_some_iff.1 HG1.out).1
          have hi4 : i = 0 ∨ i = 1 ∨ i = 2 ∨ i = 3 := by omega
          rcases hi4 with rfl | rfl | rfl | rfl
          · obtain ⟨⟨n, e⟩, hp, hg⟩ := Option.bind_eq_some_iff.1 (show ((fee_paid_less.f k a0 (rd l1 0)).bind fun p => if p.2 = 0 then fee_All.rem k a0 l1 1 p.1 x1 x2 x3 else some (0, 0, 0, 0, p.2)) = some (r1, r2, r3, r4, r5) from HREM.out)
            have Hp := Aside0.mk hp
            clear hp HREM
            have hlen : 0 < l1.length := by have := H4.out; omega
            have hx2 := hx
            simp [Addr.add] at hx2
            clear hx
            dsimp only at hg
            by_cases h6 : e = 0
            · subst h6
              rw [if_pos rfl] at hg
              have HG := Aside0.mk hg
              clear hg
              go_wp2_with (first
                | (go_at_call 104; (with_reducible refine (fee_paid_less.calls k _ _ _ _ _ Hp.out).mono ?_); rintro e w3 ⟨rfl, hb3⟩; have HB3 := Aside0.mk (below_then HB.out HB.out.size hb3); have HK0 : Aside0 (w3.heap[w.heap.size]? = _) := ⟨(hb3.block _ (by omega)).trans HG0.out⟩; have HK1 : Aside0 (w3.heap[w.heap.size + 1]? = _) := ⟨(hb3.block _ (by omega)).trans HG1.out⟩; have m0 : w3.cell? ⟨w.heap.size + 1, 0, none⟩ = some (.int .i64 x0) := (by simp [World.cell?, HK1.out]); have m1 : w3.frozen? ⟨w.heap.size + 1, 0, none⟩ = false := (by simp [World.frozen?, HK1.out]); clear hb3))
              go_roundw
              case rel => exact ⟨1, n, x1, x2, x3, by go_num, by omega, ⟨by rw [Below.heap_setCell _ _ _ _ (by simp)]; exact HK0.out⟩, ⟨by refine blk_put (cs := #[.int .i64 x0, .int .i64 x1, .int .i64 x2, .int .i64 x3]) ?_ 0 _ rfl; exact HK1.out⟩, ⟨HB3.out.setCell (by simp) _⟩, HG⟩
              case measure => simp [intOf]
            · rw [if_neg h6] at hg
              simp only [Option.some.injEq, Prod.mk.injEq] at hg
              obtain ⟨rfl, rfl, rfl, rfl, rfl⟩ := hg
              have h6' : (e != 0) = true := bne_iff_ne.2 h6
              clear h6
              go_wp2_with (first
                | (go_at_call 104; (with_reducible refine (fee_paid_less.calls k _ _ _ _ _ Hp.out).mono ?_); rintro e w3 ⟨rfl, hb3⟩; have HB3 := Aside0.mk (below_then HB.out HB.out.size hb3); have HK0 : Aside0 (w3.heap[w.heap.size]? = _) := ⟨(hb3.block _ (by omega)).trans HG0.out⟩; have m0 : w3.cell? ⟨w.heap.size, 0, none⟩ = some (.int .i64 0) := (by simp [World.cell?, HK0.out]); have o0 : w3.frozen? ⟨w.heap.size, 0, none⟩ = false := (by simp [World.frozen?, HK0.out]); have m1 : w3.cell? ⟨w.heap.size, 1, none⟩ = some (.int .i64 0) := (by simp [World.cell?, HK0.out]); have o1 : w3.frozen? ⟨w.heap.size, 1, none⟩ = false := (by simp [World.frozen?, HK0.out]); have m2 : w3.cell? ⟨w.heap.size, 2, none⟩ = some (.int .i64 0) := (by simp [World.cell?, HK0.out]); have o2 : w3.frozen? ⟨w.heap.size, 2, none⟩ = false := (by simp [World.frozen?, HK0.out]); have m3 : w3.cell? ⟨w.heap.size, 3, none⟩ = some (.int .i64 0) := (by simp [World.cell?, HK0.out]); have o3 : w3.frozen? ⟨w.heap.size, 3, none⟩ = false := (by simp [World.frozen?, HK0.out]);  clear hb3))
              refine bodyPost_ret (results_ct rfl _ _ w.heap.size 39 #[.int .i64 0, .int .i64 0, .int .i64 0, .int .i64 0] (0, 0) _ rfl (by refine blk_put (cs := #[.int .i64 0, .int .i64 0, .int .i64 0, .int .i64 0]) ?_ 3 _ rfl; refine blk_put (cs := #[.int .i64 0, .int .i64 0, .int .i64 0, .int .i64 0]) ?_ 2 _ rfl; refine blk_put (cs := #[.int .i64 0, .int .i64 0, .int .i64 0, .int .i64 0]) ?_ 1 _ rfl; refine blk_put (cs := #[.int .i64 0, .int .i64 0, .int .i64 0, .int .i64 0]) ?_ 0 _ rfl; exact HK0.out) Try.underlying39 rfl (by kernel_rfl)) rfl ?_
              refine ⟨rfl, ?_⟩
              exact (((HB3.out.setCell (Nat.le_refl _) _).setCell (Nat.le_refl _) _).setCell (Nat.le_refl _) _).setCell (Nat.le_refl _) _
          · obtain ⟨⟨n, e⟩, hp, hg⟩ := Option.bind_eq_some_iff.1 (show ((fee_paid_less.f k a0 (rd l1 1)).bind fun p => if p.2 = 0 then fee_All.rem k a0 l1 2 x0 p.1 x2 x3 else some (0, 0, 0, 0, p.2)) = some (r1, r2, r3, r4, r5) from HREM.out)
            have Hp := Aside0.mk hp
            clear hp HREM
            have hlen : 1 < l1.length := by have := H4.out; omega
            have hx2 := hx
            simp [Addr.add] at hx2
            clear hx
            dsimp only at hg
            by_cases h6 : e = 0
            · subst h6
              rw [if_pos rfl] at hg
              have HG := Aside0.mk hg
              clear hg
              go_wp2_with (first
                | (go_at_call 104; (with_reducible refine (fee_paid_less.calls k _ _ _ _ _ Hp.out).mono ?_); rintro e w3 ⟨rfl, hb3⟩; have HB3 := Aside0.mk (below_then HB.out HB.out.size hb3); have HK0 : Aside0 (w3.heap[w.heap.size]? = _) := ⟨(hb3.block _ (by omega)).trans HG0.out⟩; have HK1 : Aside0 (w3.heap[w.heap.size + 1]? = _) := ⟨(hb3.block _ (by omega)).trans HG1.out⟩; have m0 : w3.cell? ⟨w.heap.size + 1, 1, none⟩ = some (.int .i64 x1) := (by simp [World.cell?, HK1.out]); have m1 : w3.frozen? ⟨w.heap.size + 1, 1, none⟩ = false := (by simp [World.frozen?, HK1.out]); clear hb3))
              go_roundw
              case rel => exact ⟨2, x0, n, x2, x3, by go_num, by omega, ⟨by rw [Below.heap_setCell _ _ _ _ (by simp)]; exact HK0.out⟩, ⟨by refine blk_put (cs := #[.int .i64 x0, .int .i64 x1, .int .i64 x2, .int .i64 x3]) ?_ 1 _ rfl; exact HK1.out⟩, ⟨HB3.out.setCell (by simp) _⟩, HG⟩
              case measure => simp [intOf]
            · rw [if_neg h6] at hg
              simp only [Option.some.injEq, Prod.mk.injEq] at hg
              obtain ⟨rfl, rfl, rfl, rfl, rfl⟩ := hg
              have h6' : (e != 0) = true := bne_iff_ne.2 h6
              clear h6
              go_wp2_with (first
                | (go_at_call 104; (with_reducible refine (fee_paid_less.calls k _ _ _ _ _ Hp.out).mono ?_); rintro e w3 ⟨rfl, hb3⟩; have HB3 := Aside0.mk (below_then HB.out HB.out.size hb3); have HK0 : Aside0 (w3.heap[w.heap.size]? = _) := ⟨(hb3.block _ (by omega)).trans HG0.out⟩; have m0 : w3.cell? ⟨w.heap.size, 0, none⟩ = some (.int .i64 0) := (by simp [World.cell?, HK0.out]); have o0 : w3.frozen? ⟨w.heap.size, 0, none⟩ = false := (by simp [World.frozen?, HK0.out]); have m1 : w3.cell? ⟨w.heap.size, 1, none⟩ = some (.int .i64 0) := (by simp [World.cell?, HK0.out]); have o1 : w3.frozen? ⟨w.heap.size, 1, none⟩ = false := (by simp [World.frozen?, HK0.out]); have m2 : w3.cell? ⟨w.heap.size, 2, none⟩ = some (.int .i64 0) := (by simp [World.cell?, HK0.out]); have o2 : w3.frozen? ⟨w.heap.size, 2, none⟩ = false := (by simp [World.frozen?, HK0.out]); have m3 : w3.cell? ⟨w.heap.size, 3, none⟩ = some (.int .i64 0) := (by simp [World.cell?, HK0.out]); have o3 : w3.frozen? ⟨w.heap.size, 3, none⟩ = false := (by simp [World.frozen?, HK0.out]);  clear hb3))
              refine bodyPost_ret (results_ct rfl _ _ w.heap.size 39 #[.int .i64 0, .int .i64 0, .int .i64 0, .int .i64 0] (0, 0) _ rfl (by refine blk_put (cs := #[.int .i64 0, .int .i64 0, .int .i64 0, .int .i64 0]) ?_ 3 _ rfl; refine blk_put (cs := #[.int .i64 0, .int .i64 0, .int .i64 0, .int .i64 0]) ?_ 2 _ rfl; refine blk_put (cs := #[.int .i64 0, .int .i64 0, .int .i64 0, .int .i64 0]) ?_ 1 _ rfl; refine blk_put (cs := #[.int .i64 0, .int .i64 0, .int .i64 0, .int .i64 0]) ?_ 0 _ rfl; exact HK0.out) Try.underlying39 rfl (by kernel_rfl)) rfl ?_
              refine ⟨rfl, ?_⟩
              exact (((HB3.out.setCell (Nat.le_refl _) _).setCell (Nat.le_refl _) _).setCell (Nat.le_refl _) _).setCell (Nat.le_refl _) _
          · obtain ⟨⟨n, e⟩, hp, hg⟩ := Option.bind_eq_some_iff.1 (show ((fee_paid_less.f k a0 (rd l1 2)).bind fun p => if p.2 = 0 then fee_All.rem k a0 l1 3 x0 x1 p.1 x3 else some (0, 0, 0, 0, p.2)) = some (r1, r2, r3, r4, r5) from HREM.out)
            have Hp := Aside0.mk hp
            clear hp HREM
            have hlen : 2 < l1.length := by have := H4.out; omega
            have hx2 := hx
            simp [Addr.add] at hx2
            clear hx
            dsimp only at hg
            by_cases h6 : e = 0
            · subst h6
              rw [if_pos rfl] at hg
              have HG := Aside0.mk hg
              clear hg
              go_wp2_with (first
                | (go_at_call 104; (with_reducible refine (fee_paid_less.calls k _ _ _ _ _ Hp.out).mono ?_); rintro e w3 ⟨rfl, hb3⟩; have HB3 := Aside0.mk (below_then HB.out HB.out.size hb3); have HK0 : Aside0 (w3.heap[w.heap.size]? = _) := ⟨(hb3.block _ (by omega)).trans HG0.out⟩; have HK1 : Aside0 (w3.heap[w.heap.size + 1]? = _) := ⟨(hb3.block _ (by omega)).trans HG1.out⟩; have m0 : w3.cell? ⟨w.heap.size + 1, 2, none⟩ = some (.int .i64 x2) := (by simp [World.cell?, HK1.out]); have m1 : w3.frozen? ⟨w.heap.size + 1, 2, none⟩ = false := (by simp [World.frozen?, HK1.out]); clear hb3))
              go_roundw
              case rel => exact ⟨3, x0, x1, n, x3, by go_num, by omega, ⟨by rw [Below.heap_setCell _ _ _ _ (by simp)]; exact HK0.out⟩, ⟨by refine blk_put (cs := #[.int .i64 x0, .int .i64 x1, .int .i64 x2, .int .i64 x3]) ?_ 2 _ rfl; exact HK1.out⟩, ⟨HB3.out.setCell (by simp) _⟩, HG⟩
              case measure => simp [intOf]
            · rw [if_neg h6] at hg
              simp only [Option.some.injEq, Prod.mk.injEq] at hg
              obtain ⟨rfl, rfl, rfl, rfl, rfl⟩ := hg
              have h6' : (e != 0) = true := bne_iff_ne.2 h6
              clear h6
              go_wp2_with (first
                | (go_at_call 104; (with_reducible refine (fee_paid_less.calls k _ _ _ _ _ Hp.out).mono ?_); rintro e w3 ⟨rfl, hb3⟩; have HB3 := Aside0.mk (below_then HB.out HB.out.size hb3); have HK0 : Aside0 (w3.heap[w.heap.size]? = _) := ⟨(hb3.block _ (by omega)).trans HG0.out⟩; have m0 : w3.cell? ⟨w.heap.size, 0, none⟩ = some (.int .i64 0) := (by simp [World.cell?, HK0.out]); have o0 : w3.frozen? ⟨w.heap.size, 0, none⟩ = false := (by simp [World.frozen?, HK0.out]); have m1 : w3.cell? ⟨w.heap.size, 1, none⟩ = some (.int .i64 0) := (by simp [World.cell?, HK0.out]); have o1 : w3.frozen? ⟨w.heap.size, 1, none⟩ = false := (by simp [World.frozen?, HK0.out]); have m2 : w3.cell? ⟨w.heap.size, 2, none⟩ = some (.int .i64 0) := (by simp [World.cell?, HK0.out]); have o2 : w3.frozen? ⟨w.heap.size, 2, none⟩ = false := (by simp [World.frozen?, HK0.out]); have m3 : w3.cell? ⟨w.heap.size, 3, none⟩ = some (.int .i64 0) := (by simp [World.cell?, HK0.out]); have o3 : w3.frozen? ⟨w.heap.size, 3, none⟩ = false := (by simp [World.frozen?, HK0.out]);  clear hb3))
              refine bodyPost_ret (results_ct rfl _ _ w.heap.size 39 #[.int .i64 0, .int .i64 0, .int .i64 0, .int .i64 0] (0, 0) _ rfl (by refine blk_put (cs := #[.int .i64 0, .int .i64 0, .int .i64 0, .int .i64 0]) ?_ 3 _ rfl; refine blk_put (cs := #[.int .i64 0, .int .i64 0, .int .i64 0, .int .i64 0]) ?_ 2 _ rfl; refine blk_put (cs := #[.int .i64 0, .int .i64 0, .int .i64 0, .int .i64 0]) ?_ 1 _ rfl; refine blk_put (cs := #[.int .i64 0, .int .i64 0, .int .i64 0, .int .i64 0]) ?_ 0 _ rfl; exact HK0.out) Try.underlying39 rfl (by kernel_rfl)) rfl ?_
              refine ⟨rfl, ?_⟩
              exact (((HB3.out.setCell (Nat.le_refl _) _).setCell (Nat.le_refl _) _).setCell (Nat.le_refl _) _).setCell (Nat.le_refl _) _
          · obtain ⟨⟨n, e⟩, hp, hg⟩ := Option.bind_eq_some_iff.1 (show ((fee_paid_less.f k a0 (rd l1 3)).bind fun p => if p.2 = 0 then fee_All.rem k a0 l1 4 x0 x1 x2 p.1 else some (0, 0, 0, 0, p.2)) = some (r1, r2, r3, r4, r5) from HREM.out)
            have Hp := Aside0.mk hp
            clear hp HREM
            have hlen : 3 < l1.length := by have := H4.out; omega
            have hx2 := hx
            simp [Addr.add] at hx2
            clear hx
            dsimp only at hg
            by_cases h6 : e = 0
            · subst h6
              rw [if_pos rfl] at hg
              have HG := Aside0.mk hg
              clear hg
              go_wp2_with (first
                | (go_at_call 104; (with_reducible refine (fee_paid_less.calls k _ _ _ _ _ Hp.out).mono ?_); rintro e w3 ⟨rfl, hb3⟩; have HB3 := Aside0.mk (below_then HB.out HB.out.size hb3); have HK0 : Aside0 (w3.heap[w.heap.size]? = _) := ⟨(hb3.block _ (by omega)).trans HG0.out⟩; have HK1 : Aside0 (w3.heap[w.heap.size + 1]? = _) := ⟨(hb3.block _ (by omega)).trans HG1.out⟩; have m0 : w3.cell? ⟨w.heap.size + 1, 3, none⟩ = some (.int .i64 x3) := (by simp [World.cell?, HK1.out]); have m1 : w3.frozen? ⟨w.heap.size + 1, 3, none⟩ = false := (by simp [World.frozen?, HK1.out]); clear hb3))
              go_roundw
              case rel => exact ⟨4, x0, x1, x2, n, by go_num, by omega, ⟨by rw [Below.heap_setCell _ _ _ _ (by simp)]; exact HK0.out⟩, ⟨by refine blk_put (cs := #[.int .i64 x0, .int .i64 x1, .int .i64 x2, .int .i64 x3]) ?_ 3 _ rfl; exact HK1.out⟩, ⟨HB3.out.setCell (by simp) _⟩, HG⟩
              case measure => simp [intOf]
            · rw [if_neg h6] at hg
              simp only [Option.some.injEq, Prod.mk.injEq] at hg
              obtain ⟨rfl, rfl, rfl, rfl, rfl⟩ := hg
              have h6' : (e != 0) = true := bne_iff_ne.2 h6
              clear h6
              go_wp2_with (first
                | (go_at_call 104; (with_reducible refine (fee_paid_less.calls k _ _ _ _ _ Hp.out).mono ?_); rintro e w3 ⟨rfl, hb3⟩; have HB3 := Aside0.mk (below_then HB.out HB.out.size hb3); have HK0 : Aside0 (w3.heap[w.heap.size]? = _) := ⟨(hb3.block _ (by omega)).trans HG0.out⟩; have m0 : w3.cell? ⟨w.heap.size, 0, none⟩ = some (.int .i64 0) := (by simp [World.cell?, HK0.out]); have o0 : w3.frozen? ⟨w.heap.size, 0, none⟩ = false := (by simp [World.frozen?, HK0.out]); have m1 : w3.cell? ⟨w.heap.size, 1, none⟩ = some (.int .i64 0) := (by simp [World.cell?, HK0.out]); have o1 : w3.frozen? ⟨w.heap.size, 1, none⟩ = false := (by simp [World.frozen?, HK0.out]); have m2 : w3.cell? ⟨w.heap.size, 2, none⟩ = some (.int .i64 0) := (by simp [World.cell?, HK0.out]); have o2 : w3.frozen? ⟨w.heap.size, 2, none⟩ = false := (by simp [World.frozen?, HK0.out]); have m3 : w3.cell? ⟨w.heap.size, 3, none⟩ = some (.int .i64 0) := (by simp [World.cell?, HK0.out]); have o3 : w3.frozen? ⟨w.heap.size, 3, none⟩ = false := (by simp [World.frozen?, HK0.out]);  clear hb3))
              refine bodyPost_ret (results_ct rfl _ _ w.heap.size 39 #[.int .i64 0, .int .i64 0, .int .i64 0, .int .i64 0] (0, 0) _ rfl (by refine blk_put (cs := #[.int .i64 0, .int .i64 0, .int .i64 0, .int .i64 0]) ?_ 3 _ rfl; refine blk_put (cs := #[.int .i64 0, .int .i64 0, .int .i64 0, .int .i64 0]) ?_ 2 _ rfl; refine blk_put (cs := #[.int .i64 0, .int .i64 0, .int .i64 0, .int .i64 0]) ?_ 1 _ rfl; refine blk_put (cs := #[.int .i64 0, .int .i64 0, .int .i64 0, .int .i64 0]) ?_ 0 _ rfl; exact HK0.out) Try.underlying39 rfl (by kernel_rfl)) rfl ?_
              refine ⟨rfl, ?_⟩
              exact (((HB3.out.setCell (Nat.le_refl _) _).setCell (Nat.le_refl _) _).setCell (Nat.le_refl _) _).setCell (Nat.le_refl _) _
        · obtain rfl : i = 4 := by omega
          have hrem := HREM.out
          simp only [fee_All.rem, Option.some.injEq, Prod.mk.injEq] at hrem
          obtain ⟨rfl, rfl, rfl, rfl, rfl⟩ := hrem
          have q0 : wr.cell? ⟨w.heap.size + 1, 0, none⟩ = some (.int .i64 x0) := by simp [World.cell?, HG1.out]
          have q1 : wr.cell? ⟨w.heap.size + 1, 1, none⟩ = some (.int .i64 x1) := by simp [World.cell?, HG1.out]
          have q2 : wr.cell? ⟨w.heap.size + 1, 2, none⟩ = some (.int .i64 x2) := by simp [World.cell?, HG1.out]
          have q3 : wr.cell? ⟨w.heap.size + 1, 3, none⟩ = some (.int .i64 x3) := by simp [World.cell?, HG1.out]
          have y0 : wr.frozen? ⟨w.heap.size, 0, none⟩ = false := by simp [World.frozen?, HG0.out]
          have y1 : wr.frozen? ⟨w.heap.size, 1, none⟩ = false := by simp [World.frozen?, HG0.out]
          have y2 : wr.frozen? ⟨w.heap.size, 2, none⟩ = false := by simp [World.frozen?, HG0.out]
          have y3 : wr.frozen? ⟨w.heap.size, 3, none⟩ = false := by simp [World.frozen?, HG0.out]
          have p0 : wr.cell? ⟨w.heap.size, 0, none⟩ = some (.int .i64 0) := by simp [World.cell?, HG0.out]
          have p1 : wr.cell? ⟨w.heap.size, 1, none⟩ = some (.int .i64 0) := by simp [World.cell?, HG0.out]
          have p2 : wr.cell? ⟨w.heap.size, 2, none⟩ = some (.int .i64 0) := by simp [World.cell?, HG0.out]
          have p3 : wr.cell? ⟨w.heap.size, 3, none⟩ = some (.int .i64 0) := by simp [World.cell?, HG0.out]
          go_wp2
          refine bodyPost_ret (results_ct rfl _ _ w.heap.size 39 #[.int .i64 x0, .int .i64 x1, .int .i64 x2, .int .i64 x3] (0, 0) _ rfl (by refine blk_put (cs := #[.int .i64 x0, .int .i64 x1, .int .i64 x2, .int .i64 0]) ?_ 3 _ rfl; refine blk_put (cs := #[.int .i64 x0, .int .i64 x1, .int .i64 0, .int .i64 0]) ?_ 2 _ rfl; refine blk_put (cs := #[.int .i64 x0, .int .i64 0, .int .i64 0, .int .i64 0]) ?_ 1 _ rfl; refine blk_put (cs := #[.int .i64 0, .int .i64 0, .int .i64 0, .int .i64 0]) ?_ 0 _ rfl; exact HG0.out) Try.underlying39 rfl (by kernel_rfl)) rfl ?_
          refine ⟨rfl, ?_⟩
          exact (((HB.out.setCell (Nat.le_refl _) _).setCell (Nat.le_refl _) _).setCell (Nat.le_refl _) _).setCell (Nat.le_refl _) _
    · rw [if_neg h4] at h; cases h
  · rw [if_neg h0] at h
    simp only [Option.some.injEq, Prod.mk.injEq] at h
    obtain ⟨rfl, rfl, rfl, rfl, rfl⟩ := h
    have e0 : (t != 0) = true := bne_iff_ne.2 h0
    clear h0
    go_enter Try.func46, Try.ntmps46
    go_wp2_with (first
      | (go_at_call 48; (with_reducible refine (fee_Check.calls k _ _ _ _ _ (Kd.C_below HR.out (by repeat (first | exact Below.refl _ _ | apply below_drew | apply below_alloc | apply pw_below_drewN))) HC.out Ht.out).mono ?_); rintro e w' ⟨rfl, ⟨nd, rfl⟩⟩))
    refine bodyPost_ret (results_ct rfl _ _ w.heap.size 39 #[.int .i64 0, .int .i64 0, .int .i64 0, .int .i64 0] (0, 0) _ rfl (by refine blk_put (cs := #[.int .i64 0, .int .i64 0, .int .i64 0, .int .i64 0]) ?_ 3 _ rfl; refine blk_put (cs := #[.int .i64 0, .int .i64 0, .int .i64 0, .int .i64 0]) ?_ 2 _ rfl; refine blk_put (cs := #[.int .i64 0, .int .i64 0, .int .i64 0, .int .i64 0]) ?_ 1 _ rfl; refine blk_put (cs := #[.int .i64 0, .int .i64 0, .int .i64 0, .int .i64 0]) ?_ 0 _ rfl; refine blk_drewN ?_ _; exact blk_new _ _) Try.underlying39 rfl (by kernel_rfl)) rfl ?_
    refine ⟨rfl, ?_⟩
    have HB0 : Below w.heap.size w ((w.alloc (.cells #[.int .i64 0, .int .i64 0, .int .i64 0, .int .i64 0] 39)).drewN nd) := by repeat (first | exact Below.refl _ _ | apply pw_below_drewN | apply below_drew | apply below_alloc)
    exact (((HB0.setCell (Nat.le_refl _) _).setCell (Nat.le_refl _) _).setCell (Nat.le_refl _) _).setCell (Nat.le_refl _) _

end Go.Proofs.Ytefhljhpcpajgaa.F

namespace Go.Proofs.Ytefhljhpcpajgaa.F
open Go.RowKit Go.Proofs.YtefhljhpcpajgaaX Go.Proofs.YtefhljhpcpajgaaW.PrintWords Go.Proofs.YtefhljhpcpajgaaW.PrintLast Go.Proofs.YtefhljhpcpajgaaW.PrintMore
attribute [local go_sem] max2_int min2_int max_two min_two max_three min_three max_four min_four   -- for this text's walks alone
set_option linter.unusedVariables false
set_option linter.unusedSimpArgs false

attribute [local go_sem high] eqA39
/-! ### backhaullaw04_awake: function 39 -/
def backhaullaw04_awake.f  : Option (Bool) := some true
set_option maxHeartbeats 8000000 in
set_option maxRecDepth 100000 in
theorem backhaullaw04_awake.calls (r : Bool)  (w : World) (h : backhaullaw04_awake.f  = some r) :
    Calls Try.prog 39 #[] w fun e w' => e = .returned (.bool r) ∧ Below w.heap.size w w' := by
  obtain rfl : r = true := by injection h with h; exact h.symm
  have hu39 := Try.underlying39
  have HB := Aside0.mk (Below.refl w.heap.size w)
  have H : ((fee_Of.f 1000 1005 1000).bind fun bt269 => ((fee_Less.f 1000 1005 1000).bind fun bt271 => ((fee_Grade.f 1000 1005 (([0, 1000, 1000, 10000] : List Int)) 3).bind fun bt276 => ((fee_All.f 1000 1005 (([0, 1000, 1000, 10000] : List Int))).bind fun bt281 => ((fee_Of.f 1000 1 10001).bind fun bt287 => (if bt269.1 = 101 then (if bt269.2 = 0 then (if bt271.1 = 904 then (if bt271.2 = 0 then (if bt276.1 = 0 then (if bt276.2 = 0 then (if (bt281.1 == 1005 && (bt281.2.1 == 904 && (bt281.2.2.1 == 904 && (bt281.2.2.2.1 == 0)))) = true then (if bt281.2.2.2.2 = 0 then (if bt287.2 = 2 then ((fee_Check.f 1000 (([1, 0, 2, 3] : List Int))).bind fun t292 => (if t292 = 36 then (some true) else (some false))) else (some false)) else (some false)) else (some false)) else (some false)) else (some false)) else (some false)) else (some false)) else (some false)) else (some false))))))) = some true := by decide +kernel
  replace H := Option.bind_eq_some_iff.mp H
  obtain ⟨⟨t269, t270⟩, A10, H⟩ := H
  replace H : ((fee_Less.f 1000 1005 1000).bind fun bt271 => ((fee_Grade.f 1000 1005 (([0, 1000, 1000, 10000] : List Int)) 3).bind fun bt276 => ((fee_All.f 1000 1005 (([0, 1000, 1000, 10000] : List Int))).bind fun bt281 => ((fee_Of.f 1000 1 10001).bind fun bt287 => (if t269 = 101 then (if t270 = 0 then (if bt271.1 = 904 then (if bt271.2 = 0 then (if bt276.1 = 0 then (if bt276.2 = 0 then (if (bt281.1 == 1005 && (bt281.2.1 == 904 && (bt281.2.2.1 == 904 && (bt281.2.2.2.1 == 0)))) = true then (if bt281.2.2.2.2 = 0 then (if bt287.2 = 2 then ((fee_Check.f 1000 (([1, 0, 2, 3] : List Int))).bind fun t292 => (if t292 = 36 then (some true) else (some false))) else (some false)) else (some false)) else (some false)) else (some false)) else (some false)) else (some false)) else (some false)) else (some false)) else (some false)))))) = some true := H
  have A1 := Aside0.mk A10
  clear A10
  replace H := Option.bind_eq_some_iff.mp H
  obtain ⟨⟨t271, t272⟩, A20, H⟩ := H
  replace H : ((fee_Grade.f 1000 1005 (([0, 1000, 1000, 10000] : List Int)) 3).bind fun bt276 => ((fee_All.f 1000 1005 (([0, 1000, 1000, 10000] : List Int))).bind fun bt281 => ((fee_Of.f 1000 1 10001).bind fun bt287 => (if t269 = 101 then (if t270 = 0 then (if t271 = 904 then (if t272 = 0 then (if bt276.1 = 0 then (if bt276.2 = 0 then (if (bt281.1 == 1005 && (bt281.2.1 == 904 && (bt281.2.2.1 == 904 && (bt281.2.2.2.1 == 0)))) = true then (if bt281.2.2.2.2 = 0 then (if bt287.2 = 2 then ((fee_Check.f 1000 (([1, 0, 2, 3] : List Int))).bind fun t292 => (if t292 = 36 then (some true) else (some false))) else (some false)) else (some false)) else (some false)) else (some false)) else (some false)) else (some false)) else (some false)) else (some false)) else (some false))))) = some true := H
  have A2 := Aside0.mk A20
  clear A20
  obtain ⟨y273, hy273⟩ : ∃ y_ : List Int, y_ = (([0, 1000, 1000, 10000] : List Int)) := ⟨_, rfl⟩
  replace H : ((fee_Grade.f 1000 1005 y273 3).bind fun bt276 => ((fee_All.f 1000 1005 (([0, 1000, 1000, 10000] : List Int))).bind fun bt281 => ((fee_Of.f 1000 1 10001).bind fun bt287 => (if t269 = 101 then (if t270 = 0 then (if t271 = 904 then (if t272 = 0 then (if bt276.1 = 0 then (if bt276.2 = 0 then (if (bt281.1 == 1005 && (bt281.2.1 == 904 && (bt281.2.2.1 == 904 && (bt281.2.2.2.1 == 0)))) = true then (if bt281.2.2.2.2 = 0 then (if bt287.2 = 2 then ((fee_Check.f 1000 (([1, 0, 2, 3] : List Int))).bind fun t292 => (if t292 = 36 then (some true) else (some false))) else (some false)) else (some false)) else (some false)) else (some false)) else (some false)) else (some false)) else (some false)) else (some false)) else (some false))))) = some true := by first | (rw [hy273]; with_reducible exact H) | (have H2_ := (Option.bind_some _ _).symm.trans H; rw [hy273]; with_reducible exact H2_) | (have H2_ := (Option.bind_some _ _).symm.trans H; with_reducible exact H2_) | with_reducible exact H | (rw [hy273]; exact H) | exact H
  have Ny273 := Aside0.mk hy273
  clear hy273
  replace H := Option.bind_eq_some_iff.mp H
  obtain ⟨⟨t276, t277⟩, A30, H⟩ := H
  replace H : ((fee_All.f 1000 1005 (([0, 1000, 1000, 10000] : List Int))).bind fun bt281 => ((fee_Of.f 1000 1 10001).bind fun bt287 => (if t269 = 101 then (if t270 = 0 then (if t271 = 904 then (if t272 = 0 then (if t276 = 0 then (if t277 = 0 then (if (bt281.1 == 1005 && (bt281.2.1 == 904 && (bt281.2.2.1 == 904 && (bt281.2.2.2.1 == 0)))) = true then (if bt281.2.2.2.2 = 0 then (if bt287.2 = 2 then ((fee_Check.f 1000 (([1, 0, 2, 3] : List Int))).bind fun t292 => (if t292 = 36 then (some true) else (some false))) else (some false)) else (some false)) else (some false)) else (some false)) else (some false)) else (some false)) else (some false)) else (some false)) else (some false)))) = some true := H
  have A3 := Aside0.mk A30
  clear A30
  obtain ⟨y278, hy278⟩ : ∃ y_ : List Int, y_ = (([0, 1000, 1000, 10000] : List Int)) := ⟨_, rfl⟩
  replace H : ((fee_All.f 1000 1005 y278).bind fun bt281 => ((fee_Of.f 1000 1 10001).bind fun bt287 => (if t269 = 101 then (if t270 = 0 then (if t271 = 904 then (if t272 = 0 then (if t276 = 0 then (if t277 = 0 then (if (bt281.1 == 1005 && (bt281.2.1 == 904 && (bt281.2.2.1 == 904 && (bt281.2.2.2.1 == 0)))) = true then (if bt281.2.2.2.2 = 0 then (if bt287.2 = 2 then ((fee_Check.f 1000 (([1, 0, 2, 3] : List Int))).bind fun t292 => (if t292 = 36 then (some true) else (some false))) else (some false)) else (some false)) else (some false)) else (some false)) else (some false)) else (some false)) else (some false)) else (some false)) else (some false)))) = some true := by first | (rw [hy278]; with_reducible exact H) | (have H2_ := (Option.bind_some _ _).symm.trans H; rw [hy278]; with_reducible exact H2_) | (have H2_ := (Option.bind_some _ _).symm.trans H; with_reducible exact H2_) | with_reducible exact H | (rw [hy278]; exact H) | exact H
  have Ny278 := Aside0.mk hy278
  clear hy278
  replace H := Option.bind_eq_some_iff.mp H
  obtain ⟨⟨t281, t282, t283, t284, t285⟩, A40, H⟩ := H
  replace H : ((fee_Of.f 1000 1 10001).bind fun bt287 => (if t269 = 101 then (if t270 = 0 then (if t271 = 904 then (if t272 = 0 then (if t276 = 0 then (if t277 = 0 then (if (t281 == 1005 && (t282 == 904 && (t283 == 904 && (t284 == 0)))) = true then (if t285 = 0 then (if bt287.2 = 2 then ((fee_Check.f 1000 (([1, 0, 2, 3] : List Int))).bind fun t292 => (if t292 = 36 then (some true) else (some false))) else (some false)) else (some false)) else (some false)) else (some false)) else (some false)) else (some false)) else (some false)) else (some false)) else (some false))) = some true := H
  have A4 := Aside0.mk A40
  clear A40
  replace H := Option.bind_eq_some_iff.mp H
  obtain ⟨⟨t287, t288⟩, A50, H⟩ := H
  replace H : (if t269 = 101 then (if t270 = 0 then (if t271 = 904 then (if t272 = 0 then (if t276 = 0 then (if t277 = 0 then (if (t281 == 1005 && (t282 == 904 && (t283 == 904 && (t284 == 0)))) = true then (if t285 = 0 then (if t288 = 2 then ((fee_Check.f 1000 (([1, 0, 2, 3] : List Int))).bind fun t292 => (if t292 = 36 then (some true) else (some false))) else (some false)) else (some false)) else (some false)) else (some false)) else (some false)) else (some false)) else (some false)) else (some false)) else (some false)) = some true := H
  have A5 := Aside0.mk A50
  clear A50
  by_cases c6 : t269 = 101
  · rw [if_pos c6] at H
    have c6b0 : (t269 == 101) = true := beq_iff_eq.mpr c6
    have c6b1 : (t269 != 101) = false := bne_eq_false_iff_eq.mpr c6
    clear c6
    by_cases c7 : t270 = 0
    · rw [if_pos c7] at H
      have c7b0 : (t270 == 0) = true := beq_iff_eq.mpr c7
      have c7b1 : (t270 != 0) = false := bne_eq_false_iff_eq.mpr c7
      clear c7
      by_cases c8 : t271 = 904
      · rw [if_pos c8] at H
        have c8b0 : (t271 == 904) = true := beq_iff_eq.mpr c8
        have c8b1 : (t271 != 904) = false := bne_eq_false_iff_eq.mpr c8
        clear c8
        by_cases c9 : t272 = 0
        · rw [if_pos c9] at H
          have c9b0 : (t272 == 0) = true := beq_iff_eq.mpr c9
          have c9b1 : (t272 != 0) = false := bne_eq_false_iff_eq.mpr c9
          clear c9
          by_cases c10 : t276 = 0
          · rw [if_pos c10] at H
            have c10b0 : (t276 == 0) = true := beq_iff_eq.mpr c10
            have c10b1 : (t276 != 0) = false := bne_eq_false_iff_eq.mpr c10
            clear c10
            by_cases c11 : t277 = 0
            · rw [if_pos c11] at H
              have c11b0 : (t277 == 0) = true := beq_iff_eq.mpr c11
              have c11b1 : (t277 != 0) = false := bne_eq_false_iff_eq.mpr c11
              clear c11
              by_cases c12 : (t281 == 1005 && (t282 == 904 && (t283 == 904 && (t284 == 0)))) = true
              · rw [if_pos c12] at H
                have c12b0 : (t281 == 1005 && (t282 == 904 && (t283 == 904 && (t284 == 0)))) = true := c12
                (try (have c12b1 : decide (t281 = 1005 && (t282 == 904 && (t283 == 904 && (t284 == 0)))) = true := by simpa using c12))
                (try (have c12b2 : (t281 == 1005 && (t282 == 904 && (t283 == 904 && (t284 == 0)))) = true := by simpa using c12))
                clear c12
                by_cases c13 : t285 = 0
                · rw [if_pos c13] at H
                  have c13b0 : (t285 == 0) = true := beq_iff_eq.mpr c13
                  have c13b1 : (t285 != 0) = false := bne_eq_false_iff_eq.mpr c13
                  clear c13
                  by_cases c14 : t288 = 2
                  · rw [if_pos c14] at H
                    have c14b0 : (t288 == 2) = true := beq_iff_eq.mpr c14
                    have c14b1 : (t288 != 2) = false := bne_eq_false_iff_eq.mpr c14
                    clear c14
                    obtain ⟨y289, hy289⟩ : ∃ y_ : List Int, y_ = (([1, 0, 2, 3] : List Int)) := ⟨_, rfl⟩
                    replace H : ((fee_Check.f 1000 y289).bind fun t292 => (if t292 = 36 then (some true) else (some false))) = some true := by first | (rw [hy289]; with_reducible exact H) | (have H2_ := (Option.bind_some _ _).symm.trans H; rw [hy289]; with_reducible exact H2_) | (have H2_ := (Option.bind_some _ _).symm.trans H; with_reducible exact H2_) | with_reducible exact H | (rw [hy289]; exact H) | exact H
                    have Ny289 := Aside0.mk hy289
                    clear hy289
                    replace H := Option.bind_eq_some_iff.mp H
                    obtain ⟨t292, A150, H⟩ := H
                    replace H : (if t292 = 36 then (some true) else (some false)) = some true := H
                    have A15 := Aside0.mk A150
                    clear A150
                    by_cases c16 : t292 = 36
                    · rw [if_pos c16] at H
                      have c16b0 : (t292 == 36) = true := beq_iff_eq.mpr c16
                      have c16b1 : (t292 != 36) = false := bne_eq_false_iff_eq.mpr c16
                      clear c16
                      clear H
                      go_enter Try.func39, Try.ntmps39
                      go_wp2_with (first | ((with_reducible refine gate_callee (f := 40) rfl ?_); refine goesL_ (some 12) rfl rfl Try.func40 (by kernel_rfl) rfl #[.int .i64 1005, .int .i64 1000] rfl (by (try simp only [List.map_toArray, List.map_cons, List.map_nil]); first | done | rfl | (simp only [List.length_drop, List.length_take]; rfl)) ?_; (with_reducible refine (fee_Of.calls 1000 1005 1000 t269 t270 _ A1.out).mono ?_); rintro e w17 ⟨rfl, hb⟩; refine ⟨_, rfl, ?_⟩; have n0_ := Aside0.mk (below_step (by repeat (first | (with_reducible first | exact HB.out | apply below_alloc | apply pw_below_drewN | apply below_drew1) | exact HB.out)) hb); clear HB; have HB := n0_; clear n0_; (try clear hb); (try clear hb2); (try clear hk); (try clear hi)) | ((with_reducible refine gate_callee (f := 42) rfl ?_); refine goesL_ (some 16) rfl rfl Try.func42 (by kernel_rfl) rfl #[.int .i64 1005, .int .i64 1000] rfl (by (try simp only [List.map_toArray, List.map_cons, List.map_nil]); first | done | rfl | (simp only [List.length_drop, List.length_take]; rfl)) ?_; (with_reducible refine (fee_Less.calls 1000 1005 1000 t271 t272 _ A2.out).mono ?_); rintro e w18 ⟨rfl, hb⟩; refine ⟨_, rfl, ?_⟩; have n0_ := Aside0.mk (below_step (by repeat (first | (with_reducible first | exact HB.out | apply below_alloc | apply pw_below_drewN | apply below_drew1) | exact HB.out)) hb); clear HB; have HB := n0_; clear n0_; (try clear hb); (try clear hb2); (try clear hk); (try clear hi)) | ((with_reducible refine gate_dst (N := 20) rfl ?_); (try (refine gate_guard (by rfl) ?_; dsimp only)); refine Kd.R_lit (Kd.int .i64) _ 3 ?hg (N := 20) ?hd (xs := ([0, 1000, 1000, 10000] : List Int)) (inner := [.int .i64 0, .int .i64 1000, .int .i64 1000, .int .i64 10000]) (ok := fun _ => True) (okp := fun _ => True) ?hr ?hp (fun _ hk => hk) trivial (Below.refl _ _) (Nat.le_refl _) (by simp) ?_; (case hd => rfl); (case hg => rfl); (case hr => first | (go_simp; done) | (go_simp; rfl)); (case hp => exact (Reps.one (show Kd.M (Kd.int .i64) _ _ _ 0 [.int .i64 0] from rfl) (Reps.one (show Kd.M (Kd.int .i64) _ _ _ 1000 [.int .i64 1000] from rfl) (Reps.one (show Kd.M (Kd.int .i64) _ _ _ 1000 [.int .i64 1000] from rfl) (Reps.one (show Kd.M (Kd.int .i64) _ _ _ 10000 [.int .i64 10000] from rfl) (Reps.none _ _)))))); intro v274 w19 ho20 hb hg_ hnew_; clear hg_ hnew_; (first | rw [← Ny273.out] at ho20 | (simp only [Int.reduceToNat] at ho20; rw [← Ny273.out] at ho20)); have n0_ := Aside0.mk (Kd.R_lower ho20 (below_size (by repeat (first | (with_reducible first | exact HB.out | apply below_alloc | apply pw_below_drewN | apply below_drew1) | exact HB.out)))); have n1_ := Aside0.mk (below_step (by repeat (first | (with_reducible first | exact HB.out | apply below_alloc | apply pw_below_drewN | apply below_drew1) | exact HB.out)) hb); clear HB; have HO275 := n0_; have HB := n1_; clear n0_ n1_; clear hb ho20; obtain ⟨Ao21, co21, eo21⟩ := Kd.R_slice HO275.out; subst eo21) | ((with_reducible refine gate_callee (f := 44) rfl ?_); refine goesL_ (some 21) rfl rfl Try.func44 (by kernel_rfl) rfl #[.int .i64 1005, .slice Ao21 y273.length co21, .int .i64 3] rfl (by (try simp only [List.map_toArray, List.map_cons, List.map_nil]); first | done | rfl | (simp only [List.length_drop, List.length_take]; rfl)) ?_; (with_reducible refine (fee_Grade.calls 1000 1005 _ _ y273 3 t276 t277 _ ?side1 ?side2 A3.out).mono ?_); (case side1 => repeat (first | exact (Kd.R_reads' HO275.out).2.2 | (with_reducible refine Kd.C_alloc ?_ _) | (with_reducible refine Kd.C_drewN ?_ _) | (with_reducible refine Kd.C_drew ?_))); (case side2 => exact (Kd.R_reads' HO275.out).2.1); rintro e w22 ⟨rfl, hb⟩; refine ⟨_, rfl, ?_⟩; have n0_ := Aside0.mk (Kd.R_below (by (with_reducible repeat (first | apply Kd.R_alloc | apply Kd.R_drewN | apply Kd.R_drew)); exact HO275.out) hb); have n1_ := Aside0.mk (below_step (by repeat (first | (with_reducible first | exact HB.out | apply below_alloc | apply pw_below_drewN | apply below_drew1) | exact HB.out)) hb); clear HO275; clear HB; have HO275 := n0_; have HB := n1_; clear n0_ n1_; (try clear hb); (try clear hb2); (try clear hk); (try clear hi)) | ((with_reducible refine gate_dst (N := 25) rfl ?_); (try (refine gate_guard (by rfl) ?_; dsimp only)); refine Kd.R_lit (Kd.int .i64) _ 3 ?hg (N := 25) ?hd (xs := ([0, 1000, 1000, 10000] : List Int)) (inner := [.int .i64 0, .int .i64 1000, .int .i64 1000, .int .i64 10000]) (ok := fun _ => True) (okp := fun _ => True) ?hr ?hp (fun _ hk => hk) trivial (Below.refl _ _) (Nat.le_refl _) (by simp) ?_; (case hd => rfl); (case hg => rfl); (case hr => first | (go_simp; done) | (go_simp; rfl)); (case hp => exact (Reps.one (show Kd.M (Kd.int .i64) _ _ _ 0 [.int .i64 0] from rfl) (Reps.one (show Kd.M (Kd.int .i64) _ _ _ 1000 [.int .i64 1000] from rfl) (Reps.one (show Kd.M (Kd.int .i64) _ _ _ 1000 [.int .i64 1000] from rfl) (Reps.one (show Kd.M (Kd.int .i64) _ _ _ 10000 [.int .i64 10000] from rfl) (Reps.none _ _)))))); intro v279 w23 ho24 hb hg_ hnew_; clear hg_ hnew_; (first | rw [← Ny278.out] at ho24 | (simp only [Int.reduceToNat] at ho24; rw [← Ny278.out] at ho24)); have n0_ := Aside0.mk (Kd.R_elder' (by (with_reducible repeat (first | apply Kd.R_alloc | apply Kd.R_drewN | apply Kd.R_drew)); exact HO275.out) (Kd.R_base ho24) hb); have n1_ := Aside0.mk (Kd.R_lower (Kd.R_new' ho24 (Kd.R_lt (by (with_reducible repeat (first | apply Kd.R_alloc | apply Kd.R_drewN | apply Kd.R_drew)); exact HO275.out))) (below_size (by repeat (first | (with_reducible first | exact HB.out | apply below_alloc | apply pw_below_drewN | apply below_drew1) | exact HB.out)))); have n2_ := Aside0.mk (below_step (by repeat (first | (with_reducible first | exact HB.out | apply below_alloc | apply pw_below_drewN | apply below_drew1) | exact HB.out)) hb); clear HO275; clear HB; have HO275 := n0_; have HO280 := n1_; have HB := n2_; clear n0_ n1_ n2_; clear hb ho24; obtain ⟨Ao25, co25, eo25⟩ := Kd.R_slice HO280.out; subst eo25) | ((with_reducible refine gate_callee (f := 46) rfl ?_); refine goesL_ (some 26) rfl rfl Try.func46 (by kernel_rfl) rfl #[.int .i64 1005, .slice Ao25 y278.length co25] rfl (by (try simp only [List.map_toArray, List.map_cons, List.map_nil]); first | done | rfl | (simp only [List.length_drop, List.length_take]; rfl)) ?_; (with_reducible refine (fee_All.calls 1000 1005 _ _ y278 t281 t282 t283 t284 t285 _ ?side1 ?side2 A4.out).mono ?_); (case side1 => repeat (first | exact (Kd.R_reads' HO280.out).2.2 | (with_reducible refine Kd.C_alloc ?_ _) | (with_reducible refine Kd.C_drewN ?_ _) | (with_reducible refine Kd.C_drew ?_))); (case side2 => exact (Kd.R_reads' HO280.out).2.1); rintro e w26 ⟨rfl, hb⟩; refine ⟨_, rfl, ?_⟩; have n0_ := Aside0.mk (Kd.R_below (by (with_reducible repeat (first | apply Kd.R_alloc | apply Kd.R_drewN | apply Kd.R_drew)); exact HO275.out) hb); have n1_ := Aside0.mk (Kd.R_below (by (with_reducible repeat (first | apply Kd.R_alloc | apply Kd.R_drewN | apply Kd.R_drew)); exact HO280.out) hb); have n2_ := Aside0.mk (below_step (by repeat (first | (with_reducible first | exact HB.out | apply below_alloc | apply pw_below_drewN | apply below_drew1) | exact HB.out)) hb); clear HO275; clear HO280; clear HB; have HO275 := n0_; have HO280 := n1_; have HB := n2_; clear n0_ n1_ n2_; (try clear hb); (try clear hb2); (try clear hk); (try clear hi)) | ((with_reducible refine gate_dst (N := 7) rfl ?_); (try (refine gate_guard (by rfl) ?_; dsimp only)); refine box_event ?hg (N := 7) ?hd (cs := #[.int .i64 0, .int .i64 0, .int .i64 0, .int .i64 0]) (t := 39) ?hr ?_; (case hd => rfl); (case hg => rfl); (case hr => first | (go_simp; done) | (go_simp; rfl)); intro gb286 hg w27 hbox hb; have n0_ := Aside0.mk (Kd.R_below (by (with_reducible repeat (first | apply Kd.R_alloc | apply Kd.R_drewN | apply Kd.R_drew)); exact HO275.out) hb); have n1_ := Aside0.mk (Kd.R_below (by (with_reducible repeat (first | apply Kd.R_alloc | apply Kd.R_drewN | apply Kd.R_drew)); exact HO280.out) hb); have n2_ := Aside0.mk (below_step (by repeat (first | (with_reducible first | exact HB.out | apply below_alloc | apply pw_below_drewN | apply below_drew1) | exact HB.out)) hb); have n3_ := Aside0.mk (hbox); have n4_ := Aside0.mk ((by rw [hg]; exact (below_size (by repeat (first | (with_reducible first | exact HB.out | apply below_alloc | apply pw_below_drewN | apply below_drew1) | exact HB.out))) : w.heap.size ≤ gb286)); have n5_ := Aside0.mk ((by rw [hg]; exact (below_size (by repeat (first | (with_reducible first | exact HB.out | apply below_alloc | apply pw_below_drewN | apply below_drew1) | exact HB.out))) : w.heap.size ≤ gb286)); clear HO275; clear HO280; clear HB; have HO275 := n0_; have HO280 := n1_; have HB := n2_; have BK286 := n3_; have GW286 := n4_; have GE286 := n5_; clear n0_ n1_ n2_ n3_ n4_ n5_; clear hb hbox hg; have hcz28_0 : w27.cell? ⟨gb286, 0, none⟩ = some (.int .i64 0) := (blk_cell BK286.out 0).trans rfl; have hcz28_1 : w27.cell? ⟨gb286, 1, none⟩ = some (.int .i64 0) := (blk_cell BK286.out 1).trans rfl; have hcz28_2 : w27.cell? ⟨gb286, 2, none⟩ = some (.int .i64 0) := (blk_cell BK286.out 2).trans rfl; have hcz28_3 : w27.cell? ⟨gb286, 3, none⟩ = some (.int .i64 0) := (blk_cell BK286.out 3).trans rfl; have hfz28_0 := blk_frozen BK286.out 0; have hfz28_1 := blk_frozen BK286.out 1; have hfz28_2 := blk_frozen BK286.out 2; have hfz28_3 := blk_frozen BK286.out 3) | ((with_reducible refine gate_callee (f := 40) rfl ?_); refine goesL_ (some 30) rfl rfl Try.func40 (by kernel_rfl) rfl #[.int .i64 1, .int .i64 10001] rfl (by (try simp only [List.map_toArray, List.map_cons, List.map_nil]); first | done | rfl | (simp only [List.length_drop, List.length_take]; rfl)) ?_; (with_reducible refine (fee_Of.calls 1000 1 10001 t287 t288 _ A5.out).mono ?_); rintro e w29 ⟨rfl, hb⟩; refine ⟨_, rfl, ?_⟩; have n0_ := Aside0.mk (Kd.R_below (by (with_reducible repeat (first | apply Kd.R_alloc | apply Kd.R_drewN | apply Kd.R_drew)); exact (Kd.R_mono (Kd.R_far (p := ⟨gb286, 3, none⟩) (Kd.R_far (p := ⟨gb286, 2, none⟩) (Kd.R_far (p := ⟨gb286, 1, none⟩) (Kd.R_far (p := ⟨gb286, 0, none⟩) (Kd.R_types HO275.out BK286.out (by decide)) (fun _ hk => hk.2) (.int .i64 t281)) (fun _ hk => hk.2) (.int .i64 t282)) (fun _ hk => hk.2) (.int .i64 t283)) (fun _ hk => hk.2) (.int .i64 t284)) (fun _ h_ => h_.1))) hb); have n1_ := Aside0.mk (Kd.R_below (by (with_reducible repeat (first | apply Kd.R_alloc | apply Kd.R_drewN | apply Kd.R_drew)); exact (Kd.R_mono (Kd.R_far (p := ⟨gb286, 3, none⟩) (Kd.R_far (p := ⟨gb286, 2, none⟩) (Kd.R_far (p := ⟨gb286, 1, none⟩) (Kd.R_far (p := ⟨gb286, 0, none⟩) (Kd.R_types HO280.out BK286.out (by decide)) (fun _ hk => hk.2) (.int .i64 t281)) (fun _ hk => hk.2) (.int .i64 t282)) (fun _ hk => hk.2) (.int .i64 t283)) (fun _ hk => hk.2) (.int .i64 t284)) (fun _ h_ => h_.1))) hb); have n2_ := Aside0.mk (blk_below (g := gb286) (o := .cells #[.int .i64 t281, .int .i64 t282, .int .i64 t283, .int .i64 t284] 39 (0, 0)) (by (with_reducible repeat (first | refine blk_drewN ?_ _ | refine blk_drew ?_ | refine blk_alloc ?_ _)); refine blk_put (cs := #[.int .i64 t281, .int .i64 t282, .int .i64 t283, .int .i64 0]) ?_ 3 _ rfl; (with_reducible repeat (first | refine blk_drewN ?_ _ | refine blk_drew ?_ | refine blk_alloc ?_ _)); refine blk_put (cs := #[.int .i64 t281, .int .i64 t282, .int .i64 0, .int .i64 0]) ?_ 2 _ rfl; (with_reducible repeat (first | refine blk_drewN ?_ _ | refine blk_drew ?_ | refine blk_alloc ?_ _)); refine blk_put (cs := #[.int .i64 t281, .int .i64 0, .int .i64 0, .int .i64 0]) ?_ 1 _ rfl; (with_reducible repeat (first | refine blk_drewN ?_ _ | refine blk_drew ?_ | refine blk_alloc ?_ _)); refine blk_put (cs := #[.int .i64 0, .int .i64 0, .int .i64 0, .int .i64 0]) ?_ 0 _ rfl; (with_reducible repeat (first | refine blk_drewN ?_ _ | refine blk_drew ?_ | refine blk_alloc ?_ _)); exact BK286.out) hb); have n3_ := Aside0.mk (below_step (by repeat (first | (with_reducible first | exact HB.out | apply below_alloc | apply pw_below_drewN | apply below_drew1 | refine below_set ?_ GE286.out) | exact HB.out)) hb); clear HO275; clear HO280; clear BK286; clear HB; have HO275 := n0_; have HO280 := n1_; have BK286 := n2_; have HB := n3_; clear n0_ n1_ n2_ n3_; (try clear hb); (try clear hb2); (try clear hk); (try clear hi); have hcz30_0 : w29.cell? ⟨gb286, 0, none⟩ = some (.int .i64 t281) := (blk_cell BK286.out 0).trans rfl; have hcz30_1 : w29.cell? ⟨gb286, 1, none⟩ = some (.int .i64 t282) := (blk_cell BK286.out 1).trans rfl; have hcz30_2 : w29.cell? ⟨gb286, 2, none⟩ = some (.int .i64 t283) := (blk_cell BK286.out 2).trans rfl; have hcz30_3 : w29.cell? ⟨gb286, 3, none⟩ = some (.int .i64 t284) := (blk_cell BK286.out 3).trans rfl; have hfz30_0 := blk_frozen BK286.out 0; have hfz30_1 := blk_frozen BK286.out 1; have hfz30_2 := blk_frozen BK286.out 2; have hfz30_3 := blk_frozen BK286.out 3) | ((with_reducible refine gate_dst (N := 69) rfl ?_); (try (refine gate_guard (by rfl) ?_; dsimp only)); refine Kd.R_lit (Kd.int .i64) _ 3 ?hg (N := 69) ?hd (xs := ([1, 0, 2, 3] : List Int)) (inner := [.int .i64 1, .int .i64 0, .int .i64 2, .int .i64 3]) (ok := fun _ => True) (okp := fun _ => True) ?hr ?hp (fun _ hk => hk) trivial (Below.refl _ _) (Nat.le_refl _) (by simp) ?_; (case hd => rfl); (case hg => rfl); (case hr => first | (go_simp; done) | (go_simp; rfl)); (case hp => exact (Reps.one (show Kd.M (Kd.int .i64) _ _ _ 1 [.int .i64 1] from rfl) (Reps.one (show Kd.M (Kd.int .i64) _ _ _ 0 [.int .i64 0] from rfl) (Reps.one (show Kd.M (Kd.int .i64) _ _ _ 2 [.int .i64 2] from rfl) (Reps.one (show Kd.M (Kd.int .i64) _ _ _ 3 [.int .i64 3] from rfl) (Reps.none _ _)))))); intro v290 w31 ho32 hb hg_ hnew_; clear hg_ hnew_; (first | rw [← Ny289.out] at ho32 | (simp only [Int.reduceToNat] at ho32; rw [← Ny289.out] at ho32)); have n0_ := Aside0.mk (Kd.R_elder' (by (with_reducible repeat (first | apply Kd.R_alloc | apply Kd.R_drewN | apply Kd.R_drew)); exact HO275.out) (Kd.R_base ho32) hb); have n1_ := Aside0.mk (Kd.R_elder' (by (with_reducible repeat (first | apply Kd.R_alloc | apply Kd.R_drewN | apply Kd.R_drew)); exact HO280.out) (Kd.R_base ho32) hb); have n2_ := Aside0.mk (Kd.R_lower (Kd.R_new' (Kd.R_new' ho32 (Kd.R_lt (by (with_reducible repeat (first | apply Kd.R_alloc | apply Kd.R_drewN | apply Kd.R_drew)); exact HO275.out))) (Kd.R_lt (by (with_reducible repeat (first | apply Kd.R_alloc | apply Kd.R_drewN | apply Kd.R_drew)); exact HO280.out))) (below_size (by repeat (first | (with_reducible first | exact HB.out | apply below_alloc | apply pw_below_drewN | apply below_drew1 | refine below_set ?_ GE286.out) | exact HB.out)))); have n3_ := Aside0.mk (blk_below (g := gb286) (o := .cells #[.int .i64 t281, .int .i64 t282, .int .i64 t283, .int .i64 t284] 39 (0, 0)) (by (with_reducible repeat (first | refine blk_drewN ?_ _ | refine blk_drew ?_ | refine blk_alloc ?_ _)); exact BK286.out) hb); have n4_ := Aside0.mk (below_step (by repeat (first | (with_reducible first | exact HB.out | apply below_alloc | apply pw_below_drewN | apply below_drew1 | refine below_set ?_ GE286.out) | exact HB.out)) hb); clear HO275; clear HO280; clear BK286; clear HB; have HO275 := n0_; have HO280 := n1_; have HO291 := n2_; have BK286 := n3_; have HB := n4_; clear n0_ n1_ n2_ n3_ n4_; clear hb ho32; obtain ⟨Ao33, co33, eo33⟩ := Kd.R_slice HO291.out; subst eo33) | (go_at_call 48; (with_reducible refine (fee_Check.calls 1000 _ _ y289 t292 _ ?side1 ?side2 A15.out).mono ?_); (case side1 => repeat (first | exact (Kd.R_reads' HO291.out).2.2 | (with_reducible refine Kd.C_alloc ?_ _) | (with_reducible refine Kd.C_drewN ?_ _) | (with_reducible refine Kd.C_drew ?_))); (case side2 => exact (Kd.R_reads' HO291.out).2.1); rintro e w' ⟨rfl, ⟨nd, rfl⟩⟩))
                      go_ret
                      exact ⟨by first | rfl | (simp [errW_none, errW_some] <;> rfl) | (simp [*, errW_none, errW_some] <;> rfl), by repeat (first | (with_reducible first | exact HB.out | apply below_alloc | apply pw_below_drewN | apply below_drew1 | refine below_set ?_ GE286.out) | exact HB.out)⟩
                    · rw [if_neg c16] at H
                      have c16b0 : (t292 == 36) = false := beq_eq_false_iff_ne.mpr c16
                      have c16b1 : (t292 != 36) = true := bne_iff_ne.mpr c16
                      exact absurd H (by simp)
                  · rw [if_neg c14] at H
                    have c14b0 : (t288 == 2) = false := beq_eq_false_iff_ne.mpr c14
                    have c14b1 : (t288 != 2) = true := bne_iff_ne.mpr c14
                    exact absurd H (by simp)
                · rw [if_neg c13] at H
                  have c13b0 : (t285 == 0) = false := beq_eq_false_iff_ne.mpr c13
                  have c13b1 : (t285 != 0) = true := bne_iff_ne.mpr c13
                  exact absurd H (by simp)
              · rw [if_neg c12] at H
                have c12b0 : (t281 == 1005 && (t282 == 904 && (t283 == 904 && (t284 == 0)))) = false := by simpa using c12
                (try (have c12b1 : decide (t281 = 1005 && (t282 == 904 && (t283 == 904 && (t284 == 0)))) = false := by simpa using c12))
                (try (have c12b2 : (t281 == 1005 && (t282 == 904 && (t283 == 904 && (t284 == 0)))) = false := by simpa using c12))
                (try (have c12b3 : ¬ (t281 = 1005 && (t282 == 904 && (t283 == 904 && (t284 == 0)))) := by simpa using c12))
                clear c12
                exact absurd H (by simp)
            · rw [if_neg c11] at H
              have c11b0 : (t277 == 0) = false := beq_eq_false_iff_ne.mpr c11
              have c11b1 : (t277 != 0) = true := bne_iff_ne.mpr c11
              exact absurd H (by simp)
          · rw [if_neg c10] at H
            have c10b0 : (t276 == 0) = false := beq_eq_false_iff_ne.mpr c10
            have c10b1 : (t276 != 0) = true := bne_iff_ne.mpr c10
            exact absurd H (by simp)
        · rw [if_neg c9] at H
          have c9b0 : (t272 == 0) = false := beq_eq_false_iff_ne.mpr c9
          have c9b1 : (t272 != 0) = true := bne_iff_ne.mpr c9
          exact absurd H (by simp)
      · rw [if_neg c8] at H
        have c8b0 : (t271 == 904) = false := beq_eq_false_iff_ne.mpr c8
        have c8b1 : (t271 != 904) = true := bne_iff_ne.mpr c8
        exact absurd H (by simp)
    · rw [if_neg c7] at H
      have c7b0 : (t270 == 0) = false := beq_eq_false_iff_ne.mpr c7
      have c7b1 : (t270 != 0) = true := bne_iff_ne.mpr c7
      exact absurd H (by simp)
  · rw [if_neg c6] at H
    have c6b0 : (t269 == 101) = false := beq_eq_false_iff_ne.mpr c6
    have c6b1 : (t269 != 101) = true := bne_iff_ne.mpr c6
    exact absurd H (by simp)

end Go.Proofs.Ytefhljhpcpajgaa.F

namespace Go.Proofs.Ytefhljhpcpajgaa.F
open Go.RowKit Go.Proofs.YtefhljhpcpajgaaX Go.Proofs.YtefhljhpcpajgaaW.PrintWords Go.Proofs.YtefhljhpcpajgaaW.PrintLast Go.Proofs.YtefhljhpcpajgaaW.PrintMore
attribute [local go_sem] max2_int min2_int max_two min_two max_three min_three max_four min_four   -- for this text's walks alone
set_option linter.unusedVariables false
set_option linter.unusedSimpArgs false

/-! ### backhaulref04_Of: function 41 -/
def backhaulref04_Of.j0 : Nat → Int → Int → Bool → Option (Int × Int)
  | 0, _, _, _ => none
  | k + 1, x0, x1, x11 => if x11 = true then (some (0, 2)) else (if x0 < 0 then (some (0, 8)) else (if x0 > 1000000000000 then (some (0, 8)) else (some (wrap64 (Int.tdiv (wrap64 ((wrap64 ((wrap64 (2 * x0)) * x1)) + 10000)) 20000), 0))))
def backhaulref04_Of.f (k : Nat) (a0 : Int) (a1 : Int) : Option (Int × Int) := if a1 < 0 then (backhaulref04_Of.j0 k a0 a1 true) else (backhaulref04_Of.j0 k a0 a1 (decide (a1 > 10000)))
theorem backhaulref04_Of.mono_l : ∀ k, (∀ y0 y1 y2, LeO (backhaulref04_Of.j0 k y0 y1 y2) (backhaulref04_Of.j0 (k + 1) y0 y1 y2))
  | 0 => fun _ _ _ r h => by simp [backhaulref04_Of.j0] at h
  | k + 1 => by
    have ih0 := backhaulref04_Of.mono_l k
    · intro y0 y1 y2
      unfold backhaulref04_Of.j0
      repeat' first
      | (with_reducible exact ih0 _ _ _)
      | (with_reducible exact LeO.refl _)
      | (with_reducible exact LeO.none _)
      | (with_reducible refine LeO.ite ?_ ?_)
      | (with_reducible refine LeO.bind ?_ (fun _ => ?_))
      | exact ih0 _ _ _
      | exact LeO.none _
      | refine LeO.ite ?_ ?_
      | refine LeO.bind ?_ (fun _ => ?_)
theorem backhaulref04_Of.mono : ∀ a0 a1 k, LeO (backhaulref04_Of.f k a0 a1) (backhaulref04_Of.f (k + 1) a0 a1) := by
  intro a0 a1 k
  have ih0 := backhaulref04_Of.mono_l k
  unfold backhaulref04_Of.f
  repeat' first
      | (with_reducible exact ih0 _ _ _)
      | (with_reducible exact LeO.refl _)
      | (with_reducible exact LeO.none _)
      | (with_reducible refine LeO.ite ?_ ?_)
      | (with_reducible refine LeO.bind ?_ (fun _ => ?_))
      | exact ih0 _ _ _
      | exact LeO.none _
      | refine LeO.ite ?_ ?_
      | refine LeO.bind ?_ (fun _ => ?_)
set_option maxHeartbeats 8000000 in
set_option maxRecDepth 100000 in
theorem backhaulref04_Of.calls (k : Nat) (a0 : Int) (a1 : Int) (r1 : Int) (r2 : Int) (w : World) (h : backhaulref04_Of.f k a0 a1 = some (r1, r2)) :
    Calls Try.prog 41 #[.int .i64 a0, .int .i64 a1] w fun e w' => e = .returned (.tuple #[.int .i64 r1, .int .i64 r2]) ∧ Drawn0 w w' := by
  have H : (if a1 < 0 then (backhaulref04_Of.j0 k a0 a1 true) else (backhaulref04_Of.j0 k a0 a1 (decide (a1 > 10000)))) = some (r1, r2) := h
  clear h
  have HC3 := Aside0.mk H
  clear H
  go_enter Try.func41, Try.ntmps41
  go_upto_region 1 with (fail)
  go_cut [11] (fun v11 wc => ∃ (kq : Nat) (x11_2 : Bool), v11 = .bool x11_2 ∧ Aside0 (backhaulref04_Of.j0 kq a0 a1 x11_2 = some (r1, r2)) ∧ Aside0 (kq ≤ k) ∧ Drawn0 w wc)
  case first =>
    have H := HC3.out
    clear HC3
    by_cases c4 : a1 < 0
    · rw [if_pos c4] at H
      have c4b0 : decide (a1 < 0) = true := decide_eq_true c4
      clear c4
      (first | rw [c4b0] | (simp only [i64_w, i32_w]; rw [c4b0]) | skip)
      have H' := Aside0.mk H
      clear H
      go_wp2
      go_meet
      case rel => exact ⟨_, (true), (by first | rfl | (simp; done) | (simp [*]; done)), H', ⟨by first | omega | exact Nat.le_refl _⟩, by repeat (first | exact Drawn0.refl _ | apply Drawn0.step)⟩
    · rw [if_neg c4] at H
      have c4b0 : decide (a1 < 0) = false := decide_eq_false c4
      clear c4
      (first | rw [c4b0] | (simp only [i64_w, i32_w]; rw [c4b0]) | skip)
      have H' := Aside0.mk H
      clear H
      go_wp2
      go_meet
      case rel => exact ⟨_, (decide (a1 > 10000)), (by first | rfl | (simp; done) | (simp [*]; done)), H', ⟨by first | omega | exact Nat.le_refl _⟩, by repeat (first | exact Drawn0.refl _ | apply Drawn0.step)⟩
  case rest =>
    clear HC3
    try clear p2
    try clear c4
    try clear c4b0
    obtain ⟨kq, x11_2, rfl, HA, HJ2, ⟨mc2, rfl⟩⟩ := hcut
    cases kq with
    | zero => exact absurd HA.out (by simp [backhaulref04_Of.j0])
    | succ kj2 =>
      have H := HA.out
      clear HA
      simp only [backhaulref04_Of.j0] at H
      by_cases c5 : x11_2 = true
      · subst c5
        have H1 : (some (0, 2)) = some (r1, r2) := by first | (rw [if_pos rfl] at H; exact H) | rfl
        clear H
        have H := H1
        clear H1
        simp only [Option.some.injEq, Prod.mk.injEq] at H
        obtain ⟨rfl, rfl⟩ := H
        go_wp2
        go_ret2
        exact ⟨by first | rfl | (simp; done) | (simp [*]; done), by repeat (first | exact Drawn0.refl _ | apply Drawn0.step)⟩
      · replace c5 := Bool.eq_false_iff.mpr c5
        subst c5
        have H1 : (if a0 < 0 then (some (0, 8)) else (if a0 > 1000000000000 then (some (0, 8)) else (some (wrap64 (Int.tdiv (wrap64 ((wrap64 ((wrap64 (2 * a0)) * a1)) + 10000)) 20000), 0)))) = some (r1, r2) := by first | (rw [if_neg (show ¬ (false = true) by decide)] at H; exact H) | rfl
        clear H
        have H := H1
        clear H1
        by_cases c6 : a0 < 0
        · rw [if_pos c6] at H
          have c6b0 : decide (a0 < 0) = true := decide_eq_true c6
          clear c6
          simp only [Option.some.injEq, Prod.mk.injEq] at H
          obtain ⟨rfl, rfl⟩ := H
          go_wp2
          go_ret2
          exact ⟨by first | rfl | (simp; done) | (simp [*]; done), by repeat (first | exact Drawn0.refl _ | apply Drawn0.step)⟩
        · rw [if_neg c6] at H
          have c6b0 : decide (a0 < 0) = false := decide_eq_false c6
          clear c6
          by_cases c7 : a0 > 1000000000000
          · rw [if_pos c7] at H
            have c7b0 : decide (1000000000000 < a0) = true := decide_eq_true c7
            clear c7
            simp only [Option.some.injEq, Prod.mk.injEq] at H
            obtain ⟨rfl, rfl⟩ := H
            go_wp2
            go_ret2
            exact ⟨by first | rfl | (simp; done) | (simp [*]; done), by repeat (first | exact Drawn0.refl _ | apply Drawn0.step)⟩
          · rw [if_neg c7] at H
            have c7b0 : decide (1000000000000 < a0) = false := decide_eq_false c7
            clear c7
            simp only [Option.some.injEq, Prod.mk.injEq] at H
            obtain ⟨rfl, rfl⟩ := H
            go_wp2
            go_ret2
            exact ⟨by first | rfl | (simp; done) | (simp [*]; done), by repeat (first | exact Drawn0.refl _ | apply Drawn0.step)⟩

end Go.Proofs.Ytefhljhpcpajgaa.F

namespace Go.Proofs.Ytefhljhpcpajgaa.F
open Go.RowKit Go.Proofs.YtefhljhpcpajgaaX Go.Proofs.YtefhljhpcpajgaaW.PrintWords Go.Proofs.YtefhljhpcpajgaaW.PrintLast Go.Proofs.YtefhljhpcpajgaaW.PrintMore
attribute [local go_sem] max2_int min2_int max_two min_two max_three min_three max_four min_four   -- for this text's walks alone
set_option linter.unusedVariables false
set_option linter.unusedSimpArgs false

/-! ### backhaulref04_Less: function 43 -/
def backhaulref04_Less.f (k : Nat) (a0 : Int) (a1 : Int) : Option (Int × Int) := (backhaulref04_Of.f k a0 a1).bind fun bt293 => (if bt293.2 = 0 then (some (wrap64 (a0 - bt293.1), 0)) else (some (0, bt293.2)))
theorem backhaulref04_Less.mono : ∀ a0 a1 k, LeO (backhaulref04_Less.f k a0 a1) (backhaulref04_Less.f (k + 1) a0 a1) := by
  intro a0 a1 k
  unfold backhaulref04_Less.f
  repeat' first
      | (with_reducible exact backhaulref04_Of.mono _ _ _)
      | (with_reducible exact LeO.refl _)
      | (with_reducible exact LeO.none _)
      | (with_reducible refine LeO.ite ?_ ?_)
      | (with_reducible refine LeO.bind ?_ (fun _ => ?_))
      | exact backhaulref04_Of.mono _ _ _
      | exact LeO.none _
      | refine LeO.ite ?_ ?_
      | refine LeO.bind ?_ (fun _ => ?_)
set_option maxHeartbeats 8000000 in
set_option maxRecDepth 100000 in
theorem backhaulref04_Less.calls (k : Nat) (a0 : Int) (a1 : Int) (r1 : Int) (r2 : Int) (w : World) (h : backhaulref04_Less.f k a0 a1 = some (r1, r2)) :
    Calls Try.prog 43 #[.int .i64 a0, .int .i64 a1] w fun e w' => e = .returned (.tuple #[.int .i64 r1, .int .i64 r2]) ∧ Drawn0 w w' := by
  have H : ((backhaulref04_Of.f k a0 a1).bind fun bt293 => (if bt293.2 = 0 then (some (wrap64 (a0 - bt293.1), 0)) else (some (0, bt293.2)))) = some (r1, r2) := h
  clear h
  replace H := Option.bind_eq_some_iff.mp H
  obtain ⟨⟨t293, t294⟩, A30, H⟩ := H
  replace H : (if t294 = 0 then (some (wrap64 (a0 - t293), 0)) else (some (0, t294))) = some (r1, r2) := H
  have A3 := Aside0.mk A30
  clear A30
  by_cases c4 : t294 = 0
  · rw [if_pos c4] at H
    have c4b0 : (t294 == 0) = true := beq_iff_eq.mpr c4
    have c4b1 : (t294 != 0) = false := bne_eq_false_iff_eq.mpr c4
    clear c4
    simp only [Option.some.injEq, Prod.mk.injEq] at H
    obtain ⟨rfl, rfl⟩ := H
    go_enter Try.func43, Try.ntmps43
    go_wp2_with (first | ((with_reducible refine gate_callee (f := 41) rfl ?_); refine goesL_ (some 11) rfl rfl Try.func41 (by kernel_rfl) rfl #[.int .i64 a0, .int .i64 a1] rfl (by (try simp only [List.map_toArray, List.map_cons, List.map_nil]); first | done | rfl | (simp only [List.length_drop, List.length_take]; rfl)) ?_; (with_reducible refine (backhaulref04_Of.calls k a0 a1 t293 t294 _ A3.out).mono ?_); rintro e w' ⟨rfl, ⟨nd, rfl⟩⟩; refine ⟨_, rfl, ?_⟩))
    go_ret2
    exact ⟨by first | rfl | (simp; done) | (simp [*]; done), by repeat (first | exact Drawn0.refl _ | apply Drawn0.step)⟩
  · rw [if_neg c4] at H
    have c4b0 : (t294 == 0) = false := beq_eq_false_iff_ne.mpr c4
    have c4b1 : (t294 != 0) = true := bne_iff_ne.mpr c4
    simp only [Option.some.injEq, Prod.mk.injEq] at H
    obtain ⟨rfl, rfl⟩ := H
    go_enter Try.func43, Try.ntmps43
    go_wp2_with (first | ((with_reducible refine gate_callee (f := 41) rfl ?_); refine goesL_ (some 11) rfl rfl Try.func41 (by kernel_rfl) rfl #[.int .i64 a0, .int .i64 a1] rfl (by (try simp only [List.map_toArray, List.map_cons, List.map_nil]); first | done | rfl | (simp only [List.length_drop, List.length_take]; rfl)) ?_; (with_reducible refine (backhaulref04_Of.calls k a0 a1 t293 t294 _ A3.out).mono ?_); rintro e w' ⟨rfl, ⟨nd, rfl⟩⟩; refine ⟨_, rfl, ?_⟩))
    go_ret2
    exact ⟨by first | rfl | (simp; done) | (simp [*]; done), by repeat (first | exact Drawn0.refl _ | apply Drawn0.step)⟩

end Go.Proofs.Ytefhljhpcpajgaa.F

namespace Go.Proofs.Ytefhljhpcpajgaa.F
open Go.RowKit Go.Proofs.YtefhljhpcpajgaaX Go.Proofs.YtefhljhpcpajgaaW.PrintWords Go.Proofs.YtefhljhpcpajgaaW.PrintLast Go.Proofs.YtefhljhpcpajgaaW.PrintMore
attribute [local go_sem] max2_int min2_int max_two min_two max_three min_three max_four min_four   -- for this text's walks alone
set_option linter.unusedVariables false
set_option linter.unusedSimpArgs false

/-! ### backhaulref04_Check: function 49 -/
def backhaulref04_Check.l0 : Nat → List Int → Int → Option (Int)
  | 0, _, _ => none
  | k + 1, x0, x3 => if x3 < 4 then (if 0 ≤ x3 then (if x3 < (x0.length : Int) then (if (rd x0 x3) < 0 then (some 36) else (if (rd x0 x3) > 10000 then (some 36) else (if x3 > 0 then (if 0 ≤ (wrap64 (x3 - 1)) then (if (wrap64 (x3 - 1)) < (x0.length : Int) then (if (rd x0 x3) < (rd x0 (wrap64 (x3 - 1))) then (some 36) else (backhaulref04_Check.l0 k x0 (wrap64 (x3 + 1)))) else (none)) else (none)) else (backhaulref04_Check.l0 k x0 (wrap64 (x3 + 1)))))) else (none)) else (none)) else (some 0)
def backhaulref04_Check.f (k : Nat) (l0 : List Int) : Option (Int) := if (l0.length : Int) = 4 then (backhaulref04_Check.l0 k l0 0) else (some 36)
theorem backhaulref04_Check.mono_l : ∀ k, (∀ y0 y1, LeO (backhaulref04_Check.l0 k y0 y1) (backhaulref04_Check.l0 (k + 1) y0 y1))
  | 0 => fun _ _ r h => by simp [backhaulref04_Check.l0] at h
  | k + 1 => by
    have ih0 := backhaulref04_Check.mono_l k
    · intro y0 y1
      unfold backhaulref04_Check.l0
      repeat' first
      | (with_reducible exact ih0 _ _)
      | (with_reducible exact LeO.refl _)
      | (with_reducible exact LeO.none _)
      | (with_reducible refine LeO.ite ?_ ?_)
      | (with_reducible refine LeO.bind ?_ (fun _ => ?_))
      | exact ih0 _ _
      | exact LeO.none _
      | refine LeO.ite ?_ ?_
      | refine LeO.bind ?_ (fun _ => ?_)
theorem backhaulref04_Check.mono : ∀ a0 k, LeO (backhaulref04_Check.f k a0) (backhaulref04_Check.f (k + 1) a0) := by
  intro a0 k
  have ih0 := backhaulref04_Check.mono_l k
  unfold backhaulref04_Check.f
  repeat' first
      | (with_reducible exact ih0 _ _)
      | (with_reducible exact LeO.refl _)
      | (with_reducible exact LeO.none _)
      | (with_reducible refine LeO.ite ?_ ?_)
      | (with_reducible refine LeO.bind ?_ (fun _ => ?_))
      | exact ih0 _ _
      | exact LeO.none _
      | refine LeO.ite ?_ ?_
      | refine LeO.bind ?_ (fun _ => ?_)
set_option maxHeartbeats 8000000 in
set_option maxRecDepth 100000 in
theorem backhaulref04_Check.calls (k : Nat) (A0 : Option Addr) (c0 : Nat) (l0 : List Int) (r : Int) (w : World) (hr0 : Kd.C (Kd.int .i64) w A0 l0.length l0) (hc0 : l0.length ≤ c0) (h : backhaulref04_Check.f k l0 = some r) :
    Calls Try.prog 49 #[.slice A0 l0.length c0] w fun e w' => e = .returned (.int .i64 r) ∧ Drawn0 w w' := by
  have HR0 := Aside0.mk hr0
  have HC0 := Aside0.mk hc0
  clear hr0 hc0
  have H : (if (l0.length : Int) = 4 then (backhaulref04_Check.l0 k l0 0) else (some 36)) = some r := h
  clear h
  by_cases c2 : (l0.length : Int) = 4
  · rw [if_pos c2] at H
    have c2b0 : ((l0.length : Int) == 4) = true := beq_iff_eq.mpr c2
    have c2b1 : ((l0.length : Int) != 4) = false := bne_eq_false_iff_eq.mpr c2
    clear c2
    have H' := Aside0.mk H
    clear H
    go_enter Try.func49, Try.ntmps49
    go_wp2
    repeat (go_quiet (fail); try go_wp2)
    go_loopg [3] k (fun kq v3 w' => ∃ (x3_1 : Int), v3 = .int .i64 x3_1 ∧ Aside0 (backhaulref04_Check.l0 kq l0 x3_1 = some r) ∧ Aside0 (kq ≤ k) ∧ Drawn0 w w')
    case atStart => exact ⟨(0), (by first | rfl | (simp; done) | (simp [*]; done)), H', ⟨Nat.le_refl _⟩, by repeat (first | exact Drawn0.refl _ | apply Drawn0.step)⟩
    case round =>
      clear H'
      try clear c2
      try clear c2b0
      try clear c2b1
      try clear p2
      obtain ⟨x3_1, rfl, HA, HK1, ⟨m1, rfl⟩⟩ := hrel
      cases gk with
      | zero => exact absurd HA.out (by simp [backhaulref04_Check.l0])
      | succ k1 =>
        have H := HA.out
        clear HA
        simp only [backhaulref04_Check.l0] at H
        by_cases c3 : x3_1 < 4
        · rw [if_pos c3] at H
          have c3b0 : decide (x3_1 < 4) = true := decide_eq_true c3
          clear c3
          by_cases c4 : 0 ≤ x3_1
          · rw [if_pos c4] at H
            have c4b0 : decide (0 ≤ x3_1) = true := decide_eq_true c4
            clear c4
            by_cases c5 : x3_1 < (l0.length : Int)
            · rw [if_pos c5] at H
              have c5b0 : decide (x3_1 < (l0.length : Int)) = true := decide_eq_true c5
              clear c5
              by_cases c6 : (rd l0 x3_1) < 0
              · rw [if_pos c6] at H
                have c6b0 : decide ((rd l0 x3_1) < 0) = true := decide_eq_true c6
                clear c6
                obtain rfl := Option.some.inj H
                have p295 : 0 ≤ (x3_1 : Int) := of_decide_eq_true (by first | (with_reducible assumption) | assumption)
                have q295 : x3_1 < (l0.length : Int) := of_decide_eq_true (by first | (with_reducible assumption) | assumption)
                obtain ⟨ad295, e295, hx295_0⟩ := Kd.at_int HR0.out x3_1 p295 q295
                cases e295
                replace p295 := eq_true p295
                replace q295 := eq_true q295
                go_wp2
                repeat (go_quiet (fail); try go_wp2)
                go_ret
                exact ⟨by first | rfl | (simp; done) | (simp [*]; done), by repeat (first | exact Drawn0.refl _ | apply Drawn0.step)⟩
              · rw [if_neg c6] at H
                have c6b0 : decide ((rd l0 x3_1) < 0) = false := decide_eq_false c6
                clear c6
                by_cases c7 : (rd l0 x3_1) > 10000
                · rw [if_pos c7] at H
                  have c7b0 : decide (10000 < (rd l0 x3_1)) = true := decide_eq_true c7
                  clear c7
                  obtain rfl := Option.some.inj H
                  have p295 : 0 ≤ (x3_1 : Int) := of_decide_eq_true (by first | (with_reducible assumption) | assumption)
                  have q295 : x3_1 < (l0.length : Int) := of_decide_eq_true (by first | (with_reducible assumption) | assumption)
                  obtain ⟨ad295, e295, hx295_0⟩ := Kd.at_int HR0.out x3_1 p295 q295
                  cases e295
                  replace p295 := eq_true p295
                  replace q295 := eq_true q295
                  have p296 : 0 ≤ (x3_1 : Int) := of_decide_eq_true (by first | (with_reducible assumption) | assumption)
                  have q296 : x3_1 < (l0.length : Int) := of_decide_eq_true (by first | (with_reducible assumption) | assumption)
                  obtain ⟨ad296, e296, hx296_0⟩ := Kd.at_int HR0.out x3_1 p296 q296
                  obtain rfl : ad295 = ad296 := (by injection e296)
                  replace p296 := eq_true p296
                  replace q296 := eq_true q296
                  go_wp2
                  repeat (go_quiet (fail); try go_wp2)
                  go_ret
                  exact ⟨by first | rfl | (simp; done) | (simp [*]; done), by repeat (first | exact Drawn0.refl _ | apply Drawn0.step)⟩
                · rw [if_neg c7] at H
                  have c7b0 : decide (10000 < (rd l0 x3_1)) = false := decide_eq_false c7
                  clear c7
                  by_cases c8 : x3_1 > 0
                  · rw [if_pos c8] at H
                    have c8b0 : decide (0 < x3_1) = true := decide_eq_true c8
                    clear c8
                    obtain ⟨ji9, hji9⟩ : ∃ j_ : Int, (wrap64 (x3_1 - 1)) = j_ := ⟨_, rfl⟩
                    replace H : (if 0 ≤ (ji9) then (if (ji9) < (l0.length : Int) then (if (rd l0 x3_1) < (rd l0 (ji9)) then (some 36) else (backhaulref04_Check.l0 k1 l0 (wrap64 (x3_1 + 1)))) else (none)) else (none)) = some r := by first | (rw [hji9] at H; exact H) | (simp only [hji9] at H ⊢; exact H)
                    have hji9w : (IntKind.i64.wrap (x3_1 - 1)) = ji9 := (i64_w _).trans hji9
                    by_cases c10 : 0 ≤ (ji9)
                    · rw [if_pos c10] at H
                      have c10b0 : decide (0 ≤ (ji9)) = true := decide_eq_true c10
                      clear c10
                      by_cases c11 : (ji9) < (l0.length : Int)
                      · rw [if_pos c11] at H
                        have c11b0 : decide ((ji9) < (l0.length : Int)) = true := decide_eq_true c11
                        clear c11
                        by_cases c12 : (rd l0 x3_1) < (rd l0 (ji9))
                        · rw [if_pos c12] at H
                          have c12b0 : decide ((rd l0 x3_1) < (rd l0 (ji9))) = true := decide_eq_true c12
                          clear c12
                          obtain rfl := Option.some.inj H
                          have p295 : 0 ≤ (x3_1 : Int) := of_decide_eq_true (by first | (with_reducible assumption) | assumption)
                          have q295 : x3_1 < (l0.length : Int) := of_decide_eq_true (by first | (with_reducible assumption) | assumption)
                          obtain ⟨ad295, e295, hx295_0⟩ := Kd.at_int HR0.out x3_1 p295 q295
                          cases e295
                          replace p295 := eq_true p295
                          replace q295 := eq_true q295
                          have p296 : 0 ≤ (x3_1 : Int) := of_decide_eq_true (by first | (with_reducible assumption) | assumption)
                          have q296 : x3_1 < (l0.length : Int) := of_decide_eq_true (by first | (with_reducible assumption) | assumption)
                          obtain ⟨ad296, e296, hx296_0⟩ := Kd.at_int HR0.out x3_1 p296 q296
                          obtain rfl : ad295 = ad296 := (by injection e296)
                          replace p296 := eq_true p296
                          replace q296 := eq_true q296
                          have p297 : 0 ≤ (x3_1 : Int) := of_decide_eq_true (by first | (with_reducible assumption) | assumption)
                          have q297 : x3_1 < (l0.length : Int) := of_decide_eq_true (by first | (with_reducible assumption) | assumption)
                          obtain ⟨ad297, e297, hx297_0⟩ := Kd.at_int HR0.out x3_1 p297 q297
                          obtain rfl : ad295 = ad297 := (by injection e297)
                          replace p297 := eq_true p297
                          replace q297 := eq_true q297
                          have p298 : 0 ≤ ((ji9) : Int) := of_decide_eq_true (by first | (with_reducible assumption) | assumption)
                          have q298 : (ji9) < (l0.length : Int) := of_decide_eq_true (by first | (with_reducible assumption) | assumption)
                          obtain ⟨ad298, e298, hx298_0⟩ := Kd.at_int HR0.out (ji9) p298 q298
                          obtain rfl : ad295 = ad298 := (by injection e298)
                          replace p298 := eq_true p298
                          replace q298 := eq_true q298
                          go_wp2
                          repeat (go_quiet (fail); try go_wp2)
                          go_ret
                          exact ⟨by first | rfl | (simp; done) | (simp only [← hji9] <;> (first | rfl | simp)) | (simp [*]; done), by repeat (first | exact Drawn0.refl _ | apply Drawn0.step)⟩
                        · rw [if_neg c12] at H
                          have c12b0 : decide ((rd l0 x3_1) < (rd l0 (ji9))) = false := decide_eq_false c12
                          clear c12
                          have H' := Aside0.mk H
                          clear H
                          have p295 : 0 ≤ (x3_1 : Int) := of_decide_eq_true (by first | (with_reducible assumption) | assumption)
                          have q295 : x3_1 < (l0.length : Int) := of_decide_eq_true (by first | (with_reducible assumption) | assumption)
                          obtain ⟨ad295, e295, hx295_0⟩ := Kd.at_int HR0.out x3_1 p295 q295
                          cases e295
                          replace p295 := eq_true p295
                          replace q295 := eq_true q295
                          have p296 : 0 ≤ (x3_1 : Int) := of_decide_eq_true (by first | (with_reducible assumption) | assumption)
                          have q296 : x3_1 < (l0.length : Int) := of_decide_eq_true (by first | (with_reducible assumption) | assumption)
                          obtain ⟨ad296, e296, hx296_0⟩ := Kd.at_int HR0.out x3_1 p296 q296
                          obtain rfl : ad295 = ad296 := (by injection e296)
                          replace p296 := eq_true p296
                          replace q296 := eq_true q296
                          have p297 : 0 ≤ (x3_1 : Int) := of_decide_eq_true (by first | (with_reducible assumption) | assumption)
                          have q297 : x3_1 < (l0.length : Int) := of_decide_eq_true (by first | (with_reducible assumption) | assumption)
                          obtain ⟨ad297, e297, hx297_0⟩ := Kd.at_int HR0.out x3_1 p297 q297
                          obtain rfl : ad295 = ad297 := (by injection e297)
                          replace p297 := eq_true p297
                          replace q297 := eq_true q297
                          have p298 : 0 ≤ ((ji9) : Int) := of_decide_eq_true (by first | (with_reducible assumption) | assumption)
                          have q298 : (ji9) < (l0.length : Int) := of_decide_eq_true (by first | (with_reducible assumption) | assumption)
                          obtain ⟨ad298, e298, hx298_0⟩ := Kd.at_int HR0.out (ji9) p298 q298
                          obtain rfl : ad295 = ad298 := (by injection e298)
                          replace p298 := eq_true p298
                          replace q298 := eq_true q298
                          go_wp2
                          repeat (go_quiet (fail); try go_wp2)
                          go_roundg k1
                          case measure => have := HK1.out; omega
                          case rel => exact ⟨(wrap64 (x3_1 + 1)), (by first | rfl | (simp; done) | (simp [*]; done)), H', ⟨by have := HK1.out; omega⟩, by repeat (first | exact Drawn0.refl _ | apply Drawn0.step)⟩
                      · rw [if_neg c11] at H
                        exact absurd H (by simp)
                    · rw [if_neg c10] at H
                      exact absurd H (by simp)
                  · rw [if_neg c8] at H
                    have c8b0 : decide (0 < x3_1) = false := decide_eq_false c8
                    clear c8
                    have H' := Aside0.mk H
                    clear H
                    have p295 : 0 ≤ (x3_1 : Int) := of_decide_eq_true (by first | (with_reducible assumption) | assumption)
                    have q295 : x3_1 < (l0.length : Int) := of_decide_eq_true (by first | (with_reducible assumption) | assumption)
                    obtain ⟨ad295, e295, hx295_0⟩ := Kd.at_int HR0.out x3_1 p295 q295
                    cases e295
                    replace p295 := eq_true p295
                    replace q295 := eq_true q295
                    have p296 : 0 ≤ (x3_1 : Int) := of_decide_eq_true (by first | (with_reducible assumption) | assumption)
                    have q296 : x3_1 < (l0.length : Int) := of_decide_eq_true (by first | (with_reducible assumption) | assumption)
                    obtain ⟨ad296, e296, hx296_0⟩ := Kd.at_int HR0.out x3_1 p296 q296
                    obtain rfl : ad295 = ad296 := (by injection e296)
                    replace p296 := eq_true p296
                    replace q296 := eq_true q296
                    go_wp2
                    repeat (go_quiet (fail); try go_wp2)
                    go_roundg k1
                    case measure => have := HK1.out; omega
                    case rel => exact ⟨(wrap64 (x3_1 + 1)), (by first | rfl | (simp; done) | (simp [*]; done)), H', ⟨by have := HK1.out; omega⟩, by repeat (first | exact Drawn0.refl _ | apply Drawn0.step)⟩
            · rw [if_neg c5] at H
              exact absurd H (by simp)
          · rw [if_neg c4] at H
            exact absurd H (by simp)
        · rw [if_neg c3] at H
          have c3b0 : decide (x3_1 < 4) = false := decide_eq_false c3
          clear c3
          obtain rfl := Option.some.inj H
          go_wp2
          repeat (go_quiet (fail); try go_wp2)
          go_ret
          exact ⟨by first | rfl | (simp; done) | (simp [*]; done), by repeat (first | exact Drawn0.refl _ | apply Drawn0.step)⟩
  · rw [if_neg c2] at H
    have c2b0 : ((l0.length : Int) == 4) = false := beq_eq_false_iff_ne.mpr c2
    have c2b1 : ((l0.length : Int) != 4) = true := bne_iff_ne.mpr c2
    obtain rfl := Option.some.inj H
    go_enter Try.func49, Try.ntmps49
    go_wp2
    repeat (go_quiet (fail); try go_wp2)
    go_ret
    exact ⟨by first | rfl | (simp; done) | (simp [*]; done), by repeat (first | exact Drawn0.refl _ | apply Drawn0.step)⟩

end Go.Proofs.Ytefhljhpcpajgaa.F

namespace Go.Proofs.Ytefhljhpcpajgaa.F
open Go.RowKit Go.Proofs.YtefhljhpcpajgaaX Go.Proofs.YtefhljhpcpajgaaW.PrintWords Go.Proofs.YtefhljhpcpajgaaW.PrintLast Go.Proofs.YtefhljhpcpajgaaW.PrintMore
attribute [local go_sem] max2_int min2_int max_two min_two max_three min_three max_four min_four   -- for this text's walks alone
set_option linter.unusedVariables false
set_option linter.unusedSimpArgs false

/-! ### backhaulref04_Grade: function 45 -/
def backhaulref04_Grade.f (k : Nat) (a0 : Int) (l1 : List Int) (a2 : Int) : Option (Int × Int) := (backhaulref04_Check.f k l1).bind fun t299 => (if t299 = 0 then (if a2 < 0 then (some (0, 2)) else (if a2 > 3 then (some (0, 2)) else (if 0 ≤ a2 then (if a2 < (l1.length : Int) then ((backhaulref04_Less.f k a0 (rd l1 a2)).bind fun bt301 => (some (bt301.1, bt301.2))) else (none)) else (none)))) else (some (0, 36)))
theorem backhaulref04_Grade.mono : ∀ a0 a1 a2 k, LeO (backhaulref04_Grade.f k a0 a1 a2) (backhaulref04_Grade.f (k + 1) a0 a1 a2) := by
  intro a0 a1 a2 k
  unfold backhaulref04_Grade.f
  repeat' first
      | (with_reducible exact backhaulref04_Check.mono _ _)
      | (with_reducible exact backhaulref04_Less.mono _ _ _)
      | (with_reducible exact LeO.refl _)
      | (with_reducible exact LeO.none _)
      | (with_reducible refine LeO.ite ?_ ?_)
      | (with_reducible refine LeO.bind ?_ (fun _ => ?_))
      | exact backhaulref04_Check.mono _ _
      | exact backhaulref04_Less.mono _ _ _
      | exact LeO.none _
      | refine LeO.ite ?_ ?_
      | refine LeO.bind ?_ (fun _ => ?_)
set_option maxHeartbeats 8000000 in
set_option maxRecDepth 100000 in
theorem backhaulref04_Grade.calls (k : Nat) (a0 : Int) (A1 : Option Addr) (c1 : Nat) (l1 : List Int) (a2 : Int) (r1 : Int) (r2 : Int) (w : World) (hr1 : Kd.C (Kd.int .i64) w A1 l1.length l1) (hc1 : l1.length ≤ c1) (h : backhaulref04_Grade.f k a0 l1 a2 = some (r1, r2)) :
    Calls Try.prog 45 #[.int .i64 a0, .slice A1 l1.length c1, .int .i64 a2] w fun e w' => e = .returned (.tuple #[.int .i64 r1, .int .i64 r2]) ∧ Drawn0 w w' := by
  have HR1 := Aside0.mk hr1
  have HC1 := Aside0.mk hc1
  clear hr1 hc1
  have H : ((backhaulref04_Check.f k l1).bind fun t299 => (if t299 = 0 then (if a2 < 0 then (some (0, 2)) else (if a2 > 3 then (some (0, 2)) else (if 0 ≤ a2 then (if a2 < (l1.length : Int) then ((backhaulref04_Less.f k a0 (rd l1 a2)).bind fun bt301 => (some (bt301.1, bt301.2))) else (none)) else (none)))) else (some (0, 36)))) = some (r1, r2) := h
  clear h
  replace H := Option.bind_eq_some_iff.mp H
  obtain ⟨t299, A40, H⟩ := H
  replace H : (if t299 = 0 then (if a2 < 0 then (some (0, 2)) else (if a2 > 3 then (some (0, 2)) else (if 0 ≤ a2 then (if a2 < (l1.length : Int) then ((backhaulref04_Less.f k a0 (rd l1 a2)).bind fun bt301 => (some (bt301.1, bt301.2))) else (none)) else (none)))) else (some (0, 36))) = some (r1, r2) := H
  have A4 := Aside0.mk A40
  clear A40
  by_cases c5 : t299 = 0
  · rw [if_pos c5] at H
    have c5b0 : (t299 == 0) = true := beq_iff_eq.mpr c5
    have c5b1 : (t299 != 0) = false := bne_eq_false_iff_eq.mpr c5
    clear c5
    by_cases c6 : a2 < 0
    · rw [if_pos c6] at H
      have c6b0 : decide (a2 < 0) = true := decide_eq_true c6
      clear c6
      simp only [Option.some.injEq, Prod.mk.injEq] at H
      obtain ⟨rfl, rfl⟩ := H
      go_enter Try.func45, Try.ntmps45
      go_wp2_with (first | ((with_reducible refine gate_callee (f := 49) rfl ?_); refine goesL_ (some 9) rfl rfl Try.func49 (by kernel_rfl) rfl #[.slice A1 l1.length c1] rfl (by (try simp only [List.map_toArray, List.map_cons, List.map_nil]); first | done | rfl | (simp only [List.length_drop, List.length_take]; rfl)) ?_; (with_reducible refine (backhaulref04_Check.calls k _ _ l1 t299 _ ?side1 ?side2 A4.out).mono ?_); (case side1 => repeat (first | exact HR1.out | (with_reducible refine Kd.C_alloc ?_ _) | (with_reducible refine Kd.C_drewN ?_ _) | (with_reducible refine Kd.C_drew ?_))); (case side2 => exact HC1.out); rintro e w' ⟨rfl, ⟨nd, rfl⟩⟩; refine ⟨_, rfl, ?_⟩))
      go_ret2
      exact ⟨by first | rfl | (simp; done) | (simp [*]; done), by repeat (first | exact Drawn0.refl _ | apply Drawn0.step)⟩
    · rw [if_neg c6] at H
      have c6b0 : decide (a2 < 0) = false := decide_eq_false c6
      clear c6
      by_cases c7 : a2 > 3
      · rw [if_pos c7] at H
        have c7b0 : decide (3 < a2) = true := decide_eq_true c7
        clear c7
        simp only [Option.some.injEq, Prod.mk.injEq] at H
        obtain ⟨rfl, rfl⟩ := H
        go_enter Try.func45, Try.ntmps45
        go_wp2_with (first | ((with_reducible refine gate_callee (f := 49) rfl ?_); refine goesL_ (some 9) rfl rfl Try.func49 (by kernel_rfl) rfl #[.slice A1 l1.length c1] rfl (by (try simp only [List.map_toArray, List.map_cons, List.map_nil]); first | done | rfl | (simp only [List.length_drop, List.length_take]; rfl)) ?_; (with_reducible refine (backhaulref04_Check.calls k _ _ l1 t299 _ ?side1 ?side2 A4.out).mono ?_); (case side1 => repeat (first | exact HR1.out | (with_reducible refine Kd.C_alloc ?_ _) | (with_reducible refine Kd.C_drewN ?_ _) | (with_reducible refine Kd.C_drew ?_))); (case side2 => exact HC1.out); rintro e w' ⟨rfl, ⟨nd, rfl⟩⟩; refine ⟨_, rfl, ?_⟩))
        go_ret2
        exact ⟨by first | rfl | (simp; done) | (simp [*]; done), by repeat (first | exact Drawn0.refl _ | apply Drawn0.step)⟩
      · rw [if_neg c7] at H
        have c7b0 : decide (3 < a2) = false := decide_eq_false c7
        clear c7
        by_cases c8 : 0 ≤ a2
        · rw [if_pos c8] at H
          have c8b0 : decide (0 ≤ a2) = true := decide_eq_true c8
          clear c8
          by_cases c9 : a2 < (l1.length : Int)
          · rw [if_pos c9] at H
            have c9b0 : decide (a2 < (l1.length : Int)) = true := decide_eq_true c9
            clear c9
            replace H := Option.bind_eq_some_iff.mp H
            obtain ⟨⟨t301, t302⟩, A100, H⟩ := H
            replace H : (some (t301, t302)) = some (r1, r2) := H
            have A10 := Aside0.mk A100
            clear A100
            simp only [Option.some.injEq, Prod.mk.injEq] at H
            obtain ⟨rfl, rfl⟩ := H
            go_enter Try.func45, Try.ntmps45
            go_wp2_with (first | ((with_reducible refine gate_callee (f := 49) rfl ?_); refine goesL_ (some 9) rfl rfl Try.func49 (by kernel_rfl) rfl #[.slice A1 l1.length c1] rfl (by (try simp only [List.map_toArray, List.map_cons, List.map_nil]); first | done | rfl | (simp only [List.length_drop, List.length_take]; rfl)) ?_; (with_reducible refine (backhaulref04_Check.calls k _ _ l1 t299 _ ?side1 ?side2 A4.out).mono ?_); (case side1 => repeat (first | exact HR1.out | (with_reducible refine Kd.C_alloc ?_ _) | (with_reducible refine Kd.C_drewN ?_ _) | (with_reducible refine Kd.C_drew ?_))); (case side2 => exact HC1.out); rintro e w' ⟨rfl, ⟨nd, rfl⟩⟩; refine ⟨_, rfl, ?_⟩; have p300 : 0 ≤ (a2 : Int) := of_decide_eq_true (by first | (with_reducible assumption) | assumption); have q300 : a2 < (l1.length : Int) := of_decide_eq_true (by first | (with_reducible assumption) | assumption); obtain ⟨ad300, e300, hx300_0⟩ := Kd.at_int HR1.out a2 p300 q300; cases e300; replace p300 := eq_true p300; replace q300 := eq_true q300) | ((with_reducible refine gate_callee (f := 43) rfl ?_); refine goesL_ (some 22) rfl rfl Try.func43 (by kernel_rfl) rfl #[.int .i64 a0, .int .i64 (rd l1 a2)] rfl (by (try simp only [List.map_toArray, List.map_cons, List.map_nil]); first | done | rfl | (simp only [List.length_drop, List.length_take]; rfl)) ?_; (with_reducible refine (backhaulref04_Less.calls k a0 (rd l1 a2) t301 t302 _ A10.out).mono ?_); rintro e w' ⟨rfl, ⟨nd, rfl⟩⟩; refine ⟨_, rfl, ?_⟩))
            go_ret2
            exact ⟨by first | rfl | (simp; done) | (simp [*]; done), by repeat (first | exact Drawn0.refl _ | apply Drawn0.step)⟩
          · rw [if_neg c9] at H
            exact absurd H (by simp)
        · rw [if_neg c8] at H
          exact absurd H (by simp)
  · rw [if_neg c5] at H
    have c5b0 : (t299 == 0) = false := beq_eq_false_iff_ne.mpr c5
    have c5b1 : (t299 != 0) = true := bne_iff_ne.mpr c5
    simp only [Option.some.injEq, Prod.mk.injEq] at H
    obtain ⟨rfl, rfl⟩ := H
    go_enter Try.func45, Try.ntmps45
    go_wp2_with (first | ((with_reducible refine gate_callee (f := 49) rfl ?_); refine goesL_ (some 9) rfl rfl Try.func49 (by kernel_rfl) rfl #[.slice A1 l1.length c1] rfl (by (try simp only [List.map_toArray, List.map_cons, List.map_nil]); first | done | rfl | (simp only [List.length_drop, List.length_take]; rfl)) ?_; (with_reducible refine (backhaulref04_Check.calls k _ _ l1 t299 _ ?side1 ?side2 A4.out).mono ?_); (case side1 => repeat (first | exact HR1.out | (with_reducible refine Kd.C_alloc ?_ _) | (with_reducible refine Kd.C_drewN ?_ _) | (with_reducible refine Kd.C_drew ?_))); (case side2 => exact HC1.out); rintro e w' ⟨rfl, ⟨nd, rfl⟩⟩; refine ⟨_, rfl, ?_⟩))
    go_ret2
    exact ⟨by first | rfl | (simp; done) | (simp [*]; done), by repeat (first | exact Drawn0.refl _ | apply Drawn0.step)⟩

end Go.Proofs.Ytefhljhpcpajgaa.F

namespace Go.Proofs.Ytefhljhpcpajgaa.F
open Go.RowKit Go.Proofs.YtefhljhpcpajgaaX Go.Proofs.YtefhljhpcpajgaaW.PrintWords Go.Proofs.YtefhljhpcpajgaaW.PrintLast Go.Proofs.YtefhljhpcpajgaaW.PrintMore
attribute [local go_sem] max2_int min2_int max_two min_two max_three min_three max_four min_four   -- for this text's walks alone
set_option linter.unusedVariables false
set_option linter.unusedSimpArgs false

/-! ### backhaulref04_All: function 47 (by hand) -/
def backhaulref04_All.step (k : Nat) (a0 x : Int) (c : Int → Option (Int × Int × Int × Int × Int)) : Option (Int × Int × Int × Int × Int) := (backhaulref04_Less.f k a0 x).bind fun p => if p.2 = 0 then c p.1 else some (0, 0, 0, 0, p.2)
def backhaulref04_All.rem (k : Nat) (a0 : Int) (l : List Int) : Nat → Int → Int → Int → Int → Option (Int × Int × Int × Int × Int)
  | 0, _, _, _, _ => backhaulref04_All.step k a0 (rd l 0) fun x0 => backhaulref04_All.step k a0 (rd l 1) fun x1 => backhaulref04_All.step k a0 (rd l 2) fun x2 => backhaulref04_All.step k a0 (rd l 3) fun x3 => some (x0, x1, x2, x3, 0)
  | 1, x0, _, _, _ => backhaulref04_All.step k a0 (rd l 1) fun x1 => backhaulref04_All.step k a0 (rd l 2) fun x2 => backhaulref04_All.step k a0 (rd l 3) fun x3 => some (x0, x1, x2, x3, 0)
  | 2, x0, x1, _, _ => backhaulref04_All.step k a0 (rd l 2) fun x2 => backhaulref04_All.step k a0 (rd l 3) fun x3 => some (x0, x1, x2, x3, 0)
  | 3, x0, x1, x2, _ => backhaulref04_All.step k a0 (rd l 3) fun x3 => some (x0, x1, x2, x3, 0)
  | _, x0, x1, x2, x3 => some (x0, x1, x2, x3, 0)
def backhaulref04_All.f (k : Nat) (a0 : Int) (l1 : List Int) : Option (Int × Int × Int × Int × Int) := (backhaulref04_Check.f k l1).bind fun t => if t = 0 then (if l1.length = 4 then backhaulref04_All.rem k a0 l1 0 0 0 0 0 else none) else some (0, 0, 0, 0, 36)
theorem backhaulref04_All.mono : ∀ a0 l1 k, LeO (backhaulref04_All.f k a0 l1) (backhaulref04_All.f (k + 1) a0 l1) := by
  intro a0 l1 k
  unfold backhaulref04_All.f backhaulref04_All.rem backhaulref04_All.step
  exact LeO.bind (backhaulref04_Check.mono _ _) (fun t => LeO.ite (LeO.ite (LeO.bind (backhaulref04_Less.mono _ _ _) (fun _ => LeO.ite (LeO.bind (backhaulref04_Less.mono _ _ _) (fun _ => LeO.ite (LeO.bind (backhaulref04_Less.mono _ _ _) (fun _ => LeO.ite (LeO.bind (backhaulref04_Less.mono _ _ _) (fun _ => LeO.ite (LeO.refl _) (LeO.refl _))) (LeO.refl _))) (LeO.refl _))) (LeO.refl _))) (LeO.refl _)) (LeO.refl _))
set_option maxHeartbeats 4000000 in
set_option maxRecDepth 100000 in
theorem backhaulref04_All.calls (k : Nat) (a0 : Int) (A1 : Option Addr) (c1 : Nat) (l1 : List Int) (r1 r2 r3 r4 r5 : Int) (w : World) (hr1 : Kd.C (Kd.int .i64) w A1 l1.length l1) (hc1 : l1.length ≤ c1) (h : backhaulref04_All.f k a0 l1 = some (r1, r2, r3, r4, r5)) :
    Calls Try.prog 47 #[.int .i64 a0, .slice A1 l1.length c1] w fun e w' => e = .returned (.tuple #[.agg #[.int .i64 r1, .int .i64 r2, .int .i64 r3, .int .i64 r4], .int .i64 r5]) ∧ Below w.heap.size w w' := by
  unfold backhaulref04_All.f at h
  obtain ⟨t, ht, h⟩ := Option.bind_eq_some_iff.1 h
  have Ht := Aside0.mk ht
  have HR := Aside0.mk hr1
  have HC := Aside0.mk hc1
  have hmf : ∀ (fn : Fn) (first cap : Array Value) (w : World), (Instr.makeFunc fn first cap).run Try.prog w = .ok (.func fn first cap) w := fun _ _ _ _ => rfl
  clear ht hr1 hc1
  by_cases h0 : t = 0
  · subst h0
    rw [if_pos rfl] at h
    by_cases h4 : l1.length = 4
    · rw [if_pos h4] at h
      have H := Aside0.mk h
      have H4 := Aside0.mk h4
      clear h h4
      go_enter Try.func47, Try.ntmps47
      go_wp2_with (first
        | (go_at_call 49; (with_reducible refine (backhaulref04_Check.calls k _ _ _ _ _ (Kd.C_below HR.out (by repeat (first | exact Below.refl _ _ | apply below_drew | apply below_alloc | apply pw_below_drewN))) HC.out Ht.out).mono ?_); rintro e w' ⟨rfl, ⟨nd, rfl⟩⟩))
      go_loopw [7] (fun v20 wr => ∃ (i : Nat) (x0 x1 x2 x3 : Int), v20 = .int .i64 i ∧ i ≤ 4 ∧ Aside0 (wr.heap[w.heap.size]? = some (.cells #[.int .i64 0, .int .i64 0, .int .i64 0, .int .i64 0] 39 (0, 0))) ∧ Aside0 (wr.heap[w.heap.size + 1]? = some (.cells #[.int .i64 x0, .int .i64 x1, .int .i64 x2, .int .i64 x3] 39 (0, 0))) ∧ Aside0 (Below w.heap.size w wr) ∧ Aside0 (backhaulref04_All.rem k a0 l1 i x0 x1 x2 x3 = some (r1, r2, r3, r4, r5))) (fun v20 _ => 4 - (intOf v20).toNat)
      case atStart =>
        refine ⟨0, 0, 0, 0, 0, rfl, by omega, ⟨?_⟩, ⟨?_⟩, ⟨?_⟩, H⟩
        · refine blk_drewN ?_ _; refine blk_alloc ?_ _; exact blk_new _ _
        · have := blk_new (w.alloc (.cells #[.int .i64 0, .int .i64 0, .int .i64 0, .int .i64 0] 39)) (.cells #[.int .i64 0, .int .i64 0, .int .i64 0, .int .i64 0] 39)
          refine blk_drewN ?_ _
          simpa using this
        · repeat (first | exact Below.refl _ _ | apply pw_below_drewN | apply below_drew | apply below_alloc)
      case round =>
        obtain ⟨i, x0, x1, x2, x3, rfl, hi, HG0, HG1, HB, HREM⟩ := hrel
        clear H
        have HRr := Aside0.mk (Kd.C_below HR.out HB.out)
        by_cases hlt : i < 4
        · obtain ⟨ad, e1, hx⟩ := Kd.at_int HRr.out (i : Int) (by omega) (by have := H4.out; omega)
          cases e1
          rw [Int.toNat_natCast] at hx
          have t21 : decide ((i : Int) < 4) = true := decide_eq_true (by omega)
          have hsz := HB.out.size
          have hb1 : w.heap.size + 1 < wr.heap.size := (Array.getElem?_eq_some_iff.1 HG1.out).1
          have hi4 : i = 0 ∨ i = 1 ∨ i = 2 ∨ i = 3 := by omega
          rcases hi4 with rfl | rfl | rfl | rfl
          · obtain ⟨⟨n, e⟩, hp, hg⟩ := Option.bind_eq_some_iff.1 (show ((backhaulref04_Less.f k a0 (rd l1 0)).bind fun p => if p.2 = 0 then backhaulref04_All.rem k a0 l1 1 p.1 x1 x2 x3 else some (0, 0, 0, 0, p.2)) = some (r1, r2, r3, r4, r5) from HREM.out)
            have Hp := Aside0.mk hp
            clear hp HREM
            have hlen : 0 < l1.length := by have := H4.out; omega
            have hx2 := hx
            simp [Addr.add] at hx2
            clear hx
            dsimp only at hg
            by_cases h6 : e = 0
            · subst h6
              rw [if_pos rfl] at hg
              have HG := Aside0.mk hg
              clear hg
              go_wp2_with (first
                | (go_at_call 43; (with_reducible refine (backhaulref04_Less.calls k _ _ _ _ _ Hp.out).mono ?_); rintro e w3 ⟨rfl, ⟨nd3, rfl⟩⟩; have hb3 : Below wr.heap.size wr (wr.drewN nd3) := pw_below_drewN (Below.refl _ _) _; obtain ⟨w3, hw3⟩ : ∃ w3, w3 = wr.drewN nd3 := ⟨_, rfl⟩; rw [← hw3] at hb3 ⊢; clear hw3; have HB3 := Aside0.mk (below_then HB.out HB.out.size hb3); have HK0 : Aside0 (w3.heap[w.heap.size]? = _) := ⟨(hb3.block _ (by omega)).trans HG0.out⟩; have HK1 : Aside0 (w3.heap[w.heap.size + 1]? = _) := ⟨(hb3.block _ (by omega)).trans HG1.out⟩; have m0 : w3.cell? ⟨w.heap.size + 1, 0, none⟩ = some (.int .i64 x0) := (by simp [World.cell?, HK1.out]); have m1 : w3.frozen? ⟨w.heap.size + 1, 0, none⟩ = false := (by simp [World.frozen?, HK1.out]); clear hb3))
              go_roundw
              case rel => exact ⟨1, n, x1, x2, x3, by go_num, by omega, ⟨by rw [Below.heap_setCell _ _ _ _ (by simp)]; exact HK0.out⟩, ⟨by refine blk_put (cs := #[.int .i64 x0, .int .i64 x1, .int .i64 x2, .int .i64 x3]) ?_ 0 _ rfl; exact HK1.out⟩, ⟨HB3.out.setCell (by simp) _⟩, HG⟩
              case measure => simp [intOf]
            · rw [if_neg h6] at hg
              simp only [Option.some.injEq, Prod.mk.injEq] at hg
              obtain ⟨rfl, rfl, rfl, rfl, rfl⟩ := hg
              have h6' : (e != 0) = true := bne_iff_ne.2 h6
              clear h6
              go_wp2_with (first
                | (go_at_call 43; (with_reducible refine (backhaulref04_Less.calls k _ _ _ _ _ Hp.out).mono ?_); rintro e w3 ⟨rfl, ⟨nd3, rfl⟩⟩; have hb3 : Below wr.heap.size wr (wr.drewN nd3) := pw_below_drewN (Below.refl _ _) _; obtain ⟨w3, hw3⟩ : ∃ w3, w3 = wr.drewN nd3 := ⟨_, rfl⟩; rw [← hw3] at hb3 ⊢; clear hw3; have HB3 := Aside0.mk (below_then HB.out HB.out.size hb3); have HK0 : Aside0 (w3.heap[w.heap.size]? = _) := ⟨(hb3.block _ (by omega)).trans HG0.out⟩; have m0 : w3.cell? ⟨w.heap.size, 0, none⟩ = some (.int .i64 0) := (by simp [World.cell?, HK0.out]); have o0 : w3.frozen? ⟨w.heap.size, 0, none⟩ = false := (by simp [World.frozen?, HK0.out]); have m1 : w3.cell? ⟨w.heap.size, 1, none⟩ = some (.int .i64 0) := (by simp [World.cell?, HK0.out]); have o1 : w3.frozen? ⟨w.heap.size, 1, none⟩ = false := (by simp [World.frozen?, HK0.out]); have m2 : w3.cell? ⟨w.heap.size, 2, none⟩ = some (.int .i64 0) := (by simp [World.cell?, HK0.out]); have o2 : w3.frozen? ⟨w.heap.size, 2, none⟩ = false := (by simp [World.frozen?, HK0.out]); have m3 : w3.cell? ⟨w.heap.size, 3, none⟩ = some (.int .i64 0) := (by simp [World.cell?, HK0.out]); have o3 : w3.frozen? ⟨w.heap.size, 3, none⟩ = false := (by simp [World.frozen?, HK0.out]);  clear hb3))
              refine bodyPost_ret (results_ct rfl _ _ w.heap.size 39 #[.int .i64 0, .int .i64 0, .int .i64 0, .int .i64 0] (0, 0) _ rfl (by refine blk_put (cs := #[.int .i64 0, .int .i64 0, .int .i64 0, .int .i64 0]) ?_ 3 _ rfl; refine blk_put (cs := #[.int .i64 0, .int .i64 0, .int .i64 0, .int .i64 0]) ?_ 2 _ rfl; refine blk_put (cs := #[.int .i64 0, .int .i64 0, .int .i64 0, .int .i64 0]) ?_ 1 _ rfl; refine blk_put (cs := #[.int .i64 0, .int .i64 0, .int .i64 0, .int .i64 0]) ?_ 0 _ rfl; exact HK0.out) Try.underlying39 rfl (by kernel_rfl)) rfl ?_
              refine ⟨rfl, ?_⟩
              exact (((HB3.out.setCell (Nat.le_refl _) _).setCell (Nat.le_refl _) _).setCell (Nat.le_refl _) _).setCell (Nat.le_refl _) _
          · obtain ⟨⟨n, e⟩, hp, hg⟩ := Option.bind_eq_some_iff.1 (show ((backhaulref04_Less.f k a0 (rd l1 1)).bind fun p => if p.2 = 0 then backhaulref04_All.rem k a0 l1 2 x0 p.1 x2 x3 else some (0, 0, 0, 0, p.2)) = some (r1, r2, r3, r4, r5) from HREM.out)
            have Hp := Aside0.mk hp
            clear hp HREM
            have hlen : 1 < l1.length := by have := H4.out; omega
            have hx2 := hx
            simp [Addr.add] at hx2
            clear hx
            dsimp only at hg
            by_cases h6 : e = 0
            · subst h6
              rw [if_pos rfl] at hg
              have HG := Aside0.mk hg
              clear hg
              go_wp2_with (first
                | (go_at_call 43; (with_reducible refine (backhaulref04_Less.calls k _ _ _ _ _ Hp.out).mono ?_); rintro e w3 ⟨rfl, ⟨nd3, rfl⟩⟩; have hb3 : Below wr.heap.size wr (wr.drewN nd3) := pw_below_drewN (Below.refl _ _) _; obtain ⟨w3, hw3⟩ : ∃ w3, w3 = wr.drewN nd3 := ⟨_, rfl⟩; rw [← hw3] at hb3 ⊢; clear hw3; have HB3 := Aside0.mk (below_then HB.out HB.out.size hb3); have HK0 : Aside0 (w3.heap[w.heap.size]? = _) := ⟨(hb3.block _ (by omega)).trans HG0.out⟩; have HK1 : Aside0 (w3.heap[w.heap.size + 1]? = _) := ⟨(hb3.block _ (by omega)).trans HG1.out⟩; have m0 : w3.cell? ⟨w.heap.size + 1, 1, none⟩ = some (.int .i64 x1) := (by simp [World.cell?, HK1.out]); have m1 : w3.frozen? ⟨w.heap.size + 1, 1, none⟩ = false := (by simp [World.frozen?, HK1.out]); clear hb3))
              go_roundw
              case rel => exact ⟨2, x0, n, x2, x3, by go_num, by omega, ⟨by rw [Below.heap_setCell _ _ _ _ (by simp)]; exact HK0.out⟩, ⟨by refine blk_put (cs := #[.int .i64 x0, .int .i64 x1, .int .i64 x2, .int .i64 x3]) ?_ 1 _ rfl; exact HK1.out⟩, ⟨HB3.out.setCell (by simp) _⟩, HG⟩
              case measure => simp [intOf]
            · rw [if_neg h6] at hg
              simp only [Option.some.injEq, Prod.mk.injEq] at hg
              obtain ⟨rfl, rfl, rfl, rfl, rfl⟩ := hg
              have h6' : (e != 0) = true := bne_iff_ne.2 h6
              clear h6
              go_wp2_with (first
                | (go_at_call 43; (with_reducible refine (backhaulref04_Less.calls k _ _ _ _ _ Hp.out).mono ?_); rintro e w3 ⟨rfl, ⟨nd3, rfl⟩⟩; have hb3 : Below wr.heap.size wr (wr.drewN nd3) := pw_below_drewN (Below.refl _ _) _; obtain ⟨w3, hw3⟩ : ∃ w3, w3 = wr.drewN nd3 := ⟨_, rfl⟩; rw [← hw3] at hb3 ⊢; clear hw3; have HB3 := Aside0.mk (below_then HB.out HB.out.size hb3); have HK0 : Aside0 (w3.heap[w.heap.size]? = _) := ⟨(hb3.block _ (by omega)).trans HG0.out⟩; have m0 : w3.cell? ⟨w.heap.size, 0, none⟩ = some (.int .i64 0) := (by simp [World.cell?, HK0.out]); have o0 : w3.frozen? ⟨w.heap.size, 0, none⟩ = false := (by simp [World.frozen?, HK0.out]); have m1 : w3.cell? ⟨w.heap.size, 1, none⟩ = some (.int .i64 0) := (by simp [World.cell?, HK0.out]); have o1 : w3.frozen? ⟨w.heap.size, 1, none⟩ = false := (by simp [World.frozen?, HK0.out]); have m2 : w3.cell? ⟨w.heap.size, 2, none⟩ = some (.int .i64 0) := (by simp [World.cell?, HK0.out]); have o2 : w3.frozen? ⟨w.heap.size, 2, none⟩ = false := (by simp [World.frozen?, HK0.out]); have m3 : w3.cell? ⟨w.heap.size, 3, none⟩ = some (.int .i64 0) := (by simp [World.cell?, HK0.out]); have o3 : w3.frozen? ⟨w.heap.size, 3, none⟩ = false := (by simp [World.frozen?, HK0.out]);  clear hb3))
              refine bodyPost_ret (results_ct rfl _ _ w.heap.size 39 #[.int .i64 0, .int .i64 0, .int .i64 0, .int .i64 0] (0, 0) _ rfl (by refine blk_put (cs := #[.int .i64 0, .int .i64 0, .int .i64 0, .int .i64 0]) ?_ 3 _ rfl; refine blk_put (cs := #[.int .i64 0, .int .i64 0, .int .i64 0, .int .i64 0]) ?_ 2 _ rfl; refine blk_put (cs := #[.int .i64 0, .int .i64 0, .int .i64 0, .int .i64 0]) ?_ 1 _ rfl; refine blk_put (cs := #[.int .i64 0, .int .i64 0, .int .i64 0, .int .i64 0]) ?_ 0 _ rfl; exact HK0.out) Try.underlying39 rfl (by kernel_rfl)) rfl ?_
              refine ⟨rfl, ?_⟩
              exact (((HB3.out.setCell (Nat.le_refl _) _).setCell (Nat.le_refl _) _).setCell (Nat.le_refl _) _).setCell (Nat.le_refl _) _
          · obtain ⟨⟨n, e⟩, hp, hg⟩ := Option.bind_eq_some_iff.1 (show ((backhaulref04_Less.f k a0 (rd l1 2)).bind fun p => if p.2 = 0 then backhaulref04_All.rem k a0 l1 3 x0 x1 p.1 x3 else some (0, 0, 0, 0, p.2)) = some (r1, r2, r3, r4, r5) from HREM.out)
            have Hp := Aside0.mk hp
            clear hp HREM
            have hlen : 2 < l1.length := by have := H4.out; omega
            have hx2 := hx
            simp [Addr.add] at hx2
            clear hx
            dsimp only at hg
            by_cases h6 : e = 0
            · subst h6
              rw [if_pos rfl] at hg
              have HG := Aside0.mk hg
              clear hg
              go_wp2_with (first
                | (go_at_call 43; (with_reducible refine (backhaulref04_Less.calls k _ _ _ _ _ Hp.out).mono ?_); rintro e w3 ⟨rfl, ⟨nd3, rfl⟩⟩; have hb3 : Below wr.heap.size wr (wr.drewN nd3) := pw_below_drewN (Below.refl _ _) _; obtain ⟨w3, hw3⟩ : ∃ w3, w3 = wr.drewN nd3 := ⟨_, rfl⟩; rw [← hw3] at hb3 ⊢; clear hw3; have HB3 := Aside0.mk (below_then HB.out HB.out.size hb3); have HK0 : Aside0 (w3.heap[w.heap.size]? = _) := ⟨(hb3.block _ (by omega)).trans HG0.out⟩; have HK1 : Aside0 (w3.heap[w.heap.size + 1]? = _) := ⟨(hb3.block _ (by omega)).trans HG1.out⟩; have m0 : w3.cell? ⟨w.heap.size + 1, 2, none⟩ = some (.int .i64 x2) := (by simp [World.cell?, HK1.out]); have m1 : w3.frozen? ⟨w.heap.size + 1, 2, none⟩ = false := (by simp [World.frozen?, HK1.out]); clear hb3))
              go_roundw
              case rel => exact ⟨3, x0, x1, n, x3, by go_num, by omega, ⟨by rw [Below.heap_setCell _ _ _ _ (by simp)]; exact HK0.out⟩, ⟨by refine blk_put (cs := #[.int .i64 x0, .int .i64 x1, .int .i64 x2, .int .i64 x3]) ?_ 2 _ rfl; exact HK1.out⟩, ⟨HB3.out.setCell (by simp) _⟩, HG⟩
              case measure => simp [intOf]
            · rw [if_neg h6] at hg
              simp only [Option.some.injEq, Prod.mk.injEq] at hg
              obtain ⟨rfl, rfl, rfl, rfl, rfl⟩ := hg
              have h6' : (e != 0) = true := bne_iff_ne.2 h6
              clear h6
              go_wp2_with (first
                | (go_at_call 43; (with_reducible refine (backhaulref04_Less.calls k _ _ _ _ _ Hp.out).mono ?_); rintro e w3 ⟨rfl, ⟨nd3, rfl⟩⟩; have hb3 : Below wr.heap.size wr (wr.drewN nd3) := pw_below_drewN (Below.refl _ _) _; obtain ⟨w3, hw3⟩ : ∃ w3, w3 = wr.drewN nd3 := ⟨_, rfl⟩; rw [← hw3] at hb3 ⊢; clear hw3; have HB3 := Aside0.mk (below_then HB.out HB.out.size hb3); have HK0 : Aside0 (w3.heap[w.heap.size]? = _) := ⟨(hb3.block _ (by omega)).trans HG0.out⟩; have m0 : w3.cell? ⟨w.heap.size, 0, none⟩ = some (.int .i64 0) := (by simp [World.cell?, HK0.out]); have o0 : w3.frozen? ⟨w.heap.size, 0, none⟩ = false := (by simp [World.frozen?, HK0.out]); have m1 : w3.cell? ⟨w.heap.size, 1, none⟩ = some (.int .i64 0) := (by simp [World.cell?, HK0.out]); have o1 : w3.frozen? ⟨w.heap.size, 1, none⟩ = false := (by simp [World.frozen?, HK0.out]); have m2 : w3.cell? ⟨w.heap.size, 2, none⟩ = some (.int .i64 0) := (by simp [World.cell?, HK0.out]); have o2 : w3.frozen? ⟨w.heap.size, 2, none⟩ = false := (by simp [World.frozen?, HK0.out]); have m3 : w3.cell? ⟨w.heap.size, 3, none⟩ = some (.int .i64 0) := (by simp [World.cell?, HK0.out]); have o3 : w3.frozen? ⟨w.heap.size, 3, none⟩ = false := (by simp [World.frozen?, HK0.out]);  clear hb3))
              refine bodyPost_ret (results_ct rfl _ _ w.heap.size 39 #[.int .i64 0, .int .i64 0, .int .i64 0, .int .i64 0] (0, 0) _ rfl (by refine blk_put (cs := #[.int .i64 0, .int .i64 0, .int .i64 0, .int .i64 0]) ?_ 3 _ rfl; refine blk_put (cs := #[.int .i64 0, .int .i64 0, .int .i64 0, .int .i64 0]) ?_ 2 _ rfl; refine blk_put (cs := #[.int .i64 0, .int .i64 0, .int .i64 0, .int .i64 0]) ?_ 1 _ rfl; refine blk_put (cs := #[.int .i64 0, .int .i64 0, .int .i64 0, .int .i64 0]) ?_ 0 _ rfl; exact HK0.out) Try.underlying39 rfl (by kernel_rfl)) rfl ?_
              refine ⟨rfl, ?_⟩
              exact (((HB3.out.setCell (Nat.le_refl _) _).setCell (Nat.le_refl _) _).setCell (Nat.le_refl _) _).setCell (Nat.le_refl _) _
          · obtain ⟨⟨n, e⟩, hp, hg⟩ := Option.bind_eq_some_iff.1 (show ((backhaulref04_Less.f k a0 (rd l1 3)).bind fun p => if p.2 = 0 then backhaulref04_All.rem k a0 l1 4 x0 x1 x2 p.1 else some (0, 0, 0, 0, p.2)) = some (r1, r2, r3, r4, r5) from HREM.out)
            have Hp := Aside0.mk hp
            clear hp HREM
            have hlen : 3 < l1.length := by have := H4.out; omega
            have hx2 := hx
            simp [Addr.add] at hx2
            clear hx
            dsimp only at hg
            by_cases h6 : e = 0
            · subst h6
              rw [if_pos rfl] at hg
              have HG := Aside0.mk hg
              clear hg
              go_wp2_with (first
                | (go_at_call 43; (with_reducible refine (backhaulref04_Less.calls k _ _ _ _ _ Hp.out).mono ?_); rintro e w3 ⟨rfl, ⟨nd3, rfl⟩⟩; have hb3 : Below wr.heap.size wr (wr.drewN nd3) := pw_below_drewN (Below.refl _ _) _; obtain ⟨w3, hw3⟩ : ∃ w3, w3 = wr.drewN nd3 := ⟨_, rfl⟩; rw [← hw3] at hb3 ⊢; clear hw3; have HB3 := Aside0.mk (below_then HB.out HB.out.size hb3); have HK0 : Aside0 (w3.heap[w.heap.size]? = _) := ⟨(hb3.block _ (by omega)).trans HG0.out⟩; have HK1 : Aside0 (w3.heap[w.heap.size + 1]? = _) := ⟨(hb3.block _ (by omega)).trans HG1.out⟩; have m0 : w3.cell? ⟨w.heap.size + 1, 3, none⟩ = some (.int .i64 x3) := (by simp [World.cell?, HK1.out]); have m1 : w3.frozen? ⟨w.heap.size + 1, 3, none⟩ = false := (by simp [World.frozen?, HK1.out]); clear hb3))
              go_roundw
              case rel => exact ⟨4, x0, x1, x2, n, by go_num, by omega, ⟨by rw [Below.heap_setCell _ _ _ _ (by simp)]; exact HK0.out⟩, ⟨by refine blk_put (cs := #[.int .i64 x0, .int .i64 x1, .int .i64 x2, .int .i64 x3]) ?_ 3 _ rfl; exact HK1.out⟩, ⟨HB3.out.setCell (by simp) _⟩, HG⟩
              case measure => simp [intOf]
            · rw [if_neg h6] at hg
              simp only [Option.some.injEq, Prod.mk.injEq] at hg
              obtain ⟨rfl, rfl, rfl, rfl, rfl⟩ := hg
              have h6' : (e != 0) = true := bne_iff_ne.2 h6
              clear h6
              go_wp2_with (first
                | (go_at_call 43; (with_reducible refine (backhaulref04_Less.calls k _ _ _ _ _ Hp.out).mono ?_); rintro e w3 ⟨rfl, ⟨nd3, rfl⟩⟩; have hb3 : Below wr.heap.size wr (wr.drewN nd3) := pw_below_drewN (Below.refl _ _) _; obtain ⟨w3, hw3⟩ : ∃ w3, w3 = wr.drewN nd3 := ⟨_, rfl⟩; rw [← hw3] at hb3 ⊢; clear hw3; have HB3 := Aside0.mk (below_then HB.out HB.out.size hb3); have HK0 : Aside0 (w3.heap[w.heap.size]? = _) := ⟨(hb3.block _ (by omega)).trans HG0.out⟩; have m0 : w3.cell? ⟨w.heap.size, 0, none⟩ = some (.int .i64 0) := (by simp [World.cell?, HK0.out]); have o0 : w3.frozen? ⟨w.heap.size, 0, none⟩ = false := (by simp [World.frozen?, HK0.out]); have m1 : w3.cell? ⟨w.heap.size, 1, none⟩ = some (.int .i64 0) := (by simp [World.cell?, HK0.out]); have o1 : w3.frozen? ⟨w.heap.size, 1, none⟩ = false := (by simp [World.frozen?, HK0.out]); have m2 : w3.cell? ⟨w.heap.size, 2, none⟩ = some (.int .i64 0) := (by simp [World.cell?, HK0.out]); have o2 : w3.frozen? ⟨w.heap.size, 2, none⟩ = false := (by simp [World.frozen?, HK0.out]); have m3 : w3.cell? ⟨w.heap.size, 3, none⟩ = some (.int .i64 0) := (by simp [World.cell?, HK0.out]); have o3 : w3.frozen? ⟨w.heap.size, 3, none⟩ = false := (by simp [World.frozen?, HK0.out]);  clear hb3))
              refine bodyPost_ret (results_ct rfl _ _ w.heap.size 39 #[.int .i64 0, .int .i64 0, .int .i64 0, .int .i64 0] (0, 0) _ rfl (by refine blk_put (cs := #[.int .i64 0, .int .i64 0, .int .i64 0, .int .i64 0]) ?_ 3 _ rfl; refine blk_put (cs := #[.int .i64 0, .int .i64 0, .int .i64 0, .int .i64 0]) ?_ 2 _ rfl; refine blk_put (cs := #[.int .i64 0, .int .i64 0, .int .i64 0, .int .i64 0]) ?_ 1 _ rfl; refine blk_put (cs := #[.int .i64 0, .int .i64 0, .int .i64 0, .int .i64 0]) ?_ 0 _ rfl; exact HK0.out) Try.underlying39 rfl (by kernel_rfl)) rfl ?_
              refine ⟨rfl, ?_⟩
              exact (((HB3.out.setCell (Nat.le_refl _) _).setCell (Nat.le_refl _) _).setCell (Nat.le_refl _) _).setCell (Nat.le_refl _) _
        · obtain rfl : i = 4 := by omega
          have hrem := HREM.out
          simp only [backhaulref04_All.rem, Option.some.injEq, Prod.mk.injEq] at hrem
          obtain ⟨rfl, rfl, rfl, rfl, rfl⟩ := hrem
          have q0 : wr.cell? ⟨w.heap.size + 1, 0, none⟩ = some (.int .i64 x0) := by simp [World.cell?, HG1.out]
          have q1 : wr.cell? ⟨w.heap.size + 1, 1, none⟩ = some (.int .i64 x1) := by simp [World.cell?, HG1.out]
          have q2 : wr.cell? ⟨w.heap.size + 1, 2, none⟩ = some (.int .i64 x2) := by simp [World.cell?, HG1.out]
          have q3 : wr.cell? ⟨w.heap.size + 1, 3, none⟩ = some (.int .i64 x3) := by simp [World.cell?, HG1.out]
          have y0 : wr.frozen? ⟨w.heap.size, 0, none⟩ = false := by simp [World.frozen?, HG0.out]
          have y1 : wr.frozen? ⟨w.heap.size, 1, none⟩ = false := by simp [World.frozen?, HG0.out]
          have y2 : wr.frozen? ⟨w.heap.size, 2, none⟩ = false := by simp [World.frozen?, HG0.out]
          have y3 : wr.frozen? ⟨w.heap.size, 3, none⟩ = false := by simp [World.frozen?, HG0.out]
          have p0 : wr.cell? ⟨w.heap.size, 0, none⟩ = some (.int .i64 0) := by simp [World.cell?, HG0.out]
          have p1 : wr.cell? ⟨w.heap.size, 1, none⟩ = some (.int .i64 0) := by simp [World.cell?, HG0.out]
          have p2 : wr.cell? ⟨w.heap.size, 2, none⟩ = some (.int .i64 0) := by simp [World.cell?, HG0.out]
          have p3 : wr.cell? ⟨w.heap.size, 3, none⟩ = some (.int .i64 0) := by simp [World.cell?, HG0.out]
          go_wp2
          refine bodyPost_ret (results_ct rfl _ _ w.heap.size 39 #[.int .i64 x0, .int .i64 x1, .int .i64 x2, .int .i64 x3] (0, 0) _ rfl (by refine blk_put (cs := #[.int .i64 x0, .int .i64 x1, .int .i64 x2, .int .i64 0]) ?_ 3 _ rfl; refine blk_put (cs := #[.int .i64 x0, .int .i64 x1, .int .i64 0, .int .i64 0]) ?_ 2 _ rfl; refine blk_put (cs := #[.int .i64 x0, .int .i64 0, .int .i64 0, .int .i64 0]) ?_ 1 _ rfl; refine blk_put (cs := #[.int .i64 0, .int .i64 0, .int .i64 0, .int .i64 0]) ?_ 0 _ rfl; exact HG0.out) Try.underlying39 rfl (by kernel_rfl)) rfl ?_
          refine ⟨rfl, ?_⟩
          exact (((HB.out.setCell (Nat.le_refl _) _).setCell (Nat.le_refl _) _).setCell (Nat.le_refl _) _).setCell (Nat.le_refl _) _
    · rw [if_neg h4] at h; cases h
  · rw [if_neg h0] at h
    simp only [Option.some.injEq, Prod.mk.injEq] at h
    obtain ⟨rfl, rfl, rfl, rfl, rfl⟩ := h
    have e0 : (t != 0) = true := bne_iff_ne.2 h0
    clear h0
    go_enter Try.func47, Try.ntmps47
    go_wp2_with (first
      | (go_at_call 49; (with_reducible refine (backhaulref04_Check.calls k _ _ _ _ _ (Kd.C_below HR.out (by repeat (first | exact Below.refl _ _ | apply below_drew | apply below_alloc | apply pw_below_drewN))) HC.out Ht.out).mono ?_); rintro e w' ⟨rfl, ⟨nd, rfl⟩⟩))
    refine bodyPost_ret (results_ct rfl _ _ w.heap.size 39 #[.int .i64 0, .int .i64 0, .int .i64 0, .int .i64 0] (0, 0) _ rfl (by refine blk_put (cs := #[.int .i64 0, .int .i64 0, .int .i64 0, .int .i64 0]) ?_ 3 _ rfl; refine blk_put (cs := #[.int .i64 0, .int .i64 0, .int .i64 0, .int .i64 0]) ?_ 2 _ rfl; refine blk_put (cs := #[.int .i64 0, .int .i64 0, .int .i64 0, .int .i64 0]) ?_ 1 _ rfl; refine blk_put (cs := #[.int .i64 0, .int .i64 0, .int .i64 0, .int .i64 0]) ?_ 0 _ rfl; refine blk_drewN ?_ _; refine blk_alloc ?_ _; exact blk_new _ _) Try.underlying39 rfl (by kernel_rfl)) rfl ?_
    refine ⟨rfl, ?_⟩
    have HB0 : Below w.heap.size w (((w.alloc (.cells #[.int .i64 0, .int .i64 0, .int .i64 0, .int .i64 0] 39)).alloc (.cells #[.int .i64 0, .int .i64 0, .int .i64 0, .int .i64 0] 39)).drewN nd) := by repeat (first | exact Below.refl _ _ | apply pw_below_drewN | apply below_drew | apply below_alloc)
    exact (((HB0.setCell (Nat.le_refl _) _).setCell (Nat.le_refl _) _).setCell (Nat.le_refl _) _).setCell (Nat.le_refl _) _

end Go.Proofs.Ytefhljhpcpajgaa.F

namespace Go.Proofs.Ytefhljhpcpajgaa.F
open Go.RowKit Go.Proofs.YtefhljhpcpajgaaX Go.Proofs.YtefhljhpcpajgaaW.PrintWords Go.Proofs.YtefhljhpcpajgaaW.PrintLast Go.Proofs.YtefhljhpcpajgaaW.PrintMore
attribute [local go_sem] max2_int min2_int max_two min_two max_three min_three max_four min_four   -- for this text's walks alone
set_option linter.unusedVariables false
set_option linter.unusedSimpArgs false

attribute [local go_sem high] eqA39
/-! ### backhaullaw04_FeeTells: function 7 -/
def backhaullaw04_FeeTells.f (k : Nat) (a0 : Int) (l1 : List Int) (a2 : Int) : Option (Bool) := if (l1.length : Int) > 100 then ((backhaullaw04_awake.f).bind fun t303 => (if t303 = true then (some true) else (some false))) else ((fee_Of.f k a0 a2).bind fun bt304 => ((backhaulref04_Of.f k a0 a2).bind fun bt306 => ((fee_Less.f k a0 a2).bind fun bt308 => ((backhaulref04_Less.f k a0 a2).bind fun bt310 => ((fee_Grade.f k a0 l1 a2).bind fun bt312 => ((backhaulref04_Grade.f k a0 l1 a2).bind fun bt314 => ((fee_All.f k a0 l1).bind fun bt316 => ((backhaulref04_All.f k a0 l1).bind fun bt322 => (if bt304.1 = bt306.1 then (if bt304.2 = bt306.2 then (if bt308.1 = bt310.1 then (if bt308.2 = bt310.2 then (if bt312.1 = bt314.1 then (if bt312.2 = bt314.2 then (if (bt316.1 == bt322.1 && (bt316.2.1 == bt322.2.1 && (bt316.2.2.1 == bt322.2.2.1 && (bt316.2.2.2.1 == bt322.2.2.2.1)))) = true then (if bt316.2.2.2.2 = bt322.2.2.2.2 then ((fee_Check.f k l1).bind fun t328 => ((backhaulref04_Check.f k l1).bind fun t329 => (if t328 = t329 then ((backhaullaw04_awake.f).bind fun t330 => (if t330 = true then (some true) else (some false))) else (some false)))) else (some false)) else (some false)) else (some false)) else (some false)) else (some false)) else (some false)) else (some false)) else (some false))))))))))
theorem backhaullaw04_FeeTells.mono : ∀ a0 a1 a2 k, LeO (backhaullaw04_FeeTells.f k a0 a1 a2) (backhaullaw04_FeeTells.f (k + 1) a0 a1 a2) := by
  intro a0 a1 a2 k
  unfold backhaullaw04_FeeTells.f
  repeat' first
      | (with_reducible exact backhaulref04_All.mono _ _ _)
      | (with_reducible exact backhaulref04_Check.mono _ _)
      | (with_reducible exact backhaulref04_Grade.mono _ _ _ _)
      | (with_reducible exact backhaulref04_Less.mono _ _ _)
      | (with_reducible exact backhaulref04_Of.mono _ _ _)
      | (with_reducible exact fee_All.mono _ _ _)
      | (with_reducible exact fee_Check.mono _ _)
      | (with_reducible exact fee_Grade.mono _ _ _ _)
      | (with_reducible exact fee_Less.mono _ _ _)
      | (with_reducible exact fee_Of.mono _ _ _)
      | (with_reducible exact LeO.refl _)
      | (with_reducible exact LeO.none _)
      | (with_reducible refine LeO.ite ?_ ?_)
      | (with_reducible refine LeO.bind ?_ (fun _ => ?_))
      | exact backhaulref04_All.mono _ _ _
      | exact backhaulref04_Check.mono _ _
      | exact backhaulref04_Grade.mono _ _ _ _
      | exact backhaulref04_Less.mono _ _ _
      | exact backhaulref04_Of.mono _ _ _
      | exact fee_All.mono _ _ _
      | exact fee_Check.mono _ _
      | exact fee_Grade.mono _ _ _ _
      | exact fee_Less.mono _ _ _
      | exact fee_Of.mono _ _ _
      | exact LeO.none _
      | refine LeO.ite ?_ ?_
      | refine LeO.bind ?_ (fun _ => ?_)
set_option maxHeartbeats 8000000 in
set_option maxRecDepth 100000 in
theorem backhaullaw04_FeeTells.calls (k : Nat) (a0 : Int) (A1 : Option Addr) (c1 : Nat) (l1 : List Int) (a2 : Int) (w : World) (hr1 : Kd.C (Kd.int .i64) w A1 l1.length l1) (hc1 : l1.length ≤ c1) (h : backhaullaw04_FeeTells.f k a0 l1 a2 = some true) :
    Calls Try.prog 7 #[.int .i64 a0, .slice A1 l1.length c1, .int .i64 a2] w fun e w' => e = .returned (.bool true) ∧ Below w.heap.size w w' := by
  have hu39 := Try.underlying39
  have HR1 := Aside0.mk hr1
  have HC1 := Aside0.mk hc1
  clear hr1 hc1
  have HB := Aside0.mk (Below.refl w.heap.size w)
  have H : (if (l1.length : Int) > 100 then ((backhaullaw04_awake.f).bind fun t303 => (if t303 = true then (some true) else (some false))) else ((fee_Of.f k a0 a2).bind fun bt304 => ((backhaulref04_Of.f k a0 a2).bind fun bt306 => ((fee_Less.f k a0 a2).bind fun bt308 => ((backhaulref04_Less.f k a0 a2).bind fun bt310 => ((fee_Grade.f k a0 l1 a2).bind fun bt312 => ((backhaulref04_Grade.f k a0 l1 a2).bind fun bt314 => ((fee_All.f k a0 l1).bind fun bt316 => ((backhaulref04_All.f k a0 l1).bind fun bt322 => (if bt304.1 = bt306.1 then (if bt304.2 = bt306.2 then (if bt308.1 = bt310.1 then (if bt308.2 = bt310.2 then (if bt312.1 = bt314.1 then (if bt312.2 = bt314.2 then (if (bt316.1 == bt322.1 && (bt316.2.1 == bt322.2.1 && (bt316.2.2.1 == bt322.2.2.1 && (bt316.2.2.2.1 == bt322.2.2.2.1)))) = true then (if bt316.2.2.2.2 = bt322.2.2.2.2 then ((fee_Check.f k l1).bind fun t328 => ((backhaulref04_Check.f k l1).bind fun t329 => (if t328 = t329 then ((backhaullaw04_awake.f).bind fun t330 => (if t330 = true then (some true) else (some false))) else (some false)))) else (some false)) else (some false)) else (some false)) else (some false)) else (some false)) else (some false)) else (some false)) else (some false))))))))))) = some true := h
  clear h
  by_cases c4 : (l1.length : Int) > 100
  · rw [if_pos c4] at H
    have c4b0 : decide (100 < (l1.length : Int)) = true := decide_eq_true c4
    have c4b1 : decide (100 < l1.length) = true := decide_eq_true (by omega)
    clear c4
    replace H := Option.bind_eq_some_iff.mp H
    obtain ⟨t303, A50, H⟩ := H
    replace H : (if t303 = true then (some true) else (some false)) = some true := H
    have A5 := Aside0.mk A50
    clear A50
    by_cases c6 : t303 = true
    · subst c6
      have H1 : (some true) = some true := by first | (rw [if_pos rfl] at H; exact H) | rfl
      clear H
      have H := H1
      clear H1
      clear H
      go_enter Try.func7, Try.ntmps7
      go_wp2_with (first | ((with_reducible refine gate_callee (f := 39) rfl ?_); refine goesL_ (some 26) rfl rfl Try.func39 (by kernel_rfl) rfl #[] rfl (by (try simp only [List.map_toArray, List.map_cons, List.map_nil]); first | done | rfl | (simp only [List.length_drop, List.length_take]; rfl)) ?_; (with_reducible refine (backhaullaw04_awake.calls  true _ A5.out).mono ?_); rintro e w7 ⟨rfl, hb⟩; refine ⟨_, rfl, ?_⟩; have n0_ := Aside0.mk (below_step (by repeat (first | (with_reducible first | exact HB.out | apply below_alloc | apply pw_below_drewN | apply below_drew1) | exact HB.out)) hb); clear HB; have HB := n0_; clear n0_; (try clear hb); (try clear hb2); (try clear hk); (try clear hi)))
      go_ret
      exact ⟨by first | rfl | (simp [errW_none, errW_some] <;> rfl) | (simp [*, errW_none, errW_some] <;> rfl), by repeat (first | (with_reducible first | exact HB.out | apply below_alloc | apply pw_below_drewN | apply below_drew1) | exact HB.out)⟩
    · replace c6 := Bool.eq_false_iff.mpr c6
      subst c6
      have H1 : (some false) = some true := by first | (rw [if_neg (show ¬ (false = true) by decide)] at H; exact H) | rfl
      clear H
      have H := H1
      clear H1
      exact absurd H (by simp)
  · rw [if_neg c4] at H
    have c4b0 : decide (100 < (l1.length : Int)) = false := decide_eq_false c4
    have c4b1 : decide (100 < l1.length) = false := decide_eq_false (by omega)
    clear c4
    replace H := Option.bind_eq_some_iff.mp H
    obtain ⟨⟨t304, t305⟩, A80, H⟩ := H
    replace H : ((backhaulref04_Of.f k a0 a2).bind fun bt306 => ((fee_Less.f k a0 a2).bind fun bt308 => ((backhaulref04_Less.f k a0 a2).bind fun bt310 => ((fee_Grade.f k a0 l1 a2).bind fun bt312 => ((backhaulref04_Grade.f k a0 l1 a2).bind fun bt314 => ((fee_All.f k a0 l1).bind fun bt316 => ((backhaulref04_All.f k a0 l1).bind fun bt322 => (if t304 = bt306.1 then (if t305 = bt306.2 then (if bt308.1 = bt310.1 then (if bt308.2 = bt310.2 then (if bt312.1 = bt314.1 then (if bt312.2 = bt314.2 then (if (bt316.1 == bt322.1 && (bt316.2.1 == bt322.2.1 && (bt316.2.2.1 == bt322.2.2.1 && (bt316.2.2.2.1 == bt322.2.2.2.1)))) = true then (if bt316.2.2.2.2 = bt322.2.2.2.2 then ((fee_Check.f k l1).bind fun t328 => ((backhaulref04_Check.f k l1).bind fun t329 => (if t328 = t329 then ((backhaullaw04_awake.f).bind fun t330 => (if t330 = true then (some true) else (some false))) else (some false)))) else (some false)) else (some false)) else (some false)) else (some false)) else (some false)) else (some false)) else (some false)) else (some false))))))))) = some true := H
    have A8 := Aside0.mk A80
    clear A80
    replace H := Option.bind_eq_some_iff.mp H
    obtain ⟨⟨t306, t307⟩, A90, H⟩ := H
    replace H : ((fee_Less.f k a0 a2).bind fun bt308 => ((backhaulref04_Less.f k a0 a2).bind fun bt310 => ((fee_Grade.f k a0 l1 a2).bind fun bt312 => ((backhaulref04_Grade.f k a0 l1 a2).bind fun bt314 => ((fee_All.f k a0 l1).bind fun bt316 => ((backhaulref04_All.f k a0 l1).bind fun bt322 => (if t304 = t306 then (if t305 = t307 then (if bt308.1 = bt310.1 then (if bt308.2 = bt310.2 then (if bt312.1 = bt314.1 then (if bt312.2 = bt314.2 then (if (bt316.1 == bt322.1 && (bt316.2.1 == bt322.2.1 && (bt316.2.2.1 == bt322.2.2.1 && (bt316.2.2.2.1 == bt322.2.2.2.1)))) = true then (if bt316.2.2.2.2 = bt322.2.2.2.2 then ((fee_Check.f k l1).bind fun t328 => ((backhaulref04_Check.f k l1).bind fun t329 => (if t328 = t329 then ((backhaullaw04_awake.f).bind fun t330 => (if t330 = true then (some true) else (some false))) else (some false)))) else (some false)) else (some false)) else (some false)) else (some false)) else (some false)) else (some false)) else (some false)) else (some false)))))))) = some true := H
    have A9 := Aside0.mk A90
    clear A90
    replace H := Option.bind_eq_some_iff.mp H
    obtain ⟨⟨t308, t309⟩, A100, H⟩ := H
    replace H : ((backhaulref04_Less.f k a0 a2).bind fun bt310 => ((fee_Grade.f k a0 l1 a2).bind fun bt312 => ((backhaulref04_Grade.f k a0 l1 a2).bind fun bt314 => ((fee_All.f k a0 l1).bind fun bt316 => ((backhaulref04_All.f k a0 l1).bind fun bt322 => (if t304 = t306 then (if t305 = t307 then (if t308 = bt310.1 then (if t309 = bt310.2 then (if bt312.1 = bt314.1 then (if bt312.2 = bt314.2 then (if (bt316.1 == bt322.1 && (bt316.2.1 == bt322.2.1 && (bt316.2.2.1 == bt322.2.2.1 && (bt316.2.2.2.1 == bt322.2.2.2.1)))) = true then (if bt316.2.2.2.2 = bt322.2.2.2.2 then ((fee_Check.f k l1).bind fun t328 => ((backhaulref04_Check.f k l1).bind fun t329 => (if t328 = t329 then ((backhaullaw04_awake.f).bind fun t330 => (if t330 = true then (some true) else (some false))) else (some false)))) else (some false)) else (some false)) else (some false)) else (some false)) else (some false)) else (some false)) else (some false)) else (some false))))))) = some true := H
    have A10 := Aside0.mk A100
    clear A100
    replace H := Option.bind_eq_some_iff.mp H
    obtain ⟨⟨t310, t311⟩, A110, H⟩ := H
    replace H : ((fee_Grade.f k a0 l1 a2).bind fun bt312 => ((backhaulref04_Grade.f k a0 l1 a2).bind fun bt314 => ((fee_All.f k a0 l1).bind fun bt316 => ((backhaulref04_All.f k a0 l1).bind fun bt322 => (if t304 = t306 then (if t305 = t307 then (if t308 = t310 then (if t309 = t311 then (if bt312.1 = bt314.1 then (if bt312.2 = bt314.2 then (if (bt316.1 == bt322.1 && (bt316.2.1 == bt322.2.1 && (bt316.2.2.1 == bt322.2.2.1 && (bt316.2.2.2.1 == bt322.2.2.2.1)))) = true then (if bt316.2.2.2.2 = bt322.2.2.2.2 then ((fee_Check.f k l1).bind fun t328 => ((backhaulref04_Check.f k l1).bind fun t329 => (if t328 = t329 then ((backhaullaw04_awake.f).bind fun t330 => (if t330 = true then (some true) else (some false))) else (some false)))) else (some false)) else (some false)) else (some false)) else (some false)) else (some false)) else (some false)) else (some false)) else (some false)))))) = some true := H
    have A11 := Aside0.mk A110
    clear A110
    replace H := Option.bind_eq_some_iff.mp H
    obtain ⟨⟨t312, t313⟩, A120, H⟩ := H
    replace H : ((backhaulref04_Grade.f k a0 l1 a2).bind fun bt314 => ((fee_All.f k a0 l1).bind fun bt316 => ((backhaulref04_All.f k a0 l1).bind fun bt322 => (if t304 = t306 then (if t305 = t307 then (if t308 = t310 then (if t309 = t311 then (if t312 = bt314.1 then (if t313 = bt314.2 then (if (bt316.1 == bt322.1 && (bt316.2.1 == bt322.2.1 && (bt316.2.2.1 == bt322.2.2.1 && (bt316.2.2.2.1 == bt322.2.2.2.1)))) = true then (if bt316.2.2.2.2 = bt322.2.2.2.2 then ((fee_Check.f k l1).bind fun t328 => ((backhaulref04_Check.f k l1).bind fun t329 => (if t328 = t329 then ((backhaullaw04_awake.f).bind fun t330 => (if t330 = true then (some true) else (some false))) else (some false)))) else (some false)) else (some false)) else (some false)) else (some false)) else (some false)) else (some false)) else (some false)) else (some false))))) = some true := H
    have A12 := Aside0.mk A120
    clear A120
    replace H := Option.bind_eq_some_iff.mp H
    obtain ⟨⟨t314, t315⟩, A130, H⟩ := H
    replace H : ((fee_All.f k a0 l1).bind fun bt316 => ((backhaulref04_All.f k a0 l1).bind fun bt322 => (if t304 = t306 then (if t305 = t307 then (if t308 = t310 then (if t309 = t311 then (if t312 = t314 then (if t313 = t315 then (if (bt316.1 == bt322.1 && (bt316.2.1 == bt322.2.1 && (bt316.2.2.1 == bt322.2.2.1 && (bt316.2.2.2.1 == bt322.2.2.2.1)))) = true then (if bt316.2.2.2.2 = bt322.2.2.2.2 then ((fee_Check.f k l1).bind fun t328 => ((backhaulref04_Check.f k l1).bind fun t329 => (if t328 = t329 then ((backhaullaw04_awake.f).bind fun t330 => (if t330 = true then (some true) else (some false))) else (some false)))) else (some false)) else (some false)) else (some false)) else (some false)) else (some false)) else (some false)) else (some false)) else (some false)))) = some true := H
    have A13 := Aside0.mk A130
    clear A130
    replace H := Option.bind_eq_some_iff.mp H
    obtain ⟨⟨t316, t317, t318, t319, t320⟩, A140, H⟩ := H
    replace H : ((backhaulref04_All.f k a0 l1).bind fun bt322 => (if t304 = t306 then (if t305 = t307 then (if t308 = t310 then (if t309 = t311 then (if t312 = t314 then (if t313 = t315 then (if (t316 == bt322.1 && (t317 == bt322.2.1 && (t318 == bt322.2.2.1 && (t319 == bt322.2.2.2.1)))) = true then (if t320 = bt322.2.2.2.2 then ((fee_Check.f k l1).bind fun t328 => ((backhaulref04_Check.f k l1).bind fun t329 => (if t328 = t329 then ((backhaullaw04_awake.f).bind fun t330 => (if t330 = true then (some true) else (some false))) else (some false)))) else (some false)) else (some false)) else (some false)) else (some false)) else (some false)) else (some false)) else (some false)) else (some false))) = some true := H
    have A14 := Aside0.mk A140
    clear A140
    replace H := Option.bind_eq_some_iff.mp H
    obtain ⟨⟨t322, t323, t324, t325, t326⟩, A150, H⟩ := H
    replace H : (if t304 = t306 then (if t305 = t307 then (if t308 = t310 then (if t309 = t311 then (if t312 = t314 then (if t313 = t315 then (if (t316 == t322 && (t317 == t323 && (t318 == t324 && (t319 == t325)))) = true then (if t320 = t326 then ((fee_Check.f k l1).bind fun t328 => ((backhaulref04_Check.f k l1).bind fun t329 => (if t328 = t329 then ((backhaullaw04_awake.f).bind fun t330 => (if t330 = true then (some true) else (some false))) else (some false)))) else (some false)) else (some false)) else (some false)) else (some false)) else (some false)) else (some false)) else (some false)) else (some false)) = some true := H
    have A15 := Aside0.mk A150
    clear A150
    by_cases c16 : t304 = t306
    · rw [if_pos c16] at H
      have c16b0 : (t304 == t306) = true := beq_iff_eq.mpr c16
      have c16b1 : (t304 != t306) = false := bne_eq_false_iff_eq.mpr c16
      clear c16
      by_cases c17 : t305 = t307
      · rw [if_pos c17] at H
        have c17b0 : (t305 == t307) = true := beq_iff_eq.mpr c17
        have c17b1 : (t305 != t307) = false := bne_eq_false_iff_eq.mpr c17
        clear c17
        by_cases c18 : t308 = t310
        · rw [if_pos c18] at H
          have c18b0 : (t308 == t310) = true := beq_iff_eq.mpr c18
          have c18b1 : (t308 != t310) = false := bne_eq_false_iff_eq.mpr c18
          clear c18
          by_cases c19 : t309 = t311
          · rw [if_pos c19] at H
            have c19b0 : (t309 == t311) = true := beq_iff_eq.mpr c19
            have c19b1 : (t309 != t311) = false := bne_eq_false_iff_eq.mpr c19
            clear c19
            by_cases c20 : t312 = t314
            · rw [if_pos c20] at H
              have c20b0 : (t312 == t314) = true := beq_iff_eq.mpr c20
              have c20b1 : (t312 != t314) = false := bne_eq_false_iff_eq.mpr c20
              clear c20
              by_cases c21 : t313 = t315
              · rw [if_pos c21] at H
                have c21b0 : (t313 == t315) = true := beq_iff_eq.mpr c21
                have c21b1 : (t313 != t315) = false := bne_eq_false_iff_eq.mpr c21
                clear c21
                by_cases c22 : (t316 == t322 && (t317 == t323 && (t318 == t324 && (t319 == t325)))) = true
                · rw [if_pos c22] at H
                  have c22b0 : (t316 == t322 && (t317 == t323 && (t318 == t324 && (t319 == t325)))) = true := c22
                  (try (have c22b1 : decide (t316 = t322 && (t317 == t323 && (t318 == t324 && (t319 == t325)))) = true := by simpa using c22))
                  (try (have c22b2 : (t316 == t322 && (t317 == t323 && (t318 == t324 && (t319 == t325)))) = true := by simpa using c22))
                  clear c22
                  by_cases c23 : t320 = t326
                  · rw [if_pos c23] at H
                    have c23b0 : (t320 == t326) = true := beq_iff_eq.mpr c23
                    have c23b1 : (t320 != t326) = false := bne_eq_false_iff_eq.mpr c23
                    clear c23
                    replace H := Option.bind_eq_some_iff.mp H
                    obtain ⟨t328, A240, H⟩ := H
                    replace H : ((backhaulref04_Check.f k l1).bind fun t329 => (if t328 = t329 then ((backhaullaw04_awake.f).bind fun t330 => (if t330 = true then (some true) else (some false))) else (some false))) = some true := H
                    have A24 := Aside0.mk A240
                    clear A240
                    replace H := Option.bind_eq_some_iff.mp H
                    obtain ⟨t329, A250, H⟩ := H
                    replace H : (if t328 = t329 then ((backhaullaw04_awake.f).bind fun t330 => (if t330 = true then (some true) else (some false))) else (some false)) = some true := H
                    have A25 := Aside0.mk A250
                    clear A250
                    by_cases c26 : t328 = t329
                    · rw [if_pos c26] at H
                      have c26b0 : (t328 == t329) = true := beq_iff_eq.mpr c26
                      have c26b1 : (t328 != t329) = false := bne_eq_false_iff_eq.mpr c26
                      clear c26
                      replace H := Option.bind_eq_some_iff.mp H
                      obtain ⟨t330, A270, H⟩ := H
                      replace H : (if t330 = true then (some true) else (some false)) = some true := H
                      have A27 := Aside0.mk A270
                      clear A270
                      by_cases c28 : t330 = true
                      · subst c28
                        have H1 : (some true) = some true := by first | (rw [if_pos rfl] at H; exact H) | rfl
                        clear H
                        have H := H1
                        clear H1
                        clear H
                        go_enter Try.func7, Try.ntmps7
                        go_wp2_with (first | ((with_reducible refine gate_callee (f := 40) rfl ?_); refine goesL_ (some 30) rfl rfl Try.func40 (by kernel_rfl) rfl #[.int .i64 a0, .int .i64 a2] rfl (by (try simp only [List.map_toArray, List.map_cons, List.map_nil]); first | done | rfl | (simp only [List.length_drop, List.length_take]; rfl)) ?_; (with_reducible refine (fee_Of.calls k a0 a2 t304 t305 _ A8.out).mono ?_); rintro e w29 ⟨rfl, hb⟩; refine ⟨_, rfl, ?_⟩; have n0_ := Aside0.mk (below_step (by repeat (first | (with_reducible first | exact HB.out | apply below_alloc | apply pw_below_drewN | apply below_drew1) | exact HB.out)) hb); clear HB; have HB := n0_; clear n0_; (try clear hb); (try clear hb2); (try clear hk); (try clear hi)) | ((with_reducible refine gate_callee (f := 41) rfl ?_); refine goesL_ (some 36) rfl rfl Try.func41 (by kernel_rfl) rfl #[.int .i64 a0, .int .i64 a2] rfl (by (try simp only [List.map_toArray, List.map_cons, List.map_nil]); first | done | rfl | (simp only [List.length_drop, List.length_take]; rfl)) ?_; (with_reducible refine (backhaulref04_Of.calls k a0 a2 t306 t307 _ A9.out).mono ?_); rintro e w' ⟨rfl, ⟨nd, rfl⟩⟩; refine ⟨_, rfl, ?_⟩; (try (rw [drewN_self w29]; generalize hq_ : World.drewN w29 _ = w29; have n0_ : Aside0 (Below w.heap.size w w29) := ⟨by rw [← hq_]; exact (by repeat (first | (with_reducible first | exact HB.out | apply below_alloc | apply pw_below_drewN | apply below_drew1) | exact HB.out))⟩; clear HB hq_; have HB := n0_; clear n0_))) | ((with_reducible refine gate_callee (f := 42) rfl ?_); refine goesL_ (some 42) rfl rfl Try.func42 (by kernel_rfl) rfl #[.int .i64 a0, .int .i64 a2] rfl (by (try simp only [List.map_toArray, List.map_cons, List.map_nil]); first | done | rfl | (simp only [List.length_drop, List.length_take]; rfl)) ?_; (with_reducible refine (fee_Less.calls k a0 a2 t308 t309 _ A10.out).mono ?_); rintro e w30 ⟨rfl, hb⟩; refine ⟨_, rfl, ?_⟩; have n0_ := Aside0.mk (below_step (by repeat (first | (with_reducible first | exact HB.out | apply below_alloc | apply pw_below_drewN | apply below_drew1) | exact HB.out)) hb); clear HB; have HB := n0_; clear n0_; (try clear hb); (try clear hb2); (try clear hk); (try clear hi)) | ((with_reducible refine gate_callee (f := 43) rfl ?_); refine goesL_ (some 48) rfl rfl Try.func43 (by kernel_rfl) rfl #[.int .i64 a0, .int .i64 a2] rfl (by (try simp only [List.map_toArray, List.map_cons, List.map_nil]); first | done | rfl | (simp only [List.length_drop, List.length_take]; rfl)) ?_; (with_reducible refine (backhaulref04_Less.calls k a0 a2 t310 t311 _ A11.out).mono ?_); rintro e w' ⟨rfl, ⟨nd, rfl⟩⟩; refine ⟨_, rfl, ?_⟩; (try (rw [drewN_self w30]; generalize hq_ : World.drewN w30 _ = w30; have n0_ : Aside0 (Below w.heap.size w w30) := ⟨by rw [← hq_]; exact (by repeat (first | (with_reducible first | exact HB.out | apply below_alloc | apply pw_below_drewN | apply below_drew1) | exact HB.out))⟩; clear HB hq_; have HB := n0_; clear n0_))) | ((with_reducible refine gate_callee (f := 44) rfl ?_); refine goesL_ (some 55) rfl rfl Try.func44 (by kernel_rfl) rfl #[.int .i64 a0, .slice A1 l1.length c1, .int .i64 a2] rfl (by (try simp only [List.map_toArray, List.map_cons, List.map_nil]); first | done | rfl | (simp only [List.length_drop, List.length_take]; rfl)) ?_; (with_reducible refine (fee_Grade.calls k a0 _ _ l1 a2 t312 t313 _ ?side1 ?side2 A12.out).mono ?_); (case side1 => repeat (first | exact (Kd.C_below HR1.out HB.out) | (with_reducible refine Kd.C_alloc ?_ _) | (with_reducible refine Kd.C_drewN ?_ _) | (with_reducible refine Kd.C_drew ?_))); (case side2 => exact HC1.out); rintro e w31 ⟨rfl, hb⟩; refine ⟨_, rfl, ?_⟩; have n0_ := Aside0.mk (below_step (by repeat (first | (with_reducible first | exact HB.out | apply below_alloc | apply pw_below_drewN | apply below_drew1) | exact HB.out)) hb); clear HB; have HB := n0_; clear n0_; (try clear hb); (try clear hb2); (try clear hk); (try clear hi)) | ((with_reducible refine gate_callee (f := 45) rfl ?_); refine goesL_ (some 62) rfl rfl Try.func45 (by kernel_rfl) rfl #[.int .i64 a0, .slice A1 l1.length c1, .int .i64 a2] rfl (by (try simp only [List.map_toArray, List.map_cons, List.map_nil]); first | done | rfl | (simp only [List.length_drop, List.length_take]; rfl)) ?_; (with_reducible refine (backhaulref04_Grade.calls k a0 _ _ l1 a2 t314 t315 _ ?side1 ?side2 A13.out).mono ?_); (case side1 => repeat (first | exact (Kd.C_below HR1.out HB.out) | (with_reducible refine Kd.C_alloc ?_ _) | (with_reducible refine Kd.C_drewN ?_ _) | (with_reducible refine Kd.C_drew ?_))); (case side2 => exact HC1.out); rintro e w' ⟨rfl, ⟨nd, rfl⟩⟩; refine ⟨_, rfl, ?_⟩; (try (rw [drewN_self w31]; generalize hq_ : World.drewN w31 _ = w31; have n0_ : Aside0 (Below w.heap.size w w31) := ⟨by rw [← hq_]; exact (by repeat (first | (with_reducible first | exact HB.out | apply below_alloc | apply pw_below_drewN | apply below_drew1) | exact HB.out))⟩; clear HB hq_; have HB := n0_; clear n0_))) | ((with_reducible refine gate_callee (f := 46) rfl ?_); refine goesL_ (some 68) rfl rfl Try.func46 (by kernel_rfl) rfl #[.int .i64 a0, .slice A1 l1.length c1] rfl (by (try simp only [List.map_toArray, List.map_cons, List.map_nil]); first | done | rfl | (simp only [List.length_drop, List.length_take]; rfl)) ?_; (with_reducible refine (fee_All.calls k a0 _ _ l1 t316 t317 t318 t319 t320 _ ?side1 ?side2 A14.out).mono ?_); (case side1 => repeat (first | exact (Kd.C_below HR1.out HB.out) | (with_reducible refine Kd.C_alloc ?_ _) | (with_reducible refine Kd.C_drewN ?_ _) | (with_reducible refine Kd.C_drew ?_))); (case side2 => exact HC1.out); rintro e w32 ⟨rfl, hb⟩; refine ⟨_, rfl, ?_⟩; have n0_ := Aside0.mk (below_step (by repeat (first | (with_reducible first | exact HB.out | apply below_alloc | apply pw_below_drewN | apply below_drew1) | exact HB.out)) hb); clear HB; have HB := n0_; clear n0_; (try clear hb); (try clear hb2); (try clear hk); (try clear hi)) | ((with_reducible refine gate_dst (N := 19) rfl ?_); refine box_event ?hg (N := 19) ?hd (cs := #[.int .i64 0, .int .i64 0, .int .i64 0, .int .i64 0]) (t := 39) ?hr ?_; (case hd => rfl); (case hg => rfl); (case hr => first | (go_simp; done) | (go_simp; rfl)); intro gb321 hg w33 hbox hb; have n0_ := Aside0.mk (below_step (by repeat (first | (with_reducible first | exact HB.out | apply below_alloc | apply pw_below_drewN | apply below_drew1) | exact HB.out)) hb); have n1_ := Aside0.mk (hbox); have n2_ := Aside0.mk ((by rw [hg]; exact (below_size (by repeat (first | (with_reducible first | exact HB.out | apply below_alloc | apply pw_below_drewN | apply below_drew1) | exact HB.out))) : w.heap.size ≤ gb321)); have n3_ := Aside0.mk ((by rw [hg]; exact (below_size (by repeat (first | (with_reducible first | exact HB.out | apply below_alloc | apply pw_below_drewN | apply below_drew1) | exact HB.out))) : w.heap.size ≤ gb321)); clear HB; have HB := n0_; have BK321 := n1_; have GW321 := n2_; have GE321 := n3_; clear n0_ n1_ n2_ n3_; clear hb hbox hg; have hcz34_0 : w33.cell? ⟨gb321, 0, none⟩ = some (.int .i64 0) := (blk_cell BK321.out 0).trans rfl; have hcz34_1 : w33.cell? ⟨gb321, 1, none⟩ = some (.int .i64 0) := (blk_cell BK321.out 1).trans rfl; have hcz34_2 : w33.cell? ⟨gb321, 2, none⟩ = some (.int .i64 0) := (blk_cell BK321.out 2).trans rfl; have hcz34_3 : w33.cell? ⟨gb321, 3, none⟩ = some (.int .i64 0) := (blk_cell BK321.out 3).trans rfl; have hfz34_0 := blk_frozen BK321.out 0; have hfz34_1 := blk_frozen BK321.out 1; have hfz34_2 := blk_frozen BK321.out 2; have hfz34_3 := blk_frozen BK321.out 3) | ((with_reducible refine gate_callee (f := 47) rfl ?_); refine goesL_ (some 74) rfl rfl Try.func47 (by kernel_rfl) rfl #[.int .i64 a0, .slice A1 l1.length c1] rfl (by (try simp only [List.map_toArray, List.map_cons, List.map_nil]); first | done | rfl | (simp only [List.length_drop, List.length_take]; rfl)) ?_; (with_reducible refine (backhaulref04_All.calls k a0 _ _ l1 t322 t323 t324 t325 t326 _ ?side1 ?side2 A15.out).mono ?_); (case side1 => exact Kd.C_below HR1.out (by repeat (first | (with_reducible first | exact HB.out | apply below_alloc | apply pw_below_drewN | apply below_drew1 | refine below_set ?_ GE321.out) | exact HB.out))); (case side2 => exact HC1.out); rintro e w35 ⟨rfl, hb⟩; refine ⟨_, rfl, ?_⟩; have n0_ := Aside0.mk (blk_below (g := gb321) (o := .cells #[.int .i64 t316, .int .i64 t317, .int .i64 t318, .int .i64 t319] 39 (0, 0)) (by (with_reducible repeat (first | refine blk_drewN ?_ _ | refine blk_drew ?_ | refine blk_alloc ?_ _)); refine blk_put (cs := #[.int .i64 t316, .int .i64 t317, .int .i64 t318, .int .i64 0]) ?_ 3 _ rfl; (with_reducible repeat (first | refine blk_drewN ?_ _ | refine blk_drew ?_ | refine blk_alloc ?_ _)); refine blk_put (cs := #[.int .i64 t316, .int .i64 t317, .int .i64 0, .int .i64 0]) ?_ 2 _ rfl; (with_reducible repeat (first | refine blk_drewN ?_ _ | refine blk_drew ?_ | refine blk_alloc ?_ _)); refine blk_put (cs := #[.int .i64 t316, .int .i64 0, .int .i64 0, .int .i64 0]) ?_ 1 _ rfl; (with_reducible repeat (first | refine blk_drewN ?_ _ | refine blk_drew ?_ | refine blk_alloc ?_ _)); refine blk_put (cs := #[.int .i64 0, .int .i64 0, .int .i64 0, .int .i64 0]) ?_ 0 _ rfl; (with_reducible repeat (first | refine blk_drewN ?_ _ | refine blk_drew ?_ | refine blk_alloc ?_ _)); exact BK321.out) hb); have n1_ := Aside0.mk (below_step (by repeat (first | (with_reducible first | exact HB.out | apply below_alloc | apply pw_below_drewN | apply below_drew1 | refine below_set ?_ GE321.out) | exact HB.out)) hb); clear BK321; clear HB; have BK321 := n0_; have HB := n1_; clear n0_ n1_; (try clear hb); (try clear hb2); (try clear hk); (try clear hi)) | ((with_reducible refine gate_dst (N := 21) rfl ?_); refine box_event ?hg (N := 21) ?hd (cs := #[.int .i64 0, .int .i64 0, .int .i64 0, .int .i64 0]) (t := 39) ?hr ?_; (case hd => rfl); (case hg => rfl); (case hr => first | (go_simp; done) | (go_simp; rfl)); intro gb327 hg w36 hbox hb; have n0_ := Aside0.mk (blk_below (g := gb321) (o := .cells #[.int .i64 t316, .int .i64 t317, .int .i64 t318, .int .i64 t319] 39 (0, 0)) (by (with_reducible repeat (first | refine blk_drewN ?_ _ | refine blk_drew ?_ | refine blk_alloc ?_ _)); exact BK321.out) hb); have n1_ := Aside0.mk (below_step (by repeat (first | (with_reducible first | exact HB.out | apply below_alloc | apply pw_below_drewN | apply below_drew1 | refine below_set ?_ GE321.out) | exact HB.out)) hb); have n2_ := Aside0.mk (hbox); have n3_ := Aside0.mk ((by rw [hg]; exact (below_size (by repeat (first | (with_reducible first | exact HB.out | apply below_alloc | apply pw_below_drewN | apply below_drew1 | refine below_set ?_ GE321.out) | exact HB.out))) : w.heap.size ≤ gb327)); have n4_ := Aside0.mk ((by rw [hg]; exact (below_size (by repeat (first | (with_reducible first | exact HB.out | apply below_alloc | apply pw_below_drewN | apply below_drew1 | refine below_set ?_ GE321.out) | exact HB.out))) : w.heap.size ≤ gb327)); have n5_ := Aside0.mk ((by rw [hg]; exact Nat.ne_of_lt (blk_lt (g := gb321) (o := .cells #[.int .i64 t316, .int .i64 t317, .int .i64 t318, .int .i64 t319] 39 (0, 0)) (by (with_reducible repeat (first | refine blk_drewN ?_ _ | refine blk_drew ?_ | refine blk_alloc ?_ _)); exact BK321.out)) : gb321 ≠ gb327)); have n6_ := Aside0.mk ((by rw [hg]; exact Nat.ne_of_gt (blk_lt (g := gb321) (o := .cells #[.int .i64 t316, .int .i64 t317, .int .i64 t318, .int .i64 t319] 39 (0, 0)) (by (with_reducible repeat (first | refine blk_drewN ?_ _ | refine blk_drew ?_ | refine blk_alloc ?_ _)); exact BK321.out)) : gb327 ≠ gb321)); clear BK321; clear HB; have BK321 := n0_; have HB := n1_; have BK327 := n2_; have GW327 := n3_; have GE327 := n4_; have NB321_327 := n5_; have NB327_321 := n6_; clear n0_ n1_ n2_ n3_ n4_ n5_ n6_; clear hb hbox hg; have hnb37 := NB327_321.out; have hnc37 := NB321_327.out; have hcz38_0 : w36.cell? ⟨gb327, 0, none⟩ = some (.int .i64 0) := (blk_cell BK327.out 0).trans rfl; have hcz38_1 : w36.cell? ⟨gb327, 1, none⟩ = some (.int .i64 0) := (blk_cell BK327.out 1).trans rfl; have hcz38_2 : w36.cell? ⟨gb327, 2, none⟩ = some (.int .i64 0) := (blk_cell BK327.out 2).trans rfl; have hcz38_3 : w36.cell? ⟨gb327, 3, none⟩ = some (.int .i64 0) := (blk_cell BK327.out 3).trans rfl; have hfz38_0 := blk_frozen BK327.out 0; have hfz38_1 := blk_frozen BK327.out 1; have hfz38_2 := blk_frozen BK327.out 2; have hfz38_3 := blk_frozen BK327.out 3; have hcz39_0 : w36.cell? ⟨gb321, 0, none⟩ = some (.int .i64 t316) := (blk_cell BK321.out 0).trans rfl; have hcz39_1 : w36.cell? ⟨gb321, 1, none⟩ = some (.int .i64 t317) := (blk_cell BK321.out 1).trans rfl; have hcz39_2 : w36.cell? ⟨gb321, 2, none⟩ = some (.int .i64 t318) := (blk_cell BK321.out 2).trans rfl; have hcz39_3 : w36.cell? ⟨gb321, 3, none⟩ = some (.int .i64 t319) := (blk_cell BK321.out 3).trans rfl; have hfz39_0 := blk_frozen BK321.out 0; have hfz39_1 := blk_frozen BK321.out 1; have hfz39_2 := blk_frozen BK321.out 2; have hfz39_3 := blk_frozen BK321.out 3) | (go_at_call 48; (with_reducible refine (fee_Check.calls k _ _ l1 t328 _ ?side1 ?side2 A24.out).mono ?_); (case side1 => exact Kd.C_below HR1.out (by repeat (first | (with_reducible first | exact HB.out | apply below_alloc | apply pw_below_drewN | apply below_drew1 | refine below_set ?_ GE321.out | refine below_set ?_ GE327.out) | exact HB.out))); (case side2 => exact HC1.out); rintro e w' ⟨rfl, ⟨nd, rfl⟩⟩) | (go_at_call 49; (with_reducible refine (backhaulref04_Check.calls k _ _ l1 t329 _ ?side1 ?side2 A25.out).mono ?_); (case side1 => exact Kd.C_below HR1.out (by repeat (first | (with_reducible first | exact HB.out | apply below_alloc | apply pw_below_drewN | apply below_drew1 | refine below_set ?_ GE321.out | refine below_set ?_ GE327.out) | exact HB.out))); (case side2 => exact HC1.out); rintro e w' ⟨rfl, ⟨nd, rfl⟩⟩) | (go_at_call 39; (with_reducible refine (backhaullaw04_awake.calls  true _ A27.out).mono ?_); rintro e w40 ⟨rfl, hb⟩; have n0_ := Aside0.mk (blk_below (g := gb321) (o := .cells #[.int .i64 t316, .int .i64 t317, .int .i64 t318, .int .i64 t319] 39 (0, 0)) (by (with_reducible repeat (first | refine blk_drewN ?_ _ | refine blk_drew ?_ | refine blk_alloc ?_ _)); refine blk_far ?_ NB321_327.out _; (with_reducible repeat (first | refine blk_drewN ?_ _ | refine blk_drew ?_ | refine blk_alloc ?_ _)); refine blk_far ?_ NB321_327.out _; (with_reducible repeat (first | refine blk_drewN ?_ _ | refine blk_drew ?_ | refine blk_alloc ?_ _)); refine blk_far ?_ NB321_327.out _; (with_reducible repeat (first | refine blk_drewN ?_ _ | refine blk_drew ?_ | refine blk_alloc ?_ _)); refine blk_far ?_ NB321_327.out _; (with_reducible repeat (first | refine blk_drewN ?_ _ | refine blk_drew ?_ | refine blk_alloc ?_ _)); exact BK321.out) hb); have n1_ := Aside0.mk (blk_below (g := gb327) (o := .cells #[.int .i64 t322, .int .i64 t323, .int .i64 t324, .int .i64 t325] 39 (0, 0)) (by (with_reducible repeat (first | refine blk_drewN ?_ _ | refine blk_drew ?_ | refine blk_alloc ?_ _)); refine blk_put (cs := #[.int .i64 t322, .int .i64 t323, .int .i64 t324, .int .i64 0]) ?_ 3 _ rfl; (with_reducible repeat (first | refine blk_drewN ?_ _ | refine blk_drew ?_ | refine blk_alloc ?_ _)); refine blk_put (cs := #[.int .i64 t322, .int .i64 t323, .int .i64 0, .int .i64 0]) ?_ 2 _ rfl; (with_reducible repeat (first | refine blk_drewN ?_ _ | refine blk_drew ?_ | refine blk_alloc ?_ _)); refine blk_put (cs := #[.int .i64 t322, .int .i64 0, .int .i64 0, .int .i64 0]) ?_ 1 _ rfl; (with_reducible repeat (first | refine blk_drewN ?_ _ | refine blk_drew ?_ | refine blk_alloc ?_ _)); refine blk_put (cs := #[.int .i64 0, .int .i64 0, .int .i64 0, .int .i64 0]) ?_ 0 _ rfl; (with_reducible repeat (first | refine blk_drewN ?_ _ | refine blk_drew ?_ | refine blk_alloc ?_ _)); exact BK327.out) hb); have n2_ := Aside0.mk (below_step (by repeat (first | (with_reducible first | exact HB.out | apply below_alloc | apply pw_below_drewN | apply below_drew1 | refine below_set ?_ GE321.out | refine below_set ?_ GE327.out) | exact HB.out)) hb); clear BK321; clear BK327; clear HB; have BK321 := n0_; have BK327 := n1_; have HB := n2_; clear n0_ n1_ n2_; (try clear hb); (try clear hb2); (try clear hk); (try clear hi)))
                        go_ret
                        exact ⟨by first | rfl | (simp [errW_none, errW_some] <;> rfl) | (simp [*, errW_none, errW_some] <;> rfl), by repeat (first | (with_reducible first | exact HB.out | apply below_alloc | apply pw_below_drewN | apply below_drew1 | refine below_set ?_ GE321.out | refine below_set ?_ GE327.out) | exact HB.out)⟩
                      · replace c28 := Bool.eq_false_iff.mpr c28
                        subst c28
                        have H1 : (some false) = some true := by first | (rw [if_neg (show ¬ (false = true) by decide)] at H; exact H) | rfl
                        clear H
                        have H := H1
                        clear H1
                        exact absurd H (by simp)
                    · rw [if_neg c26] at H
                      have c26b0 : (t328 == t329) = false := beq_eq_false_iff_ne.mpr c26
                      have c26b1 : (t328 != t329) = true := bne_iff_ne.mpr c26
                      exact absurd H (by simp)
                  · rw [if_neg c23] at H
                    have c23b0 : (t320 == t326) = false := beq_eq_false_iff_ne.mpr c23
                    have c23b1 : (t320 != t326) = true := bne_iff_ne.mpr c23
                    exact absurd H (by simp)
                · rw [if_neg c22] at H
                  have c22b0 : (t316 == t322 && (t317 == t323 && (t318 == t324 && (t319 == t325)))) = false := by simpa using c22
                  (try (have c22b1 : decide (t316 = t322 && (t317 == t323 && (t318 == t324 && (t319 == t325)))) = false := by simpa using c22))
                  (try (have c22b2 : (t316 == t322 && (t317 == t323 && (t318 == t324 && (t319 == t325)))) = false := by simpa using c22))
                  (try (have c22b3 : ¬ (t316 = t322 && (t317 == t323 && (t318 == t324 && (t319 == t325)))) := by simpa using c22))
                  clear c22
                  exact absurd H (by simp)
              · rw [if_neg c21] at H
                have c21b0 : (t313 == t315) = false := beq_eq_false_iff_ne.mpr c21
                have c21b1 : (t313 != t315) = true := bne_iff_ne.mpr c21
                exact absurd H (by simp)
            · rw [if_neg c20] at H
              have c20b0 : (t312 == t314) = false := beq_eq_false_iff_ne.mpr c20
              have c20b1 : (t312 != t314) = true := bne_iff_ne.mpr c20
              exact absurd H (by simp)
          · rw [if_neg c19] at H
            have c19b0 : (t309 == t311) = false := beq_eq_false_iff_ne.mpr c19
            have c19b1 : (t309 != t311) = true := bne_iff_ne.mpr c19
            exact absurd H (by simp)
        · rw [if_neg c18] at H
          have c18b0 : (t308 == t310) = false := beq_eq_false_iff_ne.mpr c18
          have c18b1 : (t308 != t310) = true := bne_iff_ne.mpr c18
          exact absurd H (by simp)
      · rw [if_neg c17] at H
        have c17b0 : (t305 == t307) = false := beq_eq_false_iff_ne.mpr c17
        have c17b1 : (t305 != t307) = true := bne_iff_ne.mpr c17
        exact absurd H (by simp)
    · rw [if_neg c16] at H
      have c16b0 : (t304 == t306) = false := beq_eq_false_iff_ne.mpr c16
      have c16b1 : (t304 != t306) = true := bne_iff_ne.mpr c16
      exact absurd H (by simp)

/-- THE ONE PURE STATEMENT of backhaullaw04_FeeTells. -/
def backhaullaw04_FeeTells.Pure : Prop := ∀ (a0 : Int) (l1 : List Int) (a2 : Int), (Lit.int .i64 a0).wf = true → (l1.length ≤ maxLen ∧ ∀ x ∈ l1, (Lit.int .i64 x).wf = true) → (Lit.int .i64 a2).wf = true → ∃ k, backhaullaw04_FeeTells.f k a0 l1 a2 = some true

end Go.Proofs.Ytefhljhpcpajgaa.F

/- Plain lemmas on 'from some number of rounds on'; no condition. -/
set_option linter.unusedVariables false
namespace Go.Proofs.Ytefhljhpcpajgaa.Q
open Go.RowKit Go.Proofs.YtefhljhpcpajgaaW.PrintWords Go.Proofs.YtefhljhpcpajgaaW.PrintLast Go.Proofs.YtefhljhpcpajgaaW.PrintMore

theorem Ev.ite {α : Type} {c : Prop} [Decidable c] {a b : Nat → Option α} {r : α} (h1 : c → Ev a r) (h2 : ¬ c → Ev b r) : Ev (fun k => if c then a k else b k) r := by
  by_cases h : c
  · simp only [if_pos h]; exact h1 h
  · simp only [if_neg h]; exact h2 h
theorem Ev.pos {α : Type} {c : Prop} [Decidable c] {a b : Nat → Option α} {r : α} (h : c) (h1 : Ev a r) : Ev (fun k => if c then a k else b k) r := by
  simp only [if_pos h]; exact h1
theorem Ev.neg {α : Type} {c : Prop} [Decidable c] {a b : Nat → Option α} {r : α} (h : ¬ c) (h1 : Ev b r) : Ev (fun k => if c then a k else b k) r := by
  simp only [if_neg h]; exact h1
theorem Ev.ok {α : Type} {a b : α} (h : a = b) : Ev (fun _ => some a) b := ⟨0, fun _ _ => by rw [h]⟩
theorem Ev.const {α : Type} {o : Option α} {r : α} (h : o = some r) : Ev (fun _ => o) r := ⟨0, fun _ _ => h⟩
theorem Ev.bindc {α β : Type} {o : Option α} {f : Nat → α → Option β} {a : α} {r : β} (h : o = some a) (k : Ev (fun n => f n a) r) : Ev (fun n => o.bind (f n)) r := by
  subst h
  exact k
theorem Ev.eq {α : Type} {g : Nat → Option α} {a b : α} (h : Ev g a) (e : a = b) : Ev g b := e ▸ h

theorem i64_bounds {x : Int} (h : (Lit.int .i64 x).wf = true) : -9223372036854775808 ≤ x ∧ x ≤ 9223372036854775807 := by
  simp [Lit.wf, IntKind.min, IntKind.max, IntKind.signed, IntKind.bits] at h
  omega
theorem wrap_eq {x : Int} (h0 : -9223372036854775808 ≤ x) (h1 : x ≤ 9223372036854775807) : wrap64 x = x := by
  unfold wrap64; omega
theorem u64_eq {x : Int} (h0 : 0 ≤ x) (h1 : x < 18446744073709551616) : IntKind.u64.wrap x = x := by
  simp [IntKind.wrap, IntKind.signed, IntKind.bits]; omega
theorem countP_split {α : Type} {p : α → Bool} {l : List α} {n : Nat} (hn : n ≤ l.length) (h1 : ∀ j (h : j < l.length), j < n → p l[j] = true) (h2 : ∀ j (h : j < l.length), n ≤ j → p l[j] = false) : l.countP p = n := by
  have e : l = l.take n ++ l.drop n := (List.take_append_drop n l).symm
  have a : (l.take n).countP p = (l.take n).length := by
    rw [List.countP_eq_length]
    intro x hx
    obtain ⟨j, hj, rfl⟩ := List.mem_iff_getElem.1 hx
    rw [List.length_take] at hj
    rw [List.getElem_take]
    exact h1 j (by omega) (by omega)
  have b : (l.drop n).countP p = 0 := by
    rw [List.countP_eq_zero]
    intro x hx
    obtain ⟨j, hj, rfl⟩ := List.mem_iff_getElem.1 hx
    rw [List.length_drop] at hj
    rw [List.getElem_drop, h2 (n + j) (by omega) (by omega)]
    simp
  rw [e, List.countP_append, a, b, List.length_take]
  omega
theorem idxOf_first {α : Type} [BEq α] [LawfulBEq α] {l : List α} {t : α} {i : Nat} (h : i < l.length) (he : l[i] = t) (h1 : ∀ j (h : j < l.length), j < i → l[j] ≠ t) : l.idxOf t = i := by
  unfold List.idxOf
  rw [List.findIdx_eq h]
  exact ⟨by simp [he], fun j hj => by simpa using h1 j (by omega) hj⟩
theorem rd_nat {l : List Int} {i : Nat} (h : i < l.length) : rd l (i : Int) = l[i] := by
  unfold rd; simp [List.getD_eq_getElem?_getD, h]
theorem rdOf_nat {α : Type} {d : α} {l : List α} {i : Nat} (h : i < l.length) : rdOf d l (i : Int) = l[i] := by
  unfold rdOf; simp [List.getD_eq_getElem?_getD, h]
theorem drop_cons {α : Type} {l : List α} {i : Nat} (h : i < l.length) : l.drop i = l[i] :: l.drop (i + 1) := List.drop_eq_getElem_cons h
theorem bytes_ext {a b : ByteArray} : a.toList = b.toList ↔ a = b := by
  constructor
  · intro h
    rw [ByteArray.toList_eq, ByteArray.toList_eq] at h
    cases a; cases b
    simpa [Array.toList_inj] using h
  · rintro rfl; rfl
end Go.Proofs.Ytefhljhpcpajgaa.Q

namespace Go.Proofs.Ytefhljhpcpajgaa.F
open Go.RowKit Go.Proofs.YtefhljhpcpajgaaX Go.Proofs.YtefhljhpcpajgaaW.PrintWords Go.Proofs.YtefhljhpcpajgaaW.PrintLast Go.Proofs.YtefhljhpcpajgaaW.PrintMore
attribute [local go_sem] max2_int min2_int max_two min_two max_three min_three max_four min_four   -- for this text's walks alone
set_option linter.unusedVariables false
set_option linter.unusedSimpArgs false

/-! ### cents_Add: function 25 -/
def cents_Add.l0 : Nat → Int → List Int → Int → Int → Option (Int × Int)
  | 0, _, _, _, _ => none
  | k + 1, x4, x7, x8, x9 => if x9 < x8 then (if 0 ≤ x9 then (if x9 < (x7.length : Int) then ((cents_In.f (rd x7 x9)).bind fun t102 => (if t102 = true then ((cents_In.f (wrap64 (x4 + (rd x7 x9)))).bind fun t103 => (if t103 = true then (cents_Add.l0 k (wrap64 (x4 + (rd x7 x9))) x7 x8 (wrap64 (x9 + 1))) else (some (0, 8)))) else (some (0, 8)))) else (none)) else (none)) else (some (x4, 0))
def cents_Add.f (k : Nat) (l0 : List Int) : Option (Int × Int) := cents_Add.l0 k 0 l0 (l0.length : Int) 0
theorem cents_Add.mono_l : ∀ k, (∀ y0 y1 y2 y3, LeO (cents_Add.l0 k y0 y1 y2 y3) (cents_Add.l0 (k + 1) y0 y1 y2 y3))
  | 0 => fun _ _ _ _ r h => by simp [cents_Add.l0] at h
  | k + 1 => by
    have ih0 := cents_Add.mono_l k
    · intro y0 y1 y2 y3
      unfold cents_Add.l0
      repeat' first
      | (with_reducible exact ih0 _ _ _ _)
      | (with_reducible exact LeO.refl _)
      | (with_reducible exact LeO.none _)
      | (with_reducible refine LeO.ite ?_ ?_)
      | (with_reducible refine LeO.bind ?_ (fun _ => ?_))
      | exact ih0 _ _ _ _
      | exact LeO.none _
      | refine LeO.ite ?_ ?_
      | refine LeO.bind ?_ (fun _ => ?_)
theorem cents_Add.mono : ∀ a0 k, LeO (cents_Add.f k a0) (cents_Add.f (k + 1) a0) := by
  intro a0 k
  have ih0 := cents_Add.mono_l k
  unfold cents_Add.f
  repeat' first
      | (with_reducible exact ih0 _ _ _ _)
      | (with_reducible exact LeO.refl _)
      | (with_reducible exact LeO.none _)
      | (with_reducible refine LeO.ite ?_ ?_)
      | (with_reducible refine LeO.bind ?_ (fun _ => ?_))
      | exact ih0 _ _ _ _
      | exact LeO.none _
      | refine LeO.ite ?_ ?_
      | refine LeO.bind ?_ (fun _ => ?_)
set_option maxHeartbeats 8000000 in
set_option maxRecDepth 100000 in
theorem cents_Add.calls (k : Nat) (A0 : Option Addr) (c0 : Nat) (l0 : List Int) (r1 : Int) (r2 : Int) (w : World) (hr0 : Kd.C (Kd.int .i64) w A0 l0.length l0) (hc0 : l0.length ≤ c0) (h : cents_Add.f k l0 = some (r1, r2)) :
    Calls Try.prog 25 #[.slice A0 l0.length c0] w fun e w' => e = .returned (.tuple #[.int .i64 r1, .int .i64 r2]) ∧ Drawn0 w w' := by
  have HR0 := Aside0.mk hr0
  have HC0 := Aside0.mk hc0
  clear hr0 hc0
  have H : (cents_Add.l0 k 0 l0 (l0.length : Int) 0) = some (r1, r2) := h
  clear h
  have H' := Aside0.mk H
  clear H
  go_enter Try.func25, Try.ntmps25
  go_wp2
  go_loopg [4, 9] k (fun kq v4 v9 w' => ∃ (x4_1 : Int) (x9_1 : Int), v4 = .int .i64 x4_1 ∧ v9 = .int .i64 x9_1 ∧ Aside0 (cents_Add.l0 kq x4_1 l0 (l0.length : Int) x9_1 = some (r1, r2)) ∧ Aside0 (kq ≤ k) ∧ Drawn0 w w')
  case atStart => exact ⟨(0), (0), (by first | rfl | (simp; done) | (simp [*]; done)), (by first | rfl | (simp; done) | (simp [*]; done)), H', ⟨Nat.le_refl _⟩, by repeat (first | exact Drawn0.refl _ | apply Drawn0.step)⟩
  case round =>
    clear H'
    obtain ⟨x4_1, x9_1, rfl, rfl, HA, HK1, ⟨m1, rfl⟩⟩ := hrel
    cases gk with
    | zero => exact absurd HA.out (by simp [cents_Add.l0])
    | succ k1 =>
      have H := HA.out
      clear HA
      simp only [cents_Add.l0] at H
      by_cases c2 : x9_1 < (l0.length : Int)
      · rw [if_pos c2] at H
        have c2b0 : decide (x9_1 < (l0.length : Int)) = true := decide_eq_true c2
        clear c2
        by_cases c3 : 0 ≤ x9_1
        · rw [if_pos c3] at H
          have c3b0 : decide (0 ≤ x9_1) = true := decide_eq_true c3
          clear c3
          by_cases c4 : x9_1 < (l0.length : Int)
          · rw [if_pos c4] at H
            have c4b0 : decide (x9_1 < (l0.length : Int)) = true := decide_eq_true c4
            clear c4
            replace H := Option.bind_eq_some_iff.mp H
            obtain ⟨t102, A50, H⟩ := H
            replace H : (if t102 = true then ((cents_In.f (wrap64 (x4_1 + (rd l0 x9_1)))).bind fun t103 => (if t103 = true then (cents_Add.l0 k1 (wrap64 (x4_1 + (rd l0 x9_1))) l0 (l0.length : Int) (wrap64 (x9_1 + 1))) else (some (0, 8)))) else (some (0, 8))) = some (r1, r2) := H
            have A5 := Aside0.mk A50
            clear A50
            by_cases c6 : t102 = true
            · subst c6
              have H1 : ((cents_In.f (wrap64 (x4_1 + (rd l0 x9_1)))).bind fun t103 => (if t103 = true then (cents_Add.l0 k1 (wrap64 (x4_1 + (rd l0 x9_1))) l0 (l0.length : Int) (wrap64 (x9_1 + 1))) else (some (0, 8)))) = some (r1, r2) := by first | (rw [if_pos rfl] at H; exact H) | rfl
              clear H
              have H := H1
              clear H1
              replace H := Option.bind_eq_some_iff.mp H
              obtain ⟨t103, A70, H⟩ := H
              replace H : (if t103 = true then (cents_Add.l0 k1 (wrap64 (x4_1 + (rd l0 x9_1))) l0 (l0.length : Int) (wrap64 (x9_1 + 1))) else (some (0, 8))) = some (r1, r2) := H
              have A7 := Aside0.mk A70
              clear A70
              by_cases c8 : t103 = true
              · subst c8
                have H1 : (cents_Add.l0 k1 (wrap64 (x4_1 + (rd l0 x9_1))) l0 (l0.length : Int) (wrap64 (x9_1 + 1))) = some (r1, r2) := by first | (rw [if_pos rfl] at H; exact H) | rfl
                clear H
                have H := H1
                clear H1
                have H' := Aside0.mk H
                clear H
                have p101 : 0 ≤ (x9_1 : Int) := of_decide_eq_true (by first | (with_reducible assumption) | assumption)
                have q101 : x9_1 < (l0.length : Int) := of_decide_eq_true (by first | (with_reducible assumption) | assumption)
                obtain ⟨ad101, e101, hx101_0⟩ := Kd.at_int HR0.out x9_1 p101 q101
                cases e101
                replace p101 := eq_true p101
                replace q101 := eq_true q101
                go_wp2_with (first | ((with_reducible refine gate_callee (f := 31) rfl ?_); refine goesL_ (some 14) rfl rfl Try.func31 (by kernel_rfl) rfl #[.int .i64 (rd l0 x9_1)] rfl (by (try simp only [List.map_toArray, List.map_cons, List.map_nil]); first | done | rfl | (simp only [List.length_drop, List.length_take]; rfl)) ?_; (with_reducible refine (cents_In.calls (rd l0 x9_1) true _ A5.out).mono ?_); rintro e w' ⟨rfl, ⟨nd, rfl⟩⟩; refine ⟨_, rfl, ?_⟩) | (go_at_call 31; (with_reducible refine (cents_In.calls (wrap64 (x4_1 + (rd l0 x9_1))) true _ A7.out).mono ?_); rintro e w' ⟨rfl, ⟨nd, rfl⟩⟩))
                go_roundg k1
                case measure => have := HK1.out; omega
                case rel => exact ⟨(wrap64 (x4_1 + (rd l0 x9_1))), (wrap64 (x9_1 + 1)), (by first | rfl | (simp; done) | (simp [*]; done)), (by first | rfl | (simp; done) | (simp [*]; done)), H', ⟨by have := HK1.out; omega⟩, by repeat (first | exact Drawn0.refl _ | apply Drawn0.step)⟩
              · replace c8 := Bool.eq_false_iff.mpr c8
                subst c8
                have H1 : (some (0, 8)) = some (r1, r2) := by first | (rw [if_neg (show ¬ (false = true) by decide)] at H; exact H) | rfl
                clear H
                have H := H1
                clear H1
                simp only [Option.some.injEq, Prod.mk.injEq] at H
                obtain ⟨rfl, rfl⟩ := H
                have p101 : 0 ≤ (x9_1 : Int) := of_decide_eq_true (by first | (with_reducible assumption) | assumption)
                have q101 : x9_1 < (l0.length : Int) := of_decide_eq_true (by first | (with_reducible assumption) | assumption)
                obtain ⟨ad101, e101, hx101_0⟩ := Kd.at_int HR0.out x9_1 p101 q101
                cases e101
                replace p101 := eq_true p101
                replace q101 := eq_true q101
                go_wp2_with (first | ((with_reducible refine gate_callee (f := 31) rfl ?_); refine goesL_ (some 14) rfl rfl Try.func31 (by kernel_rfl) rfl #[.int .i64 (rd l0 x9_1)] rfl (by (try simp only [List.map_toArray, List.map_cons, List.map_nil]); first | done | rfl | (simp only [List.length_drop, List.length_take]; rfl)) ?_; (with_reducible refine (cents_In.calls (rd l0 x9_1) true _ A5.out).mono ?_); rintro e w' ⟨rfl, ⟨nd, rfl⟩⟩; refine ⟨_, rfl, ?_⟩) | (go_at_call 31; (with_reducible refine (cents_In.calls (wrap64 (x4_1 + (rd l0 x9_1))) false _ A7.out).mono ?_); rintro e w' ⟨rfl, ⟨nd, rfl⟩⟩))
                go_ret2
                exact ⟨by first | rfl | (simp; done) | (simp [*]; done), by repeat (first | exact Drawn0.refl _ | apply Drawn0.step)⟩
            · replace c6 := Bool.eq_false_iff.mpr c6
              subst c6
              have H1 : (some (0, 8)) = some (r1, r2) := by first | (rw [if_neg (show ¬ (false = true) by decide)] at H; exact H) | rfl
              clear H
              have H := H1
              clear H1
              simp only [Option.some.injEq, Prod.mk.injEq] at H
              obtain ⟨rfl, rfl⟩ := H
              have p101 : 0 ≤ (x9_1 : Int) := of_decide_eq_true (by first | (with_reducible assumption) | assumption)
              have q101 : x9_1 < (l0.length : Int) := of_decide_eq_true (by first | (with_reducible assumption) | assumption)
              obtain ⟨ad101, e101, hx101_0⟩ := Kd.at_int HR0.out x9_1 p101 q101
              cases e101
              replace p101 := eq_true p101
              replace q101 := eq_true q101
              go_wp2_with (first | ((with_reducible refine gate_callee (f := 31) rfl ?_); refine goesL_ (some 14) rfl rfl Try.func31 (by kernel_rfl) rfl #[.int .i64 (rd l0 x9_1)] rfl (by (try simp only [List.map_toArray, List.map_cons, List.map_nil]); first | done | rfl | (simp only [List.length_drop, List.length_take]; rfl)) ?_; (with_reducible refine (cents_In.calls (rd l0 x9_1) false _ A5.out).mono ?_); rintro e w' ⟨rfl, ⟨nd, rfl⟩⟩; refine ⟨_, rfl, ?_⟩))
              go_ret2
              exact ⟨by first | rfl | (simp; done) | (simp [*]; done), by repeat (first | exact Drawn0.refl _ | apply Drawn0.step)⟩
          · rw [if_neg c4] at H
            exact absurd H (by simp)
        · rw [if_neg c3] at H
          exact absurd H (by simp)
      · rw [if_neg c2] at H
        have c2b0 : decide (x9_1 < (l0.length : Int)) = false := decide_eq_false c2
        clear c2
        simp only [Option.some.injEq, Prod.mk.injEq] at H
        obtain ⟨rfl, rfl⟩ := H
        go_wp2
        go_ret2
        exact ⟨by first | rfl | (simp; done) | (simp [*]; done), by repeat (first | exact Drawn0.refl _ | apply Drawn0.step)⟩

end Go.Proofs.Ytefhljhpcpajgaa.F

namespace Go.Proofs.Ytefhljhpcpajgaa.F
open Go.RowKit Go.Proofs.YtefhljhpcpajgaaX Go.Proofs.YtefhljhpcpajgaaW.PrintWords Go.Proofs.YtefhljhpcpajgaaW.PrintLast Go.Proofs.YtefhljhpcpajgaaW.PrintMore
attribute [local go_sem] max2_int min2_int max_two min_two max_three min_three max_four min_four   -- for this text's walks alone
set_option linter.unusedVariables false
set_option linter.unusedSimpArgs false

/-! ### backhaulref02_In: function 32 -/
def backhaulref02_In.f (a0 : Int) : Option (Bool) := if a0 ≥ (-1000000000000) then (some (decide (a0 ≤ 1000000000000))) else (some false)
set_option maxHeartbeats 8000000 in
set_option maxRecDepth 100000 in
theorem backhaulref02_In.calls (a0 : Int) (r : Bool) (w : World) (h : backhaulref02_In.f a0 = some r) :
    Calls Try.prog 32 #[.int .i64 a0] w fun e w' => e = .returned (.bool r) ∧ Drawn0 w w' := by
  have H : (if a0 ≥ (-1000000000000) then (some (decide (a0 ≤ 1000000000000))) else (some false)) = some r := h
  clear h
  by_cases c2 : a0 ≥ (-1000000000000)
  · rw [if_pos c2] at H
    have c2b0 : decide ((-1000000000000) ≤ a0) = true := decide_eq_true c2
    clear c2
    obtain rfl := Option.some.inj H
    go_enter Try.func32, Try.ntmps32
    go_wp2
    go_ret
    exact ⟨by first | rfl | (simp; done) | (simp [*]; done), by repeat (first | exact Drawn0.refl _ | apply Drawn0.step)⟩
  · rw [if_neg c2] at H
    have c2b0 : decide ((-1000000000000) ≤ a0) = false := decide_eq_false c2
    clear c2
    obtain rfl := Option.some.inj H
    go_enter Try.func32, Try.ntmps32
    go_wp2
    go_ret
    exact ⟨by first | rfl | (simp; done) | (simp [*]; done), by repeat (first | exact Drawn0.refl _ | apply Drawn0.step)⟩

end Go.Proofs.Ytefhljhpcpajgaa.F

namespace Go.Proofs.Ytefhljhpcpajgaa.F
open Go.RowKit Go.Proofs.YtefhljhpcpajgaaX Go.Proofs.YtefhljhpcpajgaaW.PrintWords Go.Proofs.YtefhljhpcpajgaaW.PrintLast Go.Proofs.YtefhljhpcpajgaaW.PrintMore
attribute [local go_sem] max2_int min2_int max_two min_two max_three min_three max_four min_four   -- for this text's walks alone
set_option linter.unusedVariables false
set_option linter.unusedSimpArgs false

/-! ### backhaulref02_Add: function 26 -/
def backhaulref02_Add.l0 : Nat → List Int → Int → Int → Option (Int × Int)
  | 0, _, _, _ => none
  | k + 1, x0, x4, x5 => if x5 < (x0.length : Int) then (if 0 ≤ x5 then ((backhaulref02_In.f (rd x0 x5)).bind fun t168 => (if t168 = true then ((backhaulref02_In.f (wrap64 (x4 + (rd x0 x5)))).bind fun t170 => (if t170 = true then (backhaulref02_Add.l0 k x0 (wrap64 (x4 + (rd x0 x5))) (wrap64 (x5 + 1))) else (some (0, 8)))) else (some (0, 8)))) else (none)) else (some (x4, 0))
def backhaulref02_Add.f (k : Nat) (l0 : List Int) : Option (Int × Int) := backhaulref02_Add.l0 k l0 0 0
theorem backhaulref02_Add.mono_l : ∀ k, (∀ y0 y1 y2, LeO (backhaulref02_Add.l0 k y0 y1 y2) (backhaulref02_Add.l0 (k + 1) y0 y1 y2))
  | 0 => fun _ _ _ r h => by simp [backhaulref02_Add.l0] at h
  | k + 1 => by
    have ih0 := backhaulref02_Add.mono_l k
    · intro y0 y1 y2
      unfold backhaulref02_Add.l0
      repeat' first
      | (with_reducible exact ih0 _ _ _)
      | (with_reducible exact LeO.refl _)
      | (with_reducible exact LeO.none _)
      | (with_reducible refine LeO.ite ?_ ?_)
      | (with_reducible refine LeO.bind ?_ (fun _ => ?_))
      | exact ih0 _ _ _
      | exact LeO.none _
      | refine LeO.ite ?_ ?_
      | refine LeO.bind ?_ (fun _ => ?_)
theorem backhaulref02_Add.mono : ∀ a0 k, LeO (backhaulref02_Add.f k a0) (backhaulref02_Add.f (k + 1) a0) := by
  intro a0 k
  have ih0 := backhaulref02_Add.mono_l k
  unfold backhaulref02_Add.f
  repeat' first
      | (with_reducible exact ih0 _ _ _)
      | (with_reducible exact LeO.refl _)
      | (with_reducible exact LeO.none _)
      | (with_reducible refine LeO.ite ?_ ?_)
      | (with_reducible refine LeO.bind ?_ (fun _ => ?_))
      | exact ih0 _ _ _
      | exact LeO.none _
      | refine LeO.ite ?_ ?_
      | refine LeO.bind ?_ (fun _ => ?_)
set_option maxHeartbeats 8000000 in
set_option maxRecDepth 100000 in
theorem backhaulref02_Add.calls (k : Nat) (A0 : Option Addr) (c0 : Nat) (l0 : List Int) (r1 : Int) (r2 : Int) (w : World) (hr0 : Kd.C (Kd.int .i64) w A0 l0.length l0) (hc0 : l0.length ≤ c0) (h : backhaulref02_Add.f k l0 = some (r1, r2)) :
    Calls Try.prog 26 #[.slice A0 l0.length c0] w fun e w' => e = .returned (.tuple #[.int .i64 r1, .int .i64 r2]) ∧ Drawn0 w w' := by
  have HR0 := Aside0.mk hr0
  have HC0 := Aside0.mk hc0
  clear hr0 hc0
  have H : (backhaulref02_Add.l0 k l0 0 0) = some (r1, r2) := h
  clear h
  have H' := Aside0.mk H
  clear H
  go_enter Try.func26, Try.ntmps26
  go_wp2
  go_loopg [4, 5] k (fun kq v4 v5 w' => ∃ (x4_1 : Int) (x5_1 : Int), v4 = .int .i64 x4_1 ∧ v5 = .int .i64 x5_1 ∧ Aside0 (backhaulref02_Add.l0 kq l0 x4_1 x5_1 = some (r1, r2)) ∧ Aside0 (kq ≤ k) ∧ Drawn0 w w')
  case atStart => exact ⟨(0), (0), (by first | rfl | (simp; done) | (simp [*]; done)), (by first | rfl | (simp; done) | (simp [*]; done)), H', ⟨Nat.le_refl _⟩, by repeat (first | exact Drawn0.refl _ | apply Drawn0.step)⟩
  case round =>
    clear H'
    obtain ⟨x4_1, x5_1, rfl, rfl, HA, HK1, ⟨m1, rfl⟩⟩ := hrel
    cases gk with
    | zero => exact absurd HA.out (by simp [backhaulref02_Add.l0])
    | succ k1 =>
      have H := HA.out
      clear HA
      simp only [backhaulref02_Add.l0] at H
      by_cases c2 : x5_1 < (l0.length : Int)
      · rw [if_pos c2] at H
        have c2b0 : decide (x5_1 < (l0.length : Int)) = true := decide_eq_true c2
        clear c2
        by_cases c3 : 0 ≤ x5_1
        · rw [if_pos c3] at H
          have c3b0 : decide (0 ≤ x5_1) = true := decide_eq_true c3
          clear c3
          replace H := Option.bind_eq_some_iff.mp H
          obtain ⟨t168, A40, H⟩ := H
          replace H : (if t168 = true then ((backhaulref02_In.f (wrap64 (x4_1 + (rd l0 x5_1)))).bind fun t170 => (if t170 = true then (backhaulref02_Add.l0 k1 l0 (wrap64 (x4_1 + (rd l0 x5_1))) (wrap64 (x5_1 + 1))) else (some (0, 8)))) else (some (0, 8))) = some (r1, r2) := H
          have A4 := Aside0.mk A40
          clear A40
          by_cases c5 : t168 = true
          · subst c5
            have H1 : ((backhaulref02_In.f (wrap64 (x4_1 + (rd l0 x5_1)))).bind fun t170 => (if t170 = true then (backhaulref02_Add.l0 k1 l0 (wrap64 (x4_1 + (rd l0 x5_1))) (wrap64 (x5_1 + 1))) else (some (0, 8)))) = some (r1, r2) := by first | (rw [if_pos rfl] at H; exact H) | rfl
            clear H
            have H := H1
            clear H1
            replace H := Option.bind_eq_some_iff.mp H
            obtain ⟨t170, A60, H⟩ := H
            replace H : (if t170 = true then (backhaulref02_Add.l0 k1 l0 (wrap64 (x4_1 + (rd l0 x5_1))) (wrap64 (x5_1 + 1))) else (some (0, 8))) = some (r1, r2) := H
            have A6 := Aside0.mk A60
            clear A60
            by_cases c7 : t170 = true
            · subst c7
              have H1 : (backhaulref02_Add.l0 k1 l0 (wrap64 (x4_1 + (rd l0 x5_1))) (wrap64 (x5_1 + 1))) = some (r1, r2) := by first | (rw [if_pos rfl] at H; exact H) | rfl
              clear H
              have H := H1
              clear H1
              have H' := Aside0.mk H
              clear H
              have p167 : 0 ≤ (x5_1 : Int) := of_decide_eq_true (by first | (with_reducible assumption) | assumption)
              have q167 : x5_1 < (l0.length : Int) := of_decide_eq_true (by first | (with_reducible assumption) | assumption)
              obtain ⟨ad167, e167, hx167_0⟩ := Kd.at_int HR0.out x5_1 p167 q167
              cases e167
              replace p167 := eq_true p167
              replace q167 := eq_true q167
              go_wp2_with (first | ((with_reducible refine gate_callee (f := 32) rfl ?_); refine goesL_ (some 16) rfl rfl Try.func32 (by kernel_rfl) rfl #[.int .i64 (rd l0 x5_1)] rfl (by (try simp only [List.map_toArray, List.map_cons, List.map_nil]); first | done | rfl | (simp only [List.length_drop, List.length_take]; rfl)) ?_; (with_reducible refine (backhaulref02_In.calls (rd l0 x5_1) true _ A4.out).mono ?_); rintro e w' ⟨rfl, ⟨nd, rfl⟩⟩; refine ⟨_, rfl, ?_⟩; have p169 : 0 ≤ (x5_1 : Int) := of_decide_eq_true (by first | (with_reducible assumption) | assumption); have q169 : x5_1 < (l0.length : Int) := of_decide_eq_true (by first | (with_reducible assumption) | assumption); obtain ⟨ad169, e169, hx169_0⟩ := Kd.at_int HR0.out x5_1 p169 q169; obtain rfl : ad167 = ad169 := (by injection e169); replace p169 := eq_true p169; replace q169 := eq_true q169) | ((with_reducible refine gate_callee (f := 32) rfl ?_); refine goesL_ (some 25) rfl rfl Try.func32 (by kernel_rfl) rfl #[.int .i64 (wrap64 (x4_1 + (rd l0 x5_1)))] rfl (by (try simp only [List.map_toArray, List.map_cons, List.map_nil]); first | done | rfl | (simp only [List.length_drop, List.length_take]; rfl)) ?_; (with_reducible refine (backhaulref02_In.calls (wrap64 (x4_1 + (rd l0 x5_1))) true _ A6.out).mono ?_); rintro e w' ⟨rfl, ⟨nd, rfl⟩⟩; refine ⟨_, rfl, ?_⟩))
              go_roundg k1
              case measure => have := HK1.out; omega
              case rel => exact ⟨(wrap64 (x4_1 + (rd l0 x5_1))), (wrap64 (x5_1 + 1)), (by first | rfl | (simp; done) | (simp [*]; done)), (by first | rfl | (simp; done) | (simp [*]; done)), H', ⟨by have := HK1.out; omega⟩, by repeat (first | exact Drawn0.refl _ | apply Drawn0.step)⟩
            · replace c7 := Bool.eq_false_iff.mpr c7
              subst c7
              have H1 : (some (0, 8)) = some (r1, r2) := by first | (rw [if_neg (show ¬ (false = true) by decide)] at H; exact H) | rfl
              clear H
              have H := H1
              clear H1
              simp only [Option.some.injEq, Prod.mk.injEq] at H
              obtain ⟨rfl, rfl⟩ := H
              have p167 : 0 ≤ (x5_1 : Int) := of_decide_eq_true (by first | (with_reducible assumption) | assumption)
              have q167 : x5_1 < (l0.length : Int) := of_decide_eq_true (by first | (with_reducible assumption) | assumption)
              obtain ⟨ad167, e167, hx167_0⟩ := Kd.at_int HR0.out x5_1 p167 q167
              cases e167
              replace p167 := eq_true p167
              replace q167 := eq_true q167
              go_wp2_with (first | ((with_reducible refine gate_callee (f := 32) rfl ?_); refine goesL_ (some 16) rfl rfl Try.func32 (by kernel_rfl) rfl #[.int .i64 (rd l0 x5_1)] rfl (by (try simp only [List.map_toArray, List.map_cons, List.map_nil]); first | done | rfl | (simp only [List.length_drop, List.length_take]; rfl)) ?_; (with_reducible refine (backhaulref02_In.calls (rd l0 x5_1) true _ A4.out).mono ?_); rintro e w' ⟨rfl, ⟨nd, rfl⟩⟩; refine ⟨_, rfl, ?_⟩; have p169 : 0 ≤ (x5_1 : Int) := of_decide_eq_true (by first | (with_reducible assumption) | assumption); have q169 : x5_1 < (l0.length : Int) := of_decide_eq_true (by first | (with_reducible assumption) | assumption); obtain ⟨ad169, e169, hx169_0⟩ := Kd.at_int HR0.out x5_1 p169 q169; obtain rfl : ad167 = ad169 := (by injection e169); replace p169 := eq_true p169; replace q169 := eq_true q169) | ((with_reducible refine gate_callee (f := 32) rfl ?_); refine goesL_ (some 25) rfl rfl Try.func32 (by kernel_rfl) rfl #[.int .i64 (wrap64 (x4_1 + (rd l0 x5_1)))] rfl (by (try simp only [List.map_toArray, List.map_cons, List.map_nil]); first | done | rfl | (simp only [List.length_drop, List.length_take]; rfl)) ?_; (with_reducible refine (backhaulref02_In.calls (wrap64 (x4_1 + (rd l0 x5_1))) false _ A6.out).mono ?_); rintro e w' ⟨rfl, ⟨nd, rfl⟩⟩; refine ⟨_, rfl, ?_⟩))
              go_ret2
              exact ⟨by first | rfl | (simp; done) | (simp [*]; done), by repeat (first | exact Drawn0.refl _ | apply Drawn0.step)⟩
          · replace c5 := Bool.eq_false_iff.mpr c5
            subst c5
            have H1 : (some (0, 8)) = some (r1, r2) := by first | (rw [if_neg (show ¬ (false = true) by decide)] at H; exact H) | rfl
            clear H
            have H := H1
            clear H1
            simp only [Option.some.injEq, Prod.mk.injEq] at H
            obtain ⟨rfl, rfl⟩ := H
            have p167 : 0 ≤ (x5_1 : Int) := of_decide_eq_true (by first | (with_reducible assumption) | assumption)
            have q167 : x5_1 < (l0.length : Int) := of_decide_eq_true (by first | (with_reducible assumption) | assumption)
            obtain ⟨ad167, e167, hx167_0⟩ := Kd.at_int HR0.out x5_1 p167 q167
            cases e167
            replace p167 := eq_true p167
            replace q167 := eq_true q167
            go_wp2_with (first | ((with_reducible refine gate_callee (f := 32) rfl ?_); refine goesL_ (some 16) rfl rfl Try.func32 (by kernel_rfl) rfl #[.int .i64 (rd l0 x5_1)] rfl (by (try simp only [List.map_toArray, List.map_cons, List.map_nil]); first | done | rfl | (simp only [List.length_drop, List.length_take]; rfl)) ?_; (with_reducible refine (backhaulref02_In.calls (rd l0 x5_1) false _ A4.out).mono ?_); rintro e w' ⟨rfl, ⟨nd, rfl⟩⟩; refine ⟨_, rfl, ?_⟩))
            go_ret2
            exact ⟨by first | rfl | (simp; done) | (simp [*]; done), by repeat (first | exact Drawn0.refl _ | apply Drawn0.step)⟩
        · rw [if_neg c3] at H
          exact absurd H (by simp)
      · rw [if_neg c2] at H
        have c2b0 : decide (x5_1 < (l0.length : Int)) = false := decide_eq_false c2
        clear c2
        simp only [Option.some.injEq, Prod.mk.injEq] at H
        obtain ⟨rfl, rfl⟩ := H
        go_wp2
        go_ret2
        exact ⟨by first | rfl | (simp; done) | (simp [*]; done), by repeat (first | exact Drawn0.refl _ | apply Drawn0.step)⟩

end Go.Proofs.Ytefhljhpcpajgaa.F

namespace Go.Proofs.Ytefhljhpcpajgaa.F
open Go.RowKit Go.Proofs.YtefhljhpcpajgaaX Go.Proofs.YtefhljhpcpajgaaW.PrintWords Go.Proofs.YtefhljhpcpajgaaW.PrintLast Go.Proofs.YtefhljhpcpajgaaW.PrintMore
attribute [local go_sem] max2_int min2_int max_two min_two max_three min_three max_four min_four   -- for this text's walks alone
set_option linter.unusedVariables false
set_option linter.unusedSimpArgs false

/-! ### backhaulref02_Sub: function 28 -/
def backhaulref02_Sub.f (a0 : Int) (a1 : Int) : Option (Int × Int) := (backhaulref02_In.f a0).bind fun t171 => (if t171 = true then ((backhaulref02_In.f a1).bind fun t172 => (if t172 = true then ((backhaulref02_In.f (wrap64 (a0 - a1))).bind fun t173 => (if t173 = true then (some (wrap64 (a0 - a1), 0)) else (some (0, 8)))) else (some (0, 8)))) else (some (0, 8)))
set_option maxHeartbeats 8000000 in
set_option maxRecDepth 100000 in
theorem backhaulref02_Sub.calls (a0 : Int) (a1 : Int) (r1 : Int) (r2 : Int) (w : World) (h : backhaulref02_Sub.f a0 a1 = some (r1, r2)) :
    Calls Try.prog 28 #[.int .i64 a0, .int .i64 a1] w fun e w' => e = .returned (.tuple #[.int .i64 r1, .int .i64 r2]) ∧ Drawn0 w w' := by
  have H : ((backhaulref02_In.f a0).bind fun t171 => (if t171 = true then ((backhaulref02_In.f a1).bind fun t172 => (if t172 = true then ((backhaulref02_In.f (wrap64 (a0 - a1))).bind fun t173 => (if t173 = true then (some (wrap64 (a0 - a1), 0)) else (some (0, 8)))) else (some (0, 8)))) else (some (0, 8)))) = some (r1, r2) := h
  clear h
  replace H := Option.bind_eq_some_iff.mp H
  obtain ⟨t171, A30, H⟩ := H
  replace H : (if t171 = true then ((backhaulref02_In.f a1).bind fun t172 => (if t172 = true then ((backhaulref02_In.f (wrap64 (a0 - a1))).bind fun t173 => (if t173 = true then (some (wrap64 (a0 - a1), 0)) else (some (0, 8)))) else (some (0, 8)))) else (some (0, 8))) = some (r1, r2) := H
  have A3 := Aside0.mk A30
  clear A30
  by_cases c4 : t171 = true
  · subst c4
    have H1 : ((backhaulref02_In.f a1).bind fun t172 => (if t172 = true then ((backhaulref02_In.f (wrap64 (a0 - a1))).bind fun t173 => (if t173 = true then (some (wrap64 (a0 - a1), 0)) else (some (0, 8)))) else (some (0, 8)))) = some (r1, r2) := by first | (rw [if_pos rfl] at H; exact H) | rfl
    clear H
    have H := H1
    clear H1
    replace H := Option.bind_eq_some_iff.mp H
    obtain ⟨t172, A50, H⟩ := H
    replace H : (if t172 = true then ((backhaulref02_In.f (wrap64 (a0 - a1))).bind fun t173 => (if t173 = true then (some (wrap64 (a0 - a1), 0)) else (some (0, 8)))) else (some (0, 8))) = some (r1, r2) := H
    have A5 := Aside0.mk A50
    clear A50
    by_cases c6 : t172 = true
    · subst c6
      have H1 : ((backhaulref02_In.f (wrap64 (a0 - a1))).bind fun t173 => (if t173 = true then (some (wrap64 (a0 - a1), 0)) else (some (0, 8)))) = some (r1, r2) := by first | (rw [if_pos rfl] at H; exact H) | rfl
      clear H
      have H := H1
      clear H1
      replace H := Option.bind_eq_some_iff.mp H
      obtain ⟨t173, A70, H⟩ := H
      replace H : (if t173 = true then (some (wrap64 (a0 - a1), 0)) else (some (0, 8))) = some (r1, r2) := H
      have A7 := Aside0.mk A70
      clear A70
      by_cases c8 : t173 = true
      · subst c8
        have H1 : (some (wrap64 (a0 - a1), 0)) = some (r1, r2) := by first | (rw [if_pos rfl] at H; exact H) | rfl
        clear H
        have H := H1
        clear H1
        simp only [Option.some.injEq, Prod.mk.injEq] at H
        obtain ⟨rfl, rfl⟩ := H
        go_enter Try.func28, Try.ntmps28
        go_wp2_with (first | ((with_reducible refine gate_callee (f := 32) rfl ?_); refine goesL_ (some 7) rfl rfl Try.func32 (by kernel_rfl) rfl #[.int .i64 a0] rfl (by (try simp only [List.map_toArray, List.map_cons, List.map_nil]); first | done | rfl | (simp only [List.length_drop, List.length_take]; rfl)) ?_; (with_reducible refine (backhaulref02_In.calls a0 true _ A3.out).mono ?_); rintro e w' ⟨rfl, ⟨nd, rfl⟩⟩; refine ⟨_, rfl, ?_⟩) | (go_at_call 32; (with_reducible refine (backhaulref02_In.calls a1 true _ A5.out).mono ?_); rintro e w' ⟨rfl, ⟨nd, rfl⟩⟩) | (go_at_call 32; (with_reducible refine (backhaulref02_In.calls (wrap64 (a0 - a1)) true _ A7.out).mono ?_); rintro e w' ⟨rfl, ⟨nd, rfl⟩⟩))
        go_ret2
        exact ⟨by first | rfl | (simp; done) | (simp [*]; done), by repeat (first | exact Drawn0.refl _ | apply Drawn0.step)⟩
      · replace c8 := Bool.eq_false_iff.mpr c8
        subst c8
        have H1 : (some (0, 8)) = some (r1, r2) := by first | (rw [if_neg (show ¬ (false = true) by decide)] at H; exact H) | rfl
        clear H
        have H := H1
        clear H1
        simp only [Option.some.injEq, Prod.mk.injEq] at H
        obtain ⟨rfl, rfl⟩ := H
        go_enter Try.func28, Try.ntmps28
        go_wp2_with (first | ((with_reducible refine gate_callee (f := 32) rfl ?_); refine goesL_ (some 7) rfl rfl Try.func32 (by kernel_rfl) rfl #[.int .i64 a0] rfl (by (try simp only [List.map_toArray, List.map_cons, List.map_nil]); first | done | rfl | (simp only [List.length_drop, List.length_take]; rfl)) ?_; (with_reducible refine (backhaulref02_In.calls a0 true _ A3.out).mono ?_); rintro e w' ⟨rfl, ⟨nd, rfl⟩⟩; refine ⟨_, rfl, ?_⟩) | (go_at_call 32; (with_reducible refine (backhaulref02_In.calls a1 true _ A5.out).mono ?_); rintro e w' ⟨rfl, ⟨nd, rfl⟩⟩) | (go_at_call 32; (with_reducible refine (backhaulref02_In.calls (wrap64 (a0 - a1)) false _ A7.out).mono ?_); rintro e w' ⟨rfl, ⟨nd, rfl⟩⟩))
        go_ret2
        exact ⟨by first | rfl | (simp; done) | (simp [*]; done), by repeat (first | exact Drawn0.refl _ | apply Drawn0.step)⟩
    · replace c6 := Bool.eq_false_iff.mpr c6
      subst c6
      have H1 : (some (0, 8)) = some (r1, r2) := by first | (rw [if_neg (show ¬ (false = true) by decide)] at H; exact H) | rfl
      clear H
      have H := H1
      clear H1
      simp only [Option.some.injEq, Prod.mk.injEq] at H
      obtain ⟨rfl, rfl⟩ := H
      go_enter Try.func28, Try.ntmps28
      go_wp2_with (first | ((with_reducible refine gate_callee (f := 32) rfl ?_); refine goesL_ (some 7) rfl rfl Try.func32 (by kernel_rfl) rfl #[.int .i64 a0] rfl (by (try simp only [List.map_toArray, List.map_cons, List.map_nil]); first | done | rfl | (simp only [List.length_drop, List.length_take]; rfl)) ?_; (with_reducible refine (backhaulref02_In.calls a0 true _ A3.out).mono ?_); rintro e w' ⟨rfl, ⟨nd, rfl⟩⟩; refine ⟨_, rfl, ?_⟩) | (go_at_call 32; (with_reducible refine (backhaulref02_In.calls a1 false _ A5.out).mono ?_); rintro e w' ⟨rfl, ⟨nd, rfl⟩⟩))
      go_ret2
      exact ⟨by first | rfl | (simp; done) | (simp [*]; done), by repeat (first | exact Drawn0.refl _ | apply Drawn0.step)⟩
  · replace c4 := Bool.eq_false_iff.mpr c4
    subst c4
    have H1 : (some (0, 8)) = some (r1, r2) := by first | (rw [if_neg (show ¬ (false = true) by decide)] at H; exact H) | rfl
    clear H
    have H := H1
    clear H1
    simp only [Option.some.injEq, Prod.mk.injEq] at H
    obtain ⟨rfl, rfl⟩ := H
    go_enter Try.func28, Try.ntmps28
    go_wp2_with (first | ((with_reducible refine gate_callee (f := 32) rfl ?_); refine goesL_ (some 7) rfl rfl Try.func32 (by kernel_rfl) rfl #[.int .i64 a0] rfl (by (try simp only [List.map_toArray, List.map_cons, List.map_nil]); first | done | rfl | (simp only [List.length_drop, List.length_take]; rfl)) ?_; (with_reducible refine (backhaulref02_In.calls a0 false _ A3.out).mono ?_); rintro e w' ⟨rfl, ⟨nd, rfl⟩⟩; refine ⟨_, rfl, ?_⟩))
    go_ret2
    exact ⟨by first | rfl | (simp; done) | (simp [*]; done), by repeat (first | exact Drawn0.refl _ | apply Drawn0.step)⟩

end Go.Proofs.Ytefhljhpcpajgaa.F

namespace Go.Proofs.Ytefhljhpcpajgaa.F
open Go.RowKit Go.Proofs.YtefhljhpcpajgaaX Go.Proofs.YtefhljhpcpajgaaW.PrintWords Go.Proofs.YtefhljhpcpajgaaW.PrintLast Go.Proofs.YtefhljhpcpajgaaW.PrintMore
attribute [local go_sem] max2_int min2_int max_two min_two max_three min_three max_four min_four   -- for this text's walks alone
set_option linter.unusedVariables false
set_option linter.unusedSimpArgs false

/-! ### cents_size: function 99 -/
def cents_size.f (a0 : Int) : Option (Int) := if a0 < 0 then (some (IntKind.u64.wrap (wrap64 (-a0)))) else (some (IntKind.u64.wrap (a0)))
set_option maxHeartbeats 8000000 in
set_option maxRecDepth 100000 in
theorem cents_size.calls (a0 : Int) (r : Int) (w : World) (h : cents_size.f a0 = some r) :
    Calls Try.prog 99 #[.int .i64 a0] w fun e w' => e = .returned (.int .u64 r) ∧ Drawn0 w w' := by
  have H : (if a0 < 0 then (some (IntKind.u64.wrap (wrap64 (-a0)))) else (some (IntKind.u64.wrap (a0)))) = some r := h
  clear h
  by_cases c2 : a0 < 0
  · rw [if_pos c2] at H
    have c2b0 : decide (a0 < 0) = true := decide_eq_true c2
    clear c2
    obtain rfl := Option.some.inj H
    go_enter Try.func99, Try.ntmps99
    go_wp2
    go_ret
    exact ⟨by first | rfl | (simp; done) | (simp [*]; done), by repeat (first | exact Drawn0.refl _ | apply Drawn0.step)⟩
  · rw [if_neg c2] at H
    have c2b0 : decide (a0 < 0) = false := decide_eq_false c2
    clear c2
    obtain rfl := Option.some.inj H
    go_enter Try.func99, Try.ntmps99
    go_wp2
    go_ret
    exact ⟨by first | rfl | (simp; done) | (simp [*]; done), by repeat (first | exact Drawn0.refl _ | apply Drawn0.step)⟩

end Go.Proofs.Ytefhljhpcpajgaa.F

namespace Go.Proofs.Ytefhljhpcpajgaa.F
open Go.RowKit Go.Proofs.YtefhljhpcpajgaaX Go.Proofs.YtefhljhpcpajgaaW.PrintWords Go.Proofs.YtefhljhpcpajgaaW.PrintLast Go.Proofs.YtefhljhpcpajgaaW.PrintMore
attribute [local go_sem] max2_int min2_int max_two min_two max_three min_three max_four min_four   -- for this text's walks alone
set_option linter.unusedVariables false
set_option linter.unusedSimpArgs false

/-! ### cents_Times: function 29 (by hand) -/
def cents_Times.f (a0 a1 : Int) : Option (Int × Int) := (cents_In.f a0).bind fun t => if t = true then ((cents_In.f a1).bind fun u => if u = true then ((cents_size.f a0).bind fun x => (cents_size.f a1).bind fun y => (cents_product.f x y).bind fun p => (cents_wide_above.f p.1 p.2 0 1000000000000).bind fun b => if b = true then some (0, 8) else some (wrap64 (a0 * a1), 0)) else some (0, 8)) else some (0, 8)
set_option maxHeartbeats 4000000 in
set_option maxRecDepth 100000 in
theorem cents_Times.calls (a0 a1 : Int) (r1 : Int) (r2 : Int) (w : World) (h : cents_Times.f a0 a1 = some (r1, r2)) :
    Calls Try.prog 29 #[.int .i64 a0, .int .i64 a1] w fun e w' => e = .returned (.tuple #[.int .i64 r1, .int .i64 r2]) ∧ Below w.heap.size w w' := by
  unfold cents_Times.f at h
  obtain ⟨t, ht, h⟩ := Option.bind_eq_some_iff.1 h
  have Ht := Aside0.mk ht
  clear ht
  cases t with
  | false =>
    rw [if_neg (by decide)] at h
    simp only [Option.some.injEq, Prod.mk.injEq] at h
    obtain ⟨rfl, rfl⟩ := h
    go_enter Try.func29, Try.ntmps29
    go_wp2_with (go_at_call 31; (with_reducible refine (cents_In.calls _ _ _ Ht.out).mono ?_); rintro e w' ⟨rfl, ⟨n, rfl⟩⟩)
    go_ret2
    exact ⟨rfl, by repeat (first | exact Below.refl _ _ | apply pw_below_drewN | apply below_drew)⟩
  | true =>
    rw [if_pos rfl] at h
    obtain ⟨u, hu, h⟩ := Option.bind_eq_some_iff.1 h
    have Hu := Aside0.mk hu
    clear hu
    cases u with
    | false =>
      rw [if_neg (by decide)] at h
      simp only [Option.some.injEq, Prod.mk.injEq] at h
      obtain ⟨rfl, rfl⟩ := h
      go_enter Try.func29, Try.ntmps29
      go_wp2_with (first
        | (go_at_call 31; (with_reducible refine (cents_In.calls a0 _ _ Ht.out).mono ?_); rintro e w' ⟨rfl, ⟨n, rfl⟩⟩)
        | (go_at_call 31; (with_reducible refine (cents_In.calls a1 _ _ Hu.out).mono ?_); rintro e w' ⟨rfl, ⟨n2, rfl⟩⟩))
      go_ret2
      exact ⟨rfl, by repeat (first | exact Below.refl _ _ | apply pw_below_drewN | apply below_drew)⟩
    | true =>
      rw [if_pos rfl] at h
      obtain ⟨x, hx, h⟩ := Option.bind_eq_some_iff.1 h
      obtain ⟨y, hy, h⟩ := Option.bind_eq_some_iff.1 h
      obtain ⟨⟨p1, p2⟩, hp, h⟩ := Option.bind_eq_some_iff.1 h
      obtain ⟨b, hb, h⟩ := Option.bind_eq_some_iff.1 h
      have Hx := Aside0.mk hx
      have Hy := Aside0.mk hy
      have Hp := Aside0.mk hp
      have Hb := Aside0.mk hb
      clear hx hy hp hb
      cases b with
      | true =>
        rw [if_pos rfl] at h
        simp only [Option.some.injEq, Prod.mk.injEq] at h
        obtain ⟨rfl, rfl⟩ := h
        go_enter Try.func29, Try.ntmps29
        go_wp2_with (first
          | (go_at_call 31; (with_reducible refine (cents_In.calls a0 _ _ Ht.out).mono ?_); rintro e w' ⟨rfl, ⟨n, rfl⟩⟩)
          | (go_at_call 31; (with_reducible refine (cents_In.calls a1 _ _ Hu.out).mono ?_); rintro e w' ⟨rfl, ⟨n2, rfl⟩⟩)
          | (go_at_call 99; (with_reducible refine (cents_size.calls a0 _ _ Hx.out).mono ?_); rintro e w' ⟨rfl, ⟨n3, rfl⟩⟩)
          | (go_at_call 99; (with_reducible refine (cents_size.calls a1 _ _ Hy.out).mono ?_); rintro e w' ⟨rfl, ⟨n4, rfl⟩⟩)
          | (go_at_call 98; (with_reducible refine (cents_product.calls _ _ _ _ _ Hp.out).mono ?_); rintro e w5 ⟨rfl, hb5⟩; have HB5 := Aside0.mk hb5; clear hb5)
          | (go_at_call 97; (with_reducible refine (cents_wide_above.calls _ _ _ _ _ _ Hb.out).mono ?_); rintro e w6 ⟨rfl, hb6⟩; have HB6 := Aside0.mk hb6; clear hb6))
        go_ret2
        have HA : Below w.heap.size w w5 := below_then (by repeat (first | exact Below.refl _ _ | apply pw_below_drewN | apply below_drew)) (by simp) HB5.out
        exact ⟨rfl, below_then HA HA.size HB6.out⟩
      | false =>
        rw [if_neg (by decide)] at h
        simp only [Option.some.injEq, Prod.mk.injEq] at h
        obtain ⟨h1, rfl⟩ := h
        have hw : IntKind.i64.wrap (a0 * a1) = r1 := (IntWalk.i64_left _).trans h1
        clear h1
        go_enter Try.func29, Try.ntmps29
        go_wp2_with (first
          | (go_at_call 31; (with_reducible refine (cents_In.calls a0 _ _ Ht.out).mono ?_); rintro e w' ⟨rfl, ⟨n, rfl⟩⟩)
          | (go_at_call 31; (with_reducible refine (cents_In.calls a1 _ _ Hu.out).mono ?_); rintro e w' ⟨rfl, ⟨n2, rfl⟩⟩)
          | (go_at_call 99; (with_reducible refine (cents_size.calls a0 _ _ Hx.out).mono ?_); rintro e w' ⟨rfl, ⟨n3, rfl⟩⟩)
          | (go_at_call 99; (with_reducible refine (cents_size.calls a1 _ _ Hy.out).mono ?_); rintro e w' ⟨rfl, ⟨n4, rfl⟩⟩)
          | (go_at_call 98; (with_reducible refine (cents_product.calls _ _ _ _ _ Hp.out).mono ?_); rintro e w5 ⟨rfl, hb5⟩; have HB5 := Aside0.mk hb5; clear hb5)
          | (go_at_call 97; (with_reducible refine (cents_wide_above.calls _ _ _ _ _ _ Hb.out).mono ?_); rintro e w6 ⟨rfl, hb6⟩; have HB6 := Aside0.mk hb6; clear hb6))
        go_ret2
        have HA : Below w.heap.size w w5 := below_then (by repeat (first | exact Below.refl _ _ | apply pw_below_drewN | apply below_drew)) (by simp) HB5.out
        exact ⟨rfl, below_then HA HA.size HB6.out⟩

end Go.Proofs.Ytefhljhpcpajgaa.F

