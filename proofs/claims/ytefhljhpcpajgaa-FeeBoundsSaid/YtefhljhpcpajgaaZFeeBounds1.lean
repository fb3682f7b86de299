-- merged by merge.py (the session's own program)
import Derived.Test.YtefhljhpcpajgaaZFeeBounds0
namespace Go.Proofs.Ytefhljhpcpajgaa.F
open Go.RowKit Go.Proofs.YtefhljhpcpajgaaX Go.Proofs.YtefhljhpcpajgaaW.PrintWords Go.Proofs.YtefhljhpcpajgaaW.PrintLast Go.Proofs.YtefhljhpcpajgaaW.PrintMore
attribute [local go_sem] max2_int min2_int max_two min_two max_three min_three max_four min_four   -- for this text's walks alone
set_option linter.unusedVariables false
set_option linter.unusedSimpArgs false

/-! ### fee_Of: function 40 -/
def fee_Of.f (k : Nat) (a0 : Int) (a1 : Int) : Option (Int × Int) := (fee_may.f a1).bind fun t253 => (if t253 = true then (if a0 < 0 then (some (0, 8)) else ((cents_In.f a0).bind fun t254 => (if t254 = true then ((cents_Half.f k a0 a1 10000).bind fun bt255 => (some (bt255.1, bt255.2))) else (some (0, 8))))) else (some (0, 2)))
theorem fee_Of.mono : ∀ a0 a1 k, LeO (fee_Of.f k a0 a1) (fee_Of.f (k + 1) a0 a1) := by
  intro a0 a1 k
  unfold fee_Of.f
  repeat' first
      | (with_reducible exact cents_Half.mono _ _ _ _)
      | (with_reducible exact LeO.refl _)
      | (with_reducible exact LeO.none _)
      | (with_reducible refine LeO.ite ?_ ?_)
      | (with_reducible refine LeO.bind ?_ (fun _ => ?_))
      | exact cents_Half.mono _ _ _ _
      | exact LeO.none _
      | refine LeO.ite ?_ ?_
      | refine LeO.bind ?_ (fun _ => ?_)
set_option maxHeartbeats 8000000 in
set_option maxRecDepth 100000 in
theorem fee_Of.calls (k : Nat) (a0 : Int) (a1 : Int) (r1 : Int) (r2 : Int) (w : World) (h : fee_Of.f k a0 a1 = some (r1, r2)) :
    Calls Try.prog 40 #[.int .i64 a0, .int .i64 a1] w fun e w' => e = .returned (.tuple #[.int .i64 r1, .int .i64 r2]) ∧ Below w.heap.size w w' := by
  have HB := Aside0.mk (Below.refl w.heap.size w)
  have H : ((fee_may.f a1).bind fun t253 => (if t253 = true then (if a0 < 0 then (some (0, 8)) else ((cents_In.f a0).bind fun t254 => (if t254 = true then ((cents_Half.f k a0 a1 10000).bind fun bt255 => (some (bt255.1, bt255.2))) else (some (0, 8))))) else (some (0, 2)))) = some (r1, r2) := h
  clear h
  replace H := Option.bind_eq_some_iff.mp H
  obtain ⟨t253, A30, H⟩ := H
  replace H : (if t253 = true then (if a0 < 0 then (some (0, 8)) else ((cents_In.f a0).bind fun t254 => (if t254 = true then ((cents_Half.f k a0 a1 10000).bind fun bt255 => (some (bt255.1, bt255.2))) else (some (0, 8))))) else (some (0, 2))) = some (r1, r2) := H
  have A3 := Aside0.mk A30
  clear A30
  by_cases c4 : t253 = true
  · subst c4
    have H1 : (if a0 < 0 then (some (0, 8)) else ((cents_In.f a0).bind fun t254 => (if t254 = true then ((cents_Half.f k a0 a1 10000).bind fun bt255 => (some (bt255.1, bt255.2))) else (some (0, 8))))) = some (r1, r2) := by first | (rw [if_pos rfl] at H; exact H) | rfl
    clear H
    have H := H1
    clear H1
    by_cases c5 : a0 < 0
    · rw [if_pos c5] at H
      have c5b0 : decide (a0 < 0) = true := decide_eq_true c5
      clear c5
      simp only [Option.some.injEq, Prod.mk.injEq] at H
      obtain ⟨rfl, rfl⟩ := H
      go_enter Try.func40, Try.ntmps40
      go_wp2_with (first | ((with_reducible refine gate_callee (f := 103) rfl ?_); refine goesL_ (some 8) rfl rfl Try.func103 (by kernel_rfl) rfl #[.int .i64 a1] rfl (by (try simp only [List.map_toArray, List.map_cons, List.map_nil]); first | done | rfl | (simp only [List.length_drop, List.length_take]; rfl)) ?_; (with_reducible refine (fee_may.calls a1 true _ A3.out).mono ?_); rintro e w' ⟨rfl, ⟨nd, rfl⟩⟩; refine ⟨_, rfl, ?_⟩))
      go_ret2
      exact ⟨by first | rfl | (simp [errW_none, errW_some] <;> rfl) | (simp [*, errW_none, errW_some] <;> rfl), by repeat (first | (with_reducible first | exact HB.out | apply below_alloc | apply pw_below_drewN | apply below_drew1) | exact HB.out)⟩
    · rw [if_neg c5] at H
      have c5b0 : decide (a0 < 0) = false := decide_eq_false c5
      clear c5
      replace H := Option.bind_eq_some_iff.mp H
      obtain ⟨t254, A60, H⟩ := H
      replace H : (if t254 = true then ((cents_Half.f k a0 a1 10000).bind fun bt255 => (some (bt255.1, bt255.2))) else (some (0, 8))) = some (r1, r2) := H
      have A6 := Aside0.mk A60
      clear A60
      by_cases c7 : t254 = true
      · subst c7
        have H1 : ((cents_Half.f k a0 a1 10000).bind fun bt255 => (some (bt255.1, bt255.2))) = some (r1, r2) := by first | (rw [if_pos rfl] at H; exact H) | rfl
        clear H
        have H := H1
        clear H1
        replace H := Option.bind_eq_some_iff.mp H
        obtain ⟨⟨t255, t256⟩, A80, H⟩ := H
        replace H : (some (t255, t256)) = some (r1, r2) := H
        have A8 := Aside0.mk A80
        clear A80
        simp only [Option.some.injEq, Prod.mk.injEq] at H
        obtain ⟨rfl, rfl⟩ := H
        go_enter Try.func40, Try.ntmps40
        go_wp2_with (first | ((with_reducible refine gate_callee (f := 103) rfl ?_); refine goesL_ (some 8) rfl rfl Try.func103 (by kernel_rfl) rfl #[.int .i64 a1] rfl (by (try simp only [List.map_toArray, List.map_cons, List.map_nil]); first | done | rfl | (simp only [List.length_drop, List.length_take]; rfl)) ?_; (with_reducible refine (fee_may.calls a1 true _ A3.out).mono ?_); rintro e w' ⟨rfl, ⟨nd, rfl⟩⟩; refine ⟨_, rfl, ?_⟩) | (go_at_call 31; (with_reducible refine (cents_In.calls a0 true _ A6.out).mono ?_); rintro e w' ⟨rfl, ⟨nd, rfl⟩⟩) | ((with_reducible refine gate_callee (f := 35) rfl ?_); refine goesL_ (some 20) rfl rfl Try.func35 (by kernel_rfl) rfl #[.int .i64 a0, .int .i64 a1, .int .i64 10000] rfl (by (try simp only [List.map_toArray, List.map_cons, List.map_nil]); first | done | rfl | (simp only [List.length_drop, List.length_take]; rfl)) ?_; (with_reducible refine (cents_Half.calls k a0 a1 10000 t255 t256 _ A8.out).mono ?_); rintro e w9 ⟨rfl, hb⟩; refine ⟨_, rfl, ?_⟩; have n0_ := Aside0.mk (below_step (by repeat (first | (with_reducible first | exact HB.out | apply below_alloc | apply pw_below_drewN | apply below_drew1) | exact HB.out)) hb); clear HB; have HB := n0_; clear n0_; (try clear hb); (try clear hb2); (try clear hk); (try clear hi)))
        go_ret2
        exact ⟨by first | rfl | (simp [errW_none, errW_some] <;> rfl) | (simp [*, errW_none, errW_some] <;> rfl), by repeat (first | (with_reducible first | exact HB.out | apply below_alloc | apply pw_below_drewN | apply below_drew1) | exact HB.out)⟩
      · replace c7 := Bool.eq_false_iff.mpr c7
        subst c7
        have H1 : (some (0, 8)) = some (r1, r2) := by first | (rw [if_neg (show ¬ (false = true) by decide)] at H; exact H) | rfl
        clear H
        have H := H1
        clear H1
        simp only [Option.some.injEq, Prod.mk.injEq] at H
        obtain ⟨rfl, rfl⟩ := H
        go_enter Try.func40, Try.ntmps40
        go_wp2_with (first | ((with_reducible refine gate_callee (f := 103) rfl ?_); refine goesL_ (some 8) rfl rfl Try.func103 (by kernel_rfl) rfl #[.int .i64 a1] rfl (by (try simp only [List.map_toArray, List.map_cons, List.map_nil]); first | done | rfl | (simp only [List.length_drop, List.length_take]; rfl)) ?_; (with_reducible refine (fee_may.calls a1 true _ A3.out).mono ?_); rintro e w' ⟨rfl, ⟨nd, rfl⟩⟩; refine ⟨_, rfl, ?_⟩) | (go_at_call 31; (with_reducible refine (cents_In.calls a0 false _ A6.out).mono ?_); rintro e w' ⟨rfl, ⟨nd, rfl⟩⟩))
        go_ret2
        exact ⟨by first | rfl | (simp [errW_none, errW_some] <;> rfl) | (simp [*, errW_none, errW_some] <;> rfl), by repeat (first | (with_reducible first | exact HB.out | apply below_alloc | apply pw_below_drewN | apply below_drew1) | exact HB.out)⟩
  · replace c4 := Bool.eq_false_iff.mpr c4
    subst c4
    have H1 : (some (0, 2)) = some (r1, r2) := by first | (rw [if_neg (show ¬ (false = true) by decide)] at H; exact H) | rfl
    clear H
    have H := H1
    clear H1
    simp only [Option.some.injEq, Prod.mk.injEq] at H
    obtain ⟨rfl, rfl⟩ := H
    go_enter Try.func40, Try.ntmps40
    go_wp2_with (first | ((with_reducible refine gate_callee (f := 103) rfl ?_); refine goesL_ (some 8) rfl rfl Try.func103 (by kernel_rfl) rfl #[.int .i64 a1] rfl (by (try simp only [List.map_toArray, List.map_cons, List.map_nil]); first | done | rfl | (simp only [List.length_drop, List.length_take]; rfl)) ?_; (with_reducible refine (fee_may.calls a1 false _ A3.out).mono ?_); rintro e w' ⟨rfl, ⟨nd, rfl⟩⟩; refine ⟨_, rfl, ?_⟩))
    go_ret2
    exact ⟨by first | rfl | (simp [errW_none, errW_some] <;> rfl) | (simp [*, errW_none, errW_some] <;> rfl), by repeat (first | (with_reducible first | exact HB.out | apply below_alloc | apply pw_below_drewN | apply below_drew1) | exact HB.out)⟩

end Go.Proofs.Ytefhljhpcpajgaa.F

namespace Go.Proofs.Ytefhljhpcpajgaa.F
open Go.RowKit Go.Proofs.YtefhljhpcpajgaaX Go.Proofs.YtefhljhpcpajgaaW.PrintWords Go.Proofs.YtefhljhpcpajgaaW.PrintLast Go.Proofs.YtefhljhpcpajgaaW.PrintMore
attribute [local go_sem] max2_int min2_int max_two min_two max_three min_three max_four min_four   -- for this text's walks alone
set_option linter.unusedVariables false
set_option linter.unusedSimpArgs false

/-! ### cents_Sub: function 27 -/
def cents_Sub.f (a0 : Int) (a1 : Int) : Option (Int × Int) := (cents_In.f a0).bind fun t105 => (if t105 = true then ((cents_In.f a1).bind fun t106 => (if t106 = true then ((cents_told.f (wrap64 (a0 - a1))).bind fun bt107 => (some (bt107.1, bt107.2))) else (some (0, 8)))) else (some (0, 8)))
set_option maxHeartbeats 8000000 in
set_option maxRecDepth 100000 in
theorem cents_Sub.calls (a0 : Int) (a1 : Int) (r1 : Int) (r2 : Int) (w : World) (h : cents_Sub.f a0 a1 = some (r1, r2)) :
    Calls Try.prog 27 #[.int .i64 a0, .int .i64 a1] w fun e w' => e = .returned (.tuple #[.int .i64 r1, .int .i64 r2]) ∧ Drawn0 w w' := by
  have H : ((cents_In.f a0).bind fun t105 => (if t105 = true then ((cents_In.f a1).bind fun t106 => (if t106 = true then ((cents_told.f (wrap64 (a0 - a1))).bind fun bt107 => (some (bt107.1, bt107.2))) else (some (0, 8)))) else (some (0, 8)))) = some (r1, r2) := h
  clear h
  replace H := Option.bind_eq_some_iff.mp H
  obtain ⟨t105, A30, H⟩ := H
  replace H : (if t105 = true then ((cents_In.f a1).bind fun t106 => (if t106 = true then ((cents_told.f (wrap64 (a0 - a1))).bind fun bt107 => (some (bt107.1, bt107.2))) else (some (0, 8)))) else (some (0, 8))) = some (r1, r2) := H
  have A3 := Aside0.mk A30
  clear A30
  by_cases c4 : t105 = true
  · subst c4
    have H1 : ((cents_In.f a1).bind fun t106 => (if t106 = true then ((cents_told.f (wrap64 (a0 - a1))).bind fun bt107 => (some (bt107.1, bt107.2))) else (some (0, 8)))) = some (r1, r2) := by first | (rw [if_pos rfl] at H; exact H) | rfl
    clear H
    have H := H1
    clear H1
    replace H := Option.bind_eq_some_iff.mp H
    obtain ⟨t106, A50, H⟩ := H
    replace H : (if t106 = true then ((cents_told.f (wrap64 (a0 - a1))).bind fun bt107 => (some (bt107.1, bt107.2))) else (some (0, 8))) = some (r1, r2) := H
    have A5 := Aside0.mk A50
    clear A50
    by_cases c6 : t106 = true
    · subst c6
      have H1 : ((cents_told.f (wrap64 (a0 - a1))).bind fun bt107 => (some (bt107.1, bt107.2))) = some (r1, r2) := by first | (rw [if_pos rfl] at H; exact H) | rfl
      clear H
      have H := H1
      clear H1
      replace H := Option.bind_eq_some_iff.mp H
      obtain ⟨⟨t107, t108⟩, A70, H⟩ := H
      replace H : (some (t107, t108)) = some (r1, r2) := H
      have A7 := Aside0.mk A70
      clear A70
      simp only [Option.some.injEq, Prod.mk.injEq] at H
      obtain ⟨rfl, rfl⟩ := H
      go_enter Try.func27, Try.ntmps27
      go_wp2_with (first | ((with_reducible refine gate_callee (f := 31) rfl ?_); refine goesL_ (some 7) rfl rfl Try.func31 (by kernel_rfl) rfl #[.int .i64 a0] rfl (by (try simp only [List.map_toArray, List.map_cons, List.map_nil]); first | done | rfl | (simp only [List.length_drop, List.length_take]; rfl)) ?_; (with_reducible refine (cents_In.calls a0 true _ A3.out).mono ?_); rintro e w' ⟨rfl, ⟨nd, rfl⟩⟩; refine ⟨_, rfl, ?_⟩) | (go_at_call 31; (with_reducible refine (cents_In.calls a1 true _ A5.out).mono ?_); rintro e w' ⟨rfl, ⟨nd, rfl⟩⟩) | ((with_reducible refine gate_callee (f := 96) rfl ?_); refine goesL_ (some 17) rfl rfl Try.func96 (by kernel_rfl) rfl #[.int .i64 (wrap64 (a0 - a1))] rfl (by (try simp only [List.map_toArray, List.map_cons, List.map_nil]); first | done | rfl | (simp only [List.length_drop, List.length_take]; rfl)) ?_; (with_reducible refine (cents_told.calls (wrap64 (a0 - a1)) t107 t108 _ A7.out).mono ?_); rintro e w' ⟨rfl, ⟨nd, rfl⟩⟩; refine ⟨_, rfl, ?_⟩))
      go_ret2
      exact ⟨by first | rfl | (simp; done) | (simp [*]; done), by repeat (first | exact Drawn0.refl _ | apply Drawn0.step)⟩
    · replace c6 := Bool.eq_false_iff.mpr c6
      subst c6
      have H1 : (some (0, 8)) = some (r1, r2) := by first | (rw [if_neg (show ¬ (false = true) by decide)] at H; exact H) | rfl
      clear H
      have H := H1
      clear H1
      simp only [Option.some.injEq, Prod.mk.injEq] at H
      obtain ⟨rfl, rfl⟩ := H
      go_enter Try.func27, Try.ntmps27
      go_wp2_with (first | ((with_reducible refine gate_callee (f := 31) rfl ?_); refine goesL_ (some 7) rfl rfl Try.func31 (by kernel_rfl) rfl #[.int .i64 a0] rfl (by (try simp only [List.map_toArray, List.map_cons, List.map_nil]); first | done | rfl | (simp only [List.length_drop, List.length_take]; rfl)) ?_; (with_reducible refine (cents_In.calls a0 true _ A3.out).mono ?_); rintro e w' ⟨rfl, ⟨nd, rfl⟩⟩; refine ⟨_, rfl, ?_⟩) | (go_at_call 31; (with_reducible refine (cents_In.calls a1 false _ A5.out).mono ?_); rintro e w' ⟨rfl, ⟨nd, rfl⟩⟩))
      go_ret2
      exact ⟨by first | rfl | (simp; done) | (simp [*]; done), by repeat (first | exact Drawn0.refl _ | apply Drawn0.step)⟩
  · replace c4 := Bool.eq_false_iff.mpr c4
    subst c4
    have H1 : (some (0, 8)) = some (r1, r2) := by first | (rw [if_neg (show ¬ (false = true) by decide)] at H; exact H) | rfl
    clear H
    have H := H1
    clear H1
    simp only [Option.some.injEq, Prod.mk.injEq] at H
    obtain ⟨rfl, rfl⟩ := H
    go_enter Try.func27, Try.ntmps27
    go_wp2_with (first | ((with_reducible refine gate_callee (f := 31) rfl ?_); refine goesL_ (some 7) rfl rfl Try.func31 (by kernel_rfl) rfl #[.int .i64 a0] rfl (by (try simp only [List.map_toArray, List.map_cons, List.map_nil]); first | done | rfl | (simp only [List.length_drop, List.length_take]; rfl)) ?_; (with_reducible refine (cents_In.calls a0 false _ A3.out).mono ?_); rintro e w' ⟨rfl, ⟨nd, rfl⟩⟩; refine ⟨_, rfl, ?_⟩))
    go_ret2
    exact ⟨by first | rfl | (simp; done) | (simp [*]; done), by repeat (first | exact Drawn0.refl _ | apply Drawn0.step)⟩

end Go.Proofs.Ytefhljhpcpajgaa.F

namespace Go.Proofs.Ytefhljhpcpajgaa.F
open Go.RowKit Go.Proofs.YtefhljhpcpajgaaX Go.Proofs.YtefhljhpcpajgaaW.PrintWords Go.Proofs.YtefhljhpcpajgaaW.PrintLast Go.Proofs.YtefhljhpcpajgaaW.PrintMore
attribute [local go_sem] max2_int min2_int max_two min_two max_three min_three max_four min_four   -- for this text's walks alone
set_option linter.unusedVariables false
set_option linter.unusedSimpArgs false

/-! ### fee_paid_less: function 104 -/
def fee_paid_less.f (k : Nat) (a0 : Int) (a1 : Int) : Option (Int × Int) := (fee_Of.f k a0 a1).bind fun bt257 => (if bt257.2 = 0 then ((cents_Sub.f a0 bt257.1).bind fun bt259 => (some (bt259.1, bt259.2))) else (some (0, bt257.2)))
theorem fee_paid_less.mono : ∀ a0 a1 k, LeO (fee_paid_less.f k a0 a1) (fee_paid_less.f (k + 1) a0 a1) := by
  intro a0 a1 k
  unfold fee_paid_less.f
  repeat' first
      | (with_reducible exact fee_Of.mono _ _ _)
      | (with_reducible exact LeO.refl _)
      | (with_reducible exact LeO.none _)
      | (with_reducible refine LeO.ite ?_ ?_)
      | (with_reducible refine LeO.bind ?_ (fun _ => ?_))
      | exact fee_Of.mono _ _ _
      | exact LeO.none _
      | refine LeO.ite ?_ ?_
      | refine LeO.bind ?_ (fun _ => ?_)
set_option maxHeartbeats 8000000 in
set_option maxRecDepth 100000 in
theorem fee_paid_less.calls (k : Nat) (a0 : Int) (a1 : Int) (r1 : Int) (r2 : Int) (w : World) (h : fee_paid_less.f k a0 a1 = some (r1, r2)) :
    Calls Try.prog 104 #[.int .i64 a0, .int .i64 a1] w fun e w' => e = .returned (.tuple #[.int .i64 r1, .int .i64 r2]) ∧ Below w.heap.size w w' := by
  have HB := Aside0.mk (Below.refl w.heap.size w)
  have H : ((fee_Of.f k a0 a1).bind fun bt257 => (if bt257.2 = 0 then ((cents_Sub.f a0 bt257.1).bind fun bt259 => (some (bt259.1, bt259.2))) else (some (0, bt257.2)))) = some (r1, r2) := h
  clear h
  replace H := Option.bind_eq_some_iff.mp H
  obtain ⟨⟨t257, t258⟩, A30, H⟩ := H
  replace H : (if t258 = 0 then ((cents_Sub.f a0 t257).bind fun bt259 => (some (bt259.1, bt259.2))) else (some (0, t258))) = some (r1, r2) := H
  have A3 := Aside0.mk A30
  clear A30
  by_cases c4 : t258 = 0
  · rw [if_pos c4] at H
    have c4b0 : (t258 == 0) = true := beq_iff_eq.mpr c4
    have c4b1 : (t258 != 0) = false := bne_eq_false_iff_eq.mpr c4
    clear c4
    replace H := Option.bind_eq_some_iff.mp H
    obtain ⟨⟨t259, t260⟩, A50, H⟩ := H
    replace H : (some (t259, t260)) = some (r1, r2) := H
    have A5 := Aside0.mk A50
    clear A50
    simp only [Option.some.injEq, Prod.mk.injEq] at H
    obtain ⟨rfl, rfl⟩ := H
    go_enter Try.func104, Try.ntmps104
    go_wp2_with (first | ((with_reducible refine gate_callee (f := 40) rfl ?_); refine goesL_ (some 11) rfl rfl Try.func40 (by kernel_rfl) rfl #[.int .i64 a0, .int .i64 a1] rfl (by (try simp only [List.map_toArray, List.map_cons, List.map_nil]); first | done | rfl | (simp only [List.length_drop, List.length_take]; rfl)) ?_; (with_reducible refine (fee_Of.calls k a0 a1 t257 t258 _ A3.out).mono ?_); rintro e w6 ⟨rfl, hb⟩; refine ⟨_, rfl, ?_⟩; have n0_ := Aside0.mk (below_step (by repeat (first | (with_reducible first | exact HB.out | apply below_alloc | apply pw_below_drewN | apply below_drew1) | exact HB.out)) hb); clear HB; have HB := n0_; clear n0_; (try clear hb); (try clear hb2); (try clear hk); (try clear hi)) | ((with_reducible refine gate_callee (f := 27) rfl ?_); refine goesL_ (some 19) rfl rfl Try.func27 (by kernel_rfl) rfl #[.int .i64 a0, .int .i64 t257] rfl (by (try simp only [List.map_toArray, List.map_cons, List.map_nil]); first | done | rfl | (simp only [List.length_drop, List.length_take]; rfl)) ?_; (with_reducible refine (cents_Sub.calls a0 t257 t259 t260 _ A5.out).mono ?_); rintro e w' ⟨rfl, ⟨nd, rfl⟩⟩; refine ⟨_, rfl, ?_⟩))
    go_ret2
    exact ⟨by first | rfl | (simp [errW_none, errW_some] <;> rfl) | (simp [*, errW_none, errW_some] <;> rfl), by repeat (first | (with_reducible first | exact HB.out | apply below_alloc | apply pw_below_drewN | apply below_drew1) | exact HB.out)⟩
  · rw [if_neg c4] at H
    have c4b0 : (t258 == 0) = false := beq_eq_false_iff_ne.mpr c4
    have c4b1 : (t258 != 0) = true := bne_iff_ne.mpr c4
    simp only [Option.some.injEq, Prod.mk.injEq] at H
    obtain ⟨rfl, rfl⟩ := H
    go_enter Try.func104, Try.ntmps104
    go_wp2_with (first | ((with_reducible refine gate_callee (f := 40) rfl ?_); refine goesL_ (some 11) rfl rfl Try.func40 (by kernel_rfl) rfl #[.int .i64 a0, .int .i64 a1] rfl (by (try simp only [List.map_toArray, List.map_cons, List.map_nil]); first | done | rfl | (simp only [List.length_drop, List.length_take]; rfl)) ?_; (with_reducible refine (fee_Of.calls k a0 a1 t257 t258 _ A3.out).mono ?_); rintro e w7 ⟨rfl, hb⟩; refine ⟨_, rfl, ?_⟩; have n0_ := Aside0.mk (below_step (by repeat (first | (with_reducible first | exact HB.out | apply below_alloc | apply pw_below_drewN | apply below_drew1) | exact HB.out)) hb); clear HB; have HB := n0_; clear n0_; (try clear hb); (try clear hb2); (try clear hk); (try clear hi)))
    go_ret2
    exact ⟨by first | rfl | (simp [errW_none, errW_some] <;> rfl) | (simp [*, errW_none, errW_some] <;> rfl), by repeat (first | (with_reducible first | exact HB.out | apply below_alloc | apply pw_below_drewN | apply below_drew1) | exact HB.out)⟩

end Go.Proofs.Ytefhljhpcpajgaa.F

namespace Go.Proofs.Ytefhljhpcpajgaa.F
open Go.RowKit Go.Proofs.YtefhljhpcpajgaaX Go.Proofs.YtefhljhpcpajgaaW.PrintWords Go.Proofs.YtefhljhpcpajgaaW.PrintLast Go.Proofs.YtefhljhpcpajgaaW.PrintMore
attribute [local go_sem] max2_int min2_int max_two min_two max_three min_three max_four min_four   -- for this text's walks alone
set_option linter.unusedVariables false
set_option linter.unusedSimpArgs false

/-! ### fee_Less: function 42 -/
def fee_Less.f (k : Nat) (a0 : Int) (a1 : Int) : Option (Int × Int) := (fee_paid_less.f k a0 a1).bind fun bt261 => (some (bt261.1, bt261.2))
theorem fee_Less.mono : ∀ a0 a1 k, LeO (fee_Less.f k a0 a1) (fee_Less.f (k + 1) a0 a1) := by
  intro a0 a1 k
  unfold fee_Less.f
  repeat' first
      | (with_reducible exact fee_paid_less.mono _ _ _)
      | (with_reducible exact LeO.refl _)
      | (with_reducible exact LeO.none _)
      | (with_reducible refine LeO.ite ?_ ?_)
      | (with_reducible refine LeO.bind ?_ (fun _ => ?_))
      | exact fee_paid_less.mono _ _ _
      | exact LeO.none _
      | refine LeO.ite ?_ ?_
      | refine LeO.bind ?_ (fun _ => ?_)
set_option maxHeartbeats 8000000 in
set_option maxRecDepth 100000 in
theorem fee_Less.calls (k : Nat) (a0 : Int) (a1 : Int) (r1 : Int) (r2 : Int) (w : World) (h : fee_Less.f k a0 a1 = some (r1, r2)) :
    Calls Try.prog 42 #[.int .i64 a0, .int .i64 a1] w fun e w' => e = .returned (.tuple #[.int .i64 r1, .int .i64 r2]) ∧ Below w.heap.size w w' := by
  have HB := Aside0.mk (Below.refl w.heap.size w)
  have H : ((fee_paid_less.f k a0 a1).bind fun bt261 => (some (bt261.1, bt261.2))) = some (r1, r2) := h
  clear h
  replace H := Option.bind_eq_some_iff.mp H
  obtain ⟨⟨t261, t262⟩, A30, H⟩ := H
  replace H : (some (t261, t262)) = some (r1, r2) := H
  have A3 := Aside0.mk A30
  clear A30
  simp only [Option.some.injEq, Prod.mk.injEq] at H
  obtain ⟨rfl, rfl⟩ := H
  go_enter Try.func42, Try.ntmps42
  go_wp2_with (first | ((with_reducible refine gate_callee (f := 104) rfl ?_); refine goesL_ (some 8) rfl rfl Try.func104 (by kernel_rfl) rfl #[.int .i64 a0, .int .i64 a1] rfl (by (try simp only [List.map_toArray, List.map_cons, List.map_nil]); first | done | rfl | (simp only [List.length_drop, List.length_take]; rfl)) ?_; (with_reducible refine (fee_paid_less.calls k a0 a1 t261 t262 _ A3.out).mono ?_); rintro e w4 ⟨rfl, hb⟩; refine ⟨_, rfl, ?_⟩; have n0_ := Aside0.mk (below_step (by repeat (first | (with_reducible first | exact HB.out | apply below_alloc | apply pw_below_drewN | apply below_drew1) | exact HB.out)) hb); clear HB; have HB := n0_; clear n0_; (try clear hb); (try clear hb2); (try clear hk); (try clear hi)))
  go_ret2
  exact ⟨by first | rfl | (simp [errW_none, errW_some] <;> rfl) | (simp [*, errW_none, errW_some] <;> rfl), by repeat (first | (with_reducible first | exact HB.out | apply below_alloc | apply pw_below_drewN | apply below_drew1) | exact HB.out)⟩

end Go.Proofs.Ytefhljhpcpajgaa.F

namespace Go.Proofs.Ytefhljhpcpajgaa.F
open Go.RowKit Go.Proofs.YtefhljhpcpajgaaX Go.Proofs.YtefhljhpcpajgaaW.PrintWords Go.Proofs.YtefhljhpcpajgaaW.PrintLast Go.Proofs.YtefhljhpcpajgaaW.PrintMore
attribute [local go_sem] max2_int min2_int max_two min_two max_three min_three max_four min_four   -- for this text's walks alone
set_option linter.unusedVariables false
set_option linter.unusedSimpArgs false

/-! ### fee_Check: function 48 -/
def fee_Check.l0 : Nat → Int → List Int → Int → Int → Option (Int)
  | 0, _, _, _, _ => none
  | k + 1, x3, x9, x10, x11 => if x11 < x10 then (if 0 ≤ x11 then (if x11 < (x9.length : Int) then ((fee_may.f (rd x9 x11)).bind fun t264 => (if t264 = true then (if (rd x9 x11) < x3 then (some 36) else (fee_Check.l0 k (rd x9 x11) x9 x10 (wrap64 (x11 + 1)))) else (some 36))) else (none)) else (none)) else (some 0)
def fee_Check.f (k : Nat) (l0 : List Int) : Option (Int) := if (l0.length : Int) = 4 then (fee_Check.l0 k 0 l0 (l0.length : Int) 0) else (some 36)
theorem fee_Check.mono_l : ∀ k, (∀ y0 y1 y2 y3, LeO (fee_Check.l0 k y0 y1 y2 y3) (fee_Check.l0 (k + 1) y0 y1 y2 y3))
  | 0 => fun _ _ _ _ r h => by simp [fee_Check.l0] at h
  | k + 1 => by
    have ih0 := fee_Check.mono_l k
    · intro y0 y1 y2 y3
      unfold fee_Check.l0
      repeat' first
      | (with_reducible exact ih0 _ _ _ _)
      | (with_reducible exact LeO.refl _)
      | (with_reducible exact LeO.none _)
      | (with_reducible refine LeO.ite ?_ ?_)
      | (with_reducible refine LeO.bind ?_ (fun _ => ?_))
      | exact ih0 _ _ _ _
      | exact LeO.none _
      | refine LeO.ite ?_ ?_
      | refine LeO.bind ?_ (fun _ => ?_)
theorem fee_Check.mono : ∀ a0 k, LeO (fee_Check.f k a0) (fee_Check.f (k + 1) a0) := by
  intro a0 k
  have ih0 := fee_Check.mono_l k
  unfold fee_Check.f
  repeat' first
      | (with_reducible exact ih0 _ _ _ _)
      | (with_reducible exact LeO.refl _)
      | (with_reducible exact LeO.none _)
      | (with_reducible refine LeO.ite ?_ ?_)
      | (with_reducible refine LeO.bind ?_ (fun _ => ?_))
      | exact ih0 _ _ _ _
      | exact LeO.none _
      | refine LeO.ite ?_ ?_
      | refine LeO.bind ?_ (fun _ => ?_)
set_option maxHeartbeats 8000000 in
set_option maxRecDepth 100000 in
theorem fee_Check.calls (k : Nat) (A0 : Option Addr) (c0 : Nat) (l0 : List Int) (r : Int) (w : World) (hr0 : Kd.C (Kd.int .i64) w A0 l0.length l0) (hc0 : l0.length ≤ c0) (h : fee_Check.f k l0 = some r) :
    Calls Try.prog 48 #[.slice A0 l0.length c0] w fun e w' => e = .returned (.int .i64 r) ∧ Drawn0 w w' := by
  have HR0 := Aside0.mk hr0
  have HC0 := Aside0.mk hc0
  clear hr0 hc0
  have H : (if (l0.length : Int) = 4 then (fee_Check.l0 k 0 l0 (l0.length : Int) 0) else (some 36)) = some r := h
  clear h
  by_cases c2 : (l0.length : Int) = 4
  · rw [if_pos c2] at H
    have c2b0 : ((l0.length : Int) == 4) = true := beq_iff_eq.mpr c2
    have c2b1 : ((l0.length : Int) != 4) = false := bne_eq_false_iff_eq.mpr c2
    clear c2
    have H' := Aside0.mk H
    clear H
    go_enter Try.func48, Try.ntmps48
    go_wp2
    go_loopg [3, 11] k (fun kq v3 v11 w' => ∃ (x3_1 : Int) (x11_1 : Int), v3 = .int .i64 x3_1 ∧ v11 = .int .i64 x11_1 ∧ Aside0 (fee_Check.l0 kq x3_1 l0 (l0.length : Int) x11_1 = some r) ∧ Aside0 (kq ≤ k) ∧ Drawn0 w w')
    case atStart => exact ⟨(0), (0), (by first | rfl | (simp; done) | (simp [*]; done)), (by first | rfl | (simp; done) | (simp [*]; done)), H', ⟨Nat.le_refl _⟩, by repeat (first | exact Drawn0.refl _ | apply Drawn0.step)⟩
    case round =>
      clear H'
      try clear c2
      try clear c2b0
      try clear c2b1
      try clear p2
      obtain ⟨x3_1, x11_1, rfl, rfl, HA, HK1, ⟨m1, rfl⟩⟩ := hrel
      cases gk with
      | zero => exact absurd HA.out (by simp [fee_Check.l0])
      | succ k1 =>
        have H := HA.out
        clear HA
        simp only [fee_Check.l0] at H
        by_cases c3 : x11_1 < (l0.length : Int)
        · rw [if_pos c3] at H
          have c3b0 : decide (x11_1 < (l0.length : Int)) = true := decide_eq_true c3
          clear c3
          by_cases c4 : 0 ≤ x11_1
          · rw [if_pos c4] at H
            have c4b0 : decide (0 ≤ x11_1) = true := decide_eq_true c4
            clear c4
            by_cases c5 : x11_1 < (l0.length : Int)
            · rw [if_pos c5] at H
              have c5b0 : decide (x11_1 < (l0.length : Int)) = true := decide_eq_true c5
              clear c5
              replace H := Option.bind_eq_some_iff.mp H
              obtain ⟨t264, A60, H⟩ := H
              replace H : (if t264 = true then (if (rd l0 x11_1) < x3_1 then (some 36) else (fee_Check.l0 k1 (rd l0 x11_1) l0 (l0.length : Int) (wrap64 (x11_1 + 1)))) else (some 36)) = some r := H
              have A6 := Aside0.mk A60
              clear A60
              by_cases c7 : t264 = true
              · subst c7
                have H1 : (if (rd l0 x11_1) < x3_1 then (some 36) else (fee_Check.l0 k1 (rd l0 x11_1) l0 (l0.length : Int) (wrap64 (x11_1 + 1)))) = some r := by first | (rw [if_pos rfl] at H; exact H) | rfl
                clear H
                have H := H1
                clear H1
                by_cases c8 : (rd l0 x11_1) < x3_1
                · rw [if_pos c8] at H
                  have c8b0 : decide ((rd l0 x11_1) < x3_1) = true := decide_eq_true c8
                  clear c8
                  obtain rfl := Option.some.inj H
                  have p263 : 0 ≤ (x11_1 : Int) := of_decide_eq_true (by first | (with_reducible assumption) | assumption)
                  have q263 : x11_1 < (l0.length : Int) := of_decide_eq_true (by first | (with_reducible assumption) | assumption)
                  obtain ⟨ad263, e263, hx263_0⟩ := Kd.at_int HR0.out x11_1 p263 q263
                  cases e263
                  replace p263 := eq_true p263
                  replace q263 := eq_true q263
                  go_wp2_with (first | ((with_reducible refine gate_callee (f := 103) rfl ?_); refine goesL_ (some 16) rfl rfl Try.func103 (by kernel_rfl) rfl #[.int .i64 (rd l0 x11_1)] rfl (by (try simp only [List.map_toArray, List.map_cons, List.map_nil]); first | done | rfl | (simp only [List.length_drop, List.length_take]; rfl)) ?_; (with_reducible refine (fee_may.calls (rd l0 x11_1) true _ A6.out).mono ?_); rintro e w' ⟨rfl, ⟨nd, rfl⟩⟩; refine ⟨_, rfl, ?_⟩))
                  go_ret
                  exact ⟨by first | rfl | (simp; done) | (simp [*]; done), by repeat (first | exact Drawn0.refl _ | apply Drawn0.step)⟩
                · rw [if_neg c8] at H
                  have c8b0 : decide ((rd l0 x11_1) < x3_1) = false := decide_eq_false c8
                  clear c8
                  have H' := Aside0.mk H
                  clear H
                  have p263 : 0 ≤ (x11_1 : Int) := of_decide_eq_true (by first | (with_reducible assumption) | assumption)
                  have q263 : x11_1 < (l0.length : Int) := of_decide_eq_true (by first | (with_reducible assumption) | assumption)
                  obtain ⟨ad263, e263, hx263_0⟩ := Kd.at_int HR0.out x11_1 p263 q263
                  cases e263
                  replace p263 := eq_true p263
                  replace q263 := eq_true q263
                  go_wp2_with (first | ((with_reducible refine gate_callee (f := 103) rfl ?_); refine goesL_ (some 16) rfl rfl Try.func103 (by kernel_rfl) rfl #[.int .i64 (rd l0 x11_1)] rfl (by (try simp only [List.map_toArray, List.map_cons, List.map_nil]); first | done | rfl | (simp only [List.length_drop, List.length_take]; rfl)) ?_; (with_reducible refine (fee_may.calls (rd l0 x11_1) true _ A6.out).mono ?_); rintro e w' ⟨rfl, ⟨nd, rfl⟩⟩; refine ⟨_, rfl, ?_⟩))
                  go_roundg k1
                  case measure => have := HK1.out; omega
                  case rel => exact ⟨(rd l0 x11_1), (wrap64 (x11_1 + 1)), (by first | rfl | (simp; done) | (simp [*]; done)), (by first | rfl | (simp; done) | (simp [*]; done)), H', ⟨by have := HK1.out; omega⟩, by repeat (first | exact Drawn0.refl _ | apply Drawn0.step)⟩
              · replace c7 := Bool.eq_false_iff.mpr c7
                subst c7
                have H1 : (some 36) = some r := by first | (rw [if_neg (show ¬ (false = true) by decide)] at H; exact H) | rfl
                clear H
                have H := H1
                clear H1
                obtain rfl := Option.some.inj H
                have p263 : 0 ≤ (x11_1 : Int) := of_decide_eq_true (by first | (with_reducible assumption) | assumption)
                have q263 : x11_1 < (l0.length : Int) := of_decide_eq_true (by first | (with_reducible assumption) | assumption)
                obtain ⟨ad263, e263, hx263_0⟩ := Kd.at_int HR0.out x11_1 p263 q263
                cases e263
                replace p263 := eq_true p263
                replace q263 := eq_true q263
                go_wp2_with (first | ((with_reducible refine gate_callee (f := 103) rfl ?_); refine goesL_ (some 16) rfl rfl Try.func103 (by kernel_rfl) rfl #[.int .i64 (rd l0 x11_1)] rfl (by (try simp only [List.map_toArray, List.map_cons, List.map_nil]); first | done | rfl | (simp only [List.length_drop, List.length_take]; rfl)) ?_; (with_reducible refine (fee_may.calls (rd l0 x11_1) false _ A6.out).mono ?_); rintro e w' ⟨rfl, ⟨nd, rfl⟩⟩; refine ⟨_, rfl, ?_⟩))
                go_ret
                exact ⟨by first | rfl | (simp; done) | (simp [*]; done), by repeat (first | exact Drawn0.refl _ | apply Drawn0.step)⟩
            · rw [if_neg c5] at H
              exact absurd H (by simp)
          · rw [if_neg c4] at H
            exact absurd H (by simp)
        · rw [if_neg c3] at H
          have c3b0 : decide (x11_1 < (l0.length : Int)) = false := decide_eq_false c3
          clear c3
          obtain rfl := Option.some.inj H
          go_wp2
          go_ret
          exact ⟨by first | rfl | (simp; done) | (simp [*]; done), by repeat (first | exact Drawn0.refl _ | apply Drawn0.step)⟩
  · rw [if_neg c2] at H
    have c2b0 : ((l0.length : Int) == 4) = false := beq_eq_false_iff_ne.mpr c2
    have c2b1 : ((l0.length : Int) != 4) = true := bne_iff_ne.mpr c2
    obtain rfl := Option.some.inj H
    go_enter Try.func48, Try.ntmps48
    go_wp2
    go_ret
    exact ⟨by first | rfl | (simp; done) | (simp [*]; done), by repeat (first | exact Drawn0.refl _ | apply Drawn0.step)⟩

end Go.Proofs.Ytefhljhpcpajgaa.F

namespace Go.Proofs.Ytefhljhpcpajgaa.F
open Go.RowKit Go.Proofs.YtefhljhpcpajgaaX Go.Proofs.YtefhljhpcpajgaaW.PrintWords Go.Proofs.YtefhljhpcpajgaaW.PrintLast Go.Proofs.YtefhljhpcpajgaaW.PrintMore
attribute [local go_sem] max2_int min2_int max_two min_two max_three min_three max_four min_four   -- for this text's walks alone
set_option linter.unusedVariables false
set_option linter.unusedSimpArgs false

/-! ### fee_Grade: function 44 -/
def fee_Grade.f (k : Nat) (a0 : Int) (l1 : List Int) (a2 : Int) : Option (Int × Int) := (fee_Check.f k l1).bind fun t265 => (if t265 = 0 then (if a2 < 0 then (some (0, 2)) else (if a2 ≥ 4 then (some (0, 2)) else (if 0 ≤ a2 then (if a2 < (l1.length : Int) then ((fee_Less.f k a0 (rd l1 a2)).bind fun bt267 => (some (bt267.1, bt267.2))) else (none)) else (none)))) else (some (0, t265)))
theorem fee_Grade.mono : ∀ a0 a1 a2 k, LeO (fee_Grade.f k a0 a1 a2) (fee_Grade.f (k + 1) a0 a1 a2) := by
  intro a0 a1 a2 k
  unfold fee_Grade.f
  repeat' first
      | (with_reducible exact fee_Check.mono _ _)
      | (with_reducible exact fee_Less.mono _ _ _)
      | (with_reducible exact LeO.refl _)
      | (with_reducible exact LeO.none _)
      | (with_reducible refine LeO.ite ?_ ?_)
      | (with_reducible refine LeO.bind ?_ (fun _ => ?_))
      | exact fee_Check.mono _ _
      | exact fee_Less.mono _ _ _
      | exact LeO.none _
      | refine LeO.ite ?_ ?_
      | refine LeO.bind ?_ (fun _ => ?_)
set_option maxHeartbeats 8000000 in
set_option maxRecDepth 100000 in
theorem fee_Grade.calls (k : Nat) (a0 : Int) (A1 : Option Addr) (c1 : Nat) (l1 : List Int) (a2 : Int) (r1 : Int) (r2 : Int) (w : World) (hr1 : Kd.C (Kd.int .i64) w A1 l1.length l1) (hc1 : l1.length ≤ c1) (h : fee_Grade.f k a0 l1 a2 = some (r1, r2)) :
    Calls Try.prog 44 #[.int .i64 a0, .slice A1 l1.length c1, .int .i64 a2] w fun e w' => e = .returned (.tuple #[.int .i64 r1, .int .i64 r2]) ∧ Below w.heap.size w w' := by
  have HR1 := Aside0.mk hr1
  have HC1 := Aside0.mk hc1
  clear hr1 hc1
  have HB := Aside0.mk (Below.refl w.heap.size w)
  have H : ((fee_Check.f k l1).bind fun t265 => (if t265 = 0 then (if a2 < 0 then (some (0, 2)) else (if a2 ≥ 4 then (some (0, 2)) else (if 0 ≤ a2 then (if a2 < (l1.length : Int) then ((fee_Less.f k a0 (rd l1 a2)).bind fun bt267 => (some (bt267.1, bt267.2))) else (none)) else (none)))) else (some (0, t265)))) = some (r1, r2) := h
  clear h
  replace H := Option.bind_eq_some_iff.mp H
  obtain ⟨t265, A40, H⟩ := H
  replace H : (if t265 = 0 then (if a2 < 0 then (some (0, 2)) else (if a2 ≥ 4 then (some (0, 2)) else (if 0 ≤ a2 then (if a2 < (l1.length : Int) then ((fee_Less.f k a0 (rd l1 a2)).bind fun bt267 => (some (bt267.1, bt267.2))) else (none)) else (none)))) else (some (0, t265))) = some (r1, r2) := H
  have A4 := Aside0.mk A40
  clear A40
  by_cases c5 : t265 = 0
  · rw [if_pos c5] at H
    have c5b0 : (t265 == 0) = true := beq_iff_eq.mpr c5
    have c5b1 : (t265 != 0) = false := bne_eq_false_iff_eq.mpr c5
    clear c5
    by_cases c6 : a2 < 0
    · rw [if_pos c6] at H
      have c6b0 : decide (a2 < 0) = true := decide_eq_true c6
      clear c6
      simp only [Option.some.injEq, Prod.mk.injEq] at H
      obtain ⟨rfl, rfl⟩ := H
      go_enter Try.func44, Try.ntmps44
      go_wp2_with (first | ((with_reducible refine gate_callee (f := 48) rfl ?_); refine goesL_ (some 10) rfl rfl Try.func48 (by kernel_rfl) rfl #[.slice A1 l1.length c1] rfl (by (try simp only [List.map_toArray, List.map_cons, List.map_nil]); first | done | rfl | (simp only [List.length_drop, List.length_take]; rfl)) ?_; (with_reducible refine (fee_Check.calls k _ _ l1 t265 _ ?side1 ?side2 A4.out).mono ?_); (case side1 => repeat (first | exact HR1.out | (with_reducible refine Kd.C_alloc ?_ _) | (with_reducible refine Kd.C_drewN ?_ _) | (with_reducible refine Kd.C_drew ?_))); (case side2 => exact HC1.out); rintro e w' ⟨rfl, ⟨nd, rfl⟩⟩; refine ⟨_, rfl, ?_⟩))
      go_ret2
      exact ⟨by first | rfl | (simp [errW_none, errW_some] <;> rfl) | (simp [*, errW_none, errW_some] <;> rfl), by repeat (first | (with_reducible first | exact HB.out | apply below_alloc | apply pw_below_drewN | apply below_drew1) | exact HB.out)⟩
    · rw [if_neg c6] at H
      have c6b0 : decide (a2 < 0) = false := decide_eq_false c6
      clear c6
      by_cases c7 : a2 ≥ 4
      · rw [if_pos c7] at H
        have c7b0 : decide (4 ≤ a2) = true := decide_eq_true c7
        clear c7
        simp only [Option.some.injEq, Prod.mk.injEq] at H
        obtain ⟨rfl, rfl⟩ := H
        go_enter Try.func44, Try.ntmps44
        go_wp2_with (first | ((with_reducible refine gate_callee (f := 48) rfl ?_); refine goesL_ (some 10) rfl rfl Try.func48 (by kernel_rfl) rfl #[.slice A1 l1.length c1] rfl (by (try simp only [List.map_toArray, List.map_cons, List.map_nil]); first | done | rfl | (simp only [List.length_drop, List.length_take]; rfl)) ?_; (with_reducible refine (fee_Check.calls k _ _ l1 t265 _ ?side1 ?side2 A4.out).mono ?_); (case side1 => repeat (first | exact HR1.out | (with_reducible refine Kd.C_alloc ?_ _) | (with_reducible refine Kd.C_drewN ?_ _) | (with_reducible refine Kd.C_drew ?_))); (case side2 => exact HC1.out); rintro e w' ⟨rfl, ⟨nd, rfl⟩⟩; refine ⟨_, rfl, ?_⟩))
        go_ret2
        exact ⟨by first | rfl | (simp [errW_none, errW_some] <;> rfl) | (simp [*, errW_none, errW_some] <;> rfl), by repeat (first | (with_reducible first | exact HB.out | apply below_alloc | apply pw_below_drewN | apply below_drew1) | exact HB.out)⟩
      · rw [if_neg c7] at H
        have c7b0 : decide (4 ≤ a2) = false := decide_eq_false c7
        clear c7
        by_cases c8 : 0 ≤ a2
        · rw [if_pos c8] at H
          have c8b0 : decide (0 ≤ a2) = true := decide_eq_true c8
          clear c8
          by_cases c9 : a2 < (l1.length : Int)
          · rw [if_pos c9] at H
            have c9b0 : decide (a2 < (l1.length : Int)) = true := decide_eq_true c9
            clear c9
            replace H := Option.bind_eq_some_iff.mp H
            obtain ⟨⟨t267, t268⟩, A100, H⟩ := H
            replace H : (some (t267, t268)) = some (r1, r2) := H
            have A10 := Aside0.mk A100
            clear A100
            simp only [Option.some.injEq, Prod.mk.injEq] at H
            obtain ⟨rfl, rfl⟩ := H
            go_enter Try.func44, Try.ntmps44
            go_wp2_with (first | ((with_reducible refine gate_callee (f := 48) rfl ?_); refine goesL_ (some 10) rfl rfl Try.func48 (by kernel_rfl) rfl #[.slice A1 l1.length c1] rfl (by (try simp only [List.map_toArray, List.map_cons, List.map_nil]); first | done | rfl | (simp only [List.length_drop, List.length_take]; rfl)) ?_; (with_reducible refine (fee_Check.calls k _ _ l1 t265 _ ?side1 ?side2 A4.out).mono ?_); (case side1 => repeat (first | exact HR1.out | (with_reducible refine Kd.C_alloc ?_ _) | (with_reducible refine Kd.C_drewN ?_ _) | (with_reducible refine Kd.C_drew ?_))); (case side2 => exact HC1.out); rintro e w' ⟨rfl, ⟨nd, rfl⟩⟩; refine ⟨_, rfl, ?_⟩; have p266 : 0 ≤ (a2 : Int) := of_decide_eq_true (by first | (with_reducible assumption) | assumption); have q266 : a2 < (l1.length : Int) := of_decide_eq_true (by first | (with_reducible assumption) | assumption); obtain ⟨ad266, e266, hx266_0⟩ := Kd.at_int HR1.out a2 p266 q266; cases e266; replace p266 := eq_true p266; replace q266 := eq_true q266) | ((with_reducible refine gate_callee (f := 42) rfl ?_); refine goesL_ (some 25) rfl rfl Try.func42 (by kernel_rfl) rfl #[.int .i64 a0, .int .i64 (rd l1 a2)] rfl (by (try simp only [List.map_toArray, List.map_cons, List.map_nil]); first | done | rfl | (simp only [List.length_drop, List.length_take]; rfl)) ?_; (with_reducible refine (fee_Less.calls k a0 (rd l1 a2) t267 t268 _ A10.out).mono ?_); rintro e w11 ⟨rfl, hb⟩; refine ⟨_, rfl, ?_⟩; have n0_ := Aside0.mk (below_step (by repeat (first | (with_reducible first | exact HB.out | apply below_alloc | apply pw_below_drewN | apply below_drew1) | exact HB.out)) hb); clear HB; have HB := n0_; clear n0_; (try clear hb); (try clear hb2); (try clear hk); (try clear hi)))
            go_ret2
            exact ⟨by first | rfl | (simp [errW_none, errW_some] <;> rfl) | (simp [*, errW_none, errW_some] <;> rfl), by repeat (first | (with_reducible first | exact HB.out | apply below_alloc | apply pw_below_drewN | apply below_drew1) | exact HB.out)⟩
          · rw [if_neg c9] at H
            exact absurd H (by simp)
        · rw [if_neg c8] at H
          exact absurd H (by simp)
  · rw [if_neg c5] at H
    have c5b0 : (t265 == 0) = false := beq_eq_false_iff_ne.mpr c5
    have c5b1 : (t265 != 0) = true := bne_iff_ne.mpr c5
    simp only [Option.some.injEq, Prod.mk.injEq] at H
    obtain ⟨rfl, rfl⟩ := H
    go_enter Try.func44, Try.ntmps44
    go_wp2_with (first | ((with_reducible refine gate_callee (f := 48) rfl ?_); refine goesL_ (some 10) rfl rfl Try.func48 (by kernel_rfl) rfl #[.slice A1 l1.length c1] rfl (by (try simp only [List.map_toArray, List.map_cons, List.map_nil]); first | done | rfl | (simp only [List.length_drop, List.length_take]; rfl)) ?_; (with_reducible refine (fee_Check.calls k _ _ l1 t265 _ ?side1 ?side2 A4.out).mono ?_); (case side1 => repeat (first | exact HR1.out | (with_reducible refine Kd.C_alloc ?_ _) | (with_reducible refine Kd.C_drewN ?_ _) | (with_reducible refine Kd.C_drew ?_))); (case side2 => exact HC1.out); rintro e w' ⟨rfl, ⟨nd, rfl⟩⟩; refine ⟨_, rfl, ?_⟩))
    go_ret2
    exact ⟨by first | rfl | (simp [errW_none, errW_some] <;> rfl) | (simp [*, errW_none, errW_some] <;> rfl), by repeat (first | (with_reducible first | exact HB.out | apply below_alloc | apply pw_below_drewN | apply below_drew1) | exact HB.out)⟩

end Go.Proofs.Ytefhljhpcpajgaa.F

namespace Go.Proofs.Ytefhljhpcpajgaa.F
open Go.RowKit Go.Proofs.YtefhljhpcpajgaaX Go.Proofs.YtefhljhpcpajgaaW.PrintWords Go.Proofs.YtefhljhpcpajgaaW.PrintLast Go.Proofs.YtefhljhpcpajgaaW.PrintMore
attribute [local go_sem] max2_int min2_int max_two min_two max_three min_three max_four min_four   -- for this text's walks alone
set_option linter.unusedVariables false
set_option linter.unusedSimpArgs false

/-! ### fee_All: function 46 (by hand) -/
def fee_All.step (k : Nat) (a0 x : Int) (c : Int → Option (Int × Int × Int × Int × Int)) : Option (Int × Int × Int × Int × Int) := (fee_paid_less.f k a0 x).bind fun p => if p.2 = 0 then c p.1 else some (0, 0, 0, 0, p.2)
def fee_All.rem (k : Nat) (a0 : Int) (l : List Int) : Nat → Int → Int → Int → Int → Option (Int × Int × Int × Int × Int)
  | 0, _, _, _, _ => fee_All.step k a0 (rd l 0) fun x0 => fee_All.step k a0 (rd l 1) fun x1 => fee_All.step k a0 (rd l 2) fun x2 => fee_All.step k a0 (rd l 3) fun x3 => some (x0, x1, x2, x3, 0)
  | 1, x0, _, _, _ => fee_All.step k a0 (rd l 1) fun x1 => fee_All.step k a0 (rd l 2) fun x2 => fee_All.step k a0 (rd l 3) fun x3 => some (x0, x1, x2, x3, 0)
  | 2, x0, x1, _, _ => fee_All.step k a0 (rd l 2) fun x2 => fee_All.step k a0 (rd l 3) fun x3 => some (x0, x1, x2, x3, 0)
  | 3, x0, x1, x2, _ => fee_All.step k a0 (rd l 3) fun x3 => some (x0, x1, x2, x3, 0)
  | _, x0, x1, x2, x3 => some (x0, x1, x2, x3, 0)
def fee_All.f (k : Nat) (a0 : Int) (l1 : List Int) : Option (Int × Int × Int × Int × Int) := (fee_Check.f k l1).bind fun t => if t = 0 then (if l1.length = 4 then fee_All.rem k a0 l1 0 0 0 0 0 else none) else some (0, 0, 0, 0, t)
theorem fee_All.mono : ∀ a0 l1 k, LeO (fee_All.f k a0 l1) (fee_All.f (k + 1) a0 l1) := by
  intro a0 l1 k
  unfold fee_All.f fee_All.rem fee_All.step
  exact LeO.bind (fee_Check.mono _ _) (fun t => LeO.ite (LeO.ite (LeO.bind (fee_paid_less.mono _ _ _) (fun _ => LeO.ite (LeO.bind (fee_paid_less.mono _ _ _) (fun _ => LeO.ite (LeO.bind (fee_paid_less.mono _ _ _) (fun _ => LeO.ite (LeO.bind (fee_paid_less.mono _ _ _) (fun _ => LeO.ite (LeO.refl _) (LeO.refl _))) (LeO.refl _))) (LeO.refl _))) (LeO.refl _))) (LeO.refl _)) (LeO.refl _))
set_option maxHeartbeats 4000000 in
set_option maxRecDepth 100000 in
theorem fee_All.calls (k : Nat) (a0 : Int) (A1 : Option Addr) (c1 : Nat) (l1 : List Int) (r1 r2 r3 r4 r5 : Int) (w : World) (hr1 : Kd.C (Kd.int .i64) w A1 l1.length l1) (hc1 : l1.length ≤ c1) (h : fee_All.f k a0 l1 = some (r1, r2, r3, r4, r5)) :
    Calls Try.prog 46 #[.int .i64 a0, .slice A1 l1.length c1] w fun e w' => e = .returned (.tuple #[.agg #[.int .i64 r1, .int .i64 r2, .int .i64 r3, .int .i64 r4], .int .i64 r5]) ∧ Below w.heap.size w w' := by
  unfold fee_All.f at h
  obtain ⟨t, ht, h⟩ := Option.bind_eq_some_iff.1 h
  have Ht := Aside0.mk ht
  have HR := Aside0.mk hr1
  have HC := Aside0.mk hc1
  have hmf : ∀ (fn : Fn) (first cap : Array Value) (w : World), (Instr.makeFunc fn first cap).run Try.prog w = .ok (.func fn first cap) w := fun _ _ _ _ => rfl
  clear ht hr1 hc1
  by_cases h0 : t = 0
  · subst h0
    rw [if_pos rfl] at h
    by_cases h4 : l1.length = 4
    · rw [if_pos h4] at h
      have H := Aside0.mk h
      have H4 := Aside0.mk h4
      clear h h4
      go_enter Try.func46, Try.ntmps46
      go_wp2_with (first
        | (go_at_call 48; (with_reducible refine (fee_Check.calls k _ _ _ _ _ (Kd.C_below HR.out (by repeat (first | exact Below.refl _ _ | apply below_drew | apply below_alloc | apply pw_below_drewN))) HC.out Ht.out).mono ?_); rintro e w' ⟨rfl, ⟨nd, rfl⟩⟩))
      go_loopw [20] (fun v20 wr => ∃ (i : Nat) (x0 x1 x2 x3 : Int), v20 = .int .i64 i ∧ i ≤ 4 ∧ Aside0 (wr.heap[w.heap.size]? = some (.cells #[.int .i64 0, .int .i64 0, .int .i64 0, .int .i64 0] 39 (0, 0))) ∧ Aside0 (wr.heap[w.heap.size + 1]? = some (.cells #[.int .i64 x0, .int .i64 x1, .int .i64 x2, .int .i64 x3] 39 (0, 0))) ∧ Aside0 (Below w.heap.size w wr) ∧ Aside0 (fee_All.rem k a0 l1 i x0 x1 x2 x3 = some (r1, r2, r3, r4, r5))) (fun v20 _ => 4 - (intOf v20).toNat)
      case atStart =>
        refine ⟨0, 0, 0, 0, 0, rfl, by omega, ⟨?_⟩, ⟨?_⟩, ⟨?_⟩, H⟩
        · refine blk_alloc ?_ _; refine blk_drewN ?_ _; exact blk_new _ _
        · have := blk_new ((w.alloc (.cells #[.int .i64 0, .int .i64 0, .int .i64 0, .int .i64 0] 39)).drewN nd) (.cells #[.int .i64 0, .int .i64 0, .int .i64 0, .int .i64 0] 39)
          simpa using this
        · repeat (first | exact Below.refl _ _ | apply pw_below_drewN | apply below_drew | apply below_alloc)
      case round =>
        obtain ⟨i, x0, x1, x2, x3, rfl, hi, HG0, HG1, HB, HREM⟩ := hrel
        clear H
        have HRr := Aside0.mk (Kd.C_below HR.out HB.out)
        by_cases hlt : i < 4
        · obtain ⟨ad, e1, hx⟩ := Kd.at_int HRr.out (i : Int) (by omega) (by have := H4.out; omega)
          cases e1
          rw [Int.toNat_natCast] at hx
          have t21 : decide ((i : Int) < 4) = true := decide_eq_true (by omega)
          have hsz := HB.out.size
          have hb1 : w.heap.size + 1 < wr.heap.size := (Array.getElem?_eq_some_iff.1 HG1.out).1
          have hi4 : i = 0 ∨ i = 1 ∨ i = 2 ∨ i = 3 := by omega
          rcases hi4 with rfl | rfl | rfl | rfl
          · obtain ⟨⟨n, e⟩, hp, hg⟩ := Option.bind_eq_some_iff.1 (show ((fee_paid_less.f k a0 (rd l1 0)).bind fun p => if p.2 = 0 then fee_All.rem k a0 l1 1 p.1 x1 x2 x3 else some (0, 0, 0, 0, p.2)) = some (r1, r2, r3, r4, r5) from HREM.out)
            have Hp := Aside0.mk hp
            clear hp HREM
            have hlen : 0 < l1.length := by have := H4.out; omega
            have hx2 := hx
            simp [Addr.add] at hx2
            clear hx
            dsimp only at hg
            by_cases h6 : e = 0
            · subst h6
              rw [if_pos rfl] at hg
              have HG := Aside0.mk hg
              clear hg
              go_wp2_with (first
                | (go_at_call 104; (with_reducible refine (fee_paid_less.calls k _ _ _ _ _ Hp.out).mono ?_); rintro e w3 ⟨rfl, hb3⟩; have HB3 := Aside0.mk (below_then HB.out HB.out.size hb3); have HK0 : Aside0 (w3.heap[w.heap.size]? = _) := ⟨(hb3.block _ (by omega)).trans HG0.out⟩; have HK1 : Aside0 (w3.heap[w.heap.size + 1]? = _) := ⟨(hb3.block _ (by omega)).trans HG1.out⟩; have m0 : w3.cell? ⟨w.heap.size + 1, 0, none⟩ = some (.int .i64 x0) := (by simp [World.cell?, HK1.out]); have m1 : w3.frozen? ⟨w.heap.size + 1, 0, none⟩ = false := (by simp [World.frozen?, HK1.out]); clear hb3))
              go_roundw
              case rel => exact ⟨1, n, x1, x2, x3, by go_num, by omega, ⟨by rw [Below.heap_setCell _ _ _ _ (by simp)]; exact HK0.out⟩, ⟨by refine blk_put (cs := #[.int .i64 x0, .int .i64 x1, .int .i64 x2, .int .i64 x3]) ?_ 0 _ rfl; exact HK1.out⟩, ⟨HB3.out.setCell (by simp) _⟩, HG⟩
              case measure => simp [intOf]
            · rw [if_neg h6] at hg
              simp only [Option.some.injEq, Prod.mk.injEq] at hg
              obtain ⟨rfl, rfl, rfl, rfl, rfl⟩ := hg
              have h6' : (e != 0) = true := bne_iff_ne.2 h6
              clear h6
              go_wp2_with (first
                | (go_at_call 104; (with_reducible refine (fee_paid_less.calls k _ _ _ _ _ Hp.out).mono ?_); rintro e w3 ⟨rfl, hb3⟩; have HB3 := Aside0.mk (below_then HB.out HB.out.size hb3); have HK0 : Aside0 (w3.heap[w.heap.size]? = _) := ⟨(hb3.block _ (by omega)).trans HG0.out⟩; have m0 : w3.cell? ⟨w.heap.size, 0, none⟩ = some (.int .i64 0) := (by simp [World.cell?, HK0.out]); have o0 : w3.frozen? ⟨w.heap.size, 0, none⟩ = false := (by simp [World.frozen?, HK0.out]); have m1 : w3.cell? ⟨w.heap.size, 1, none⟩ = some (.int .i64 0) := (by simp [World.cell?, HK0.out]); have o1 : w3.frozen? ⟨w.heap.size, 1, none⟩ = false := (by simp [World.frozen?, HK0.out]); have m2 : w3.cell? ⟨w.heap.size, 2, none⟩ = some (.int .i64 0) := (by simp [World.cell?, HK0.out]); have o2 : w3.frozen? ⟨w.heap.size, 2, none⟩ = false := (by simp [World.frozen?, HK0.out]); have m3 : w3.cell? ⟨w.heap.size, 3, none⟩ = some (.int .i64 0) := (by simp [World.cell?, HK0.out]); have o3 : w3.frozen? ⟨w.heap.size, 3, none⟩ = false := (by simp [World.frozen?, HK0.out]);  clear hb3))
              refine bodyPost_ret (results_ct rfl _ _ w.heap.size 39 #[.int .i64 0, .int .i64 0, .int .i64 0, .int .i64 0] (0, 0) _ rfl (by refine blk_put (cs := #[.int .i64 0, .int .i64 0, .int .i64 0, .int .i64 0]) ?_ 3 _ rfl; refine blk_put (cs := #[.int .i64 0, .int .i64 0, .int .i64 0, .int .i64 0]) ?_ 2 _ rfl; refine blk_put (cs := #[.int .i64 0, .int .i64 0, .int .i64 0, .int .i64 0]) ?_ 1 _ rfl; refine blk_put (cs := #[.int .i64 0, .int .i64 0, .int .i64 0, .int .i64 0]) ?_ 0 _ rfl; exact HK0.out) Try.underlying39 rfl (by kernel_rfl)) rfl ?_
              refine ⟨rfl, ?_⟩
              exact (((HB3.out.setCell (Nat.le_refl _) _).setCell (Nat.le_refl _) _).setCell (Nat.le_refl _) _).setCell (Nat.le_refl _) _
          · obtain ⟨⟨n, e⟩, hp, hg⟩ := Option.bind_eq_some_iff.1 (show ((fee_paid_less.f k a0 (rd l1 1)).bind fun p => if p.2 = 0 then fee_All.rem k a0 l1 2 x0 p.1 x2 x3 else some (0, 0, 0, 0, p.2)) = some (r1, r2, r3, r4, r5) from HREM.out)
            have Hp := Aside0.mk hp
            clear hp HREM
            have hlen : 1 < l1.length := by have := H4.out; omega
            have hx2 := hx
            simp [Addr.add] at hx2
            clear hx
            dsimp only at hg
            by_cases h6 : e = 0
            · subst h6
              rw [if_pos rfl] at hg
              have HG := Aside0.mk hg
              clear hg
              go_wp2_with (first
                | (go_at_call 104; (with_reducible refine (fee_paid_less.calls k _ _ _ _ _ Hp.out).mono ?_); rintro e w3 ⟨rfl, hb3⟩; have HB3 := Aside0.mk (below_then HB.out HB.out.size hb3); have HK0 : Aside0 (w3.heap[w.heap.size]? = _) := ⟨(hb3.block _ (by omega)).trans HG0.out⟩; have HK1 : Aside0 (w3.heap[w.heap.size + 1]? = _) := ⟨(hb3.block _ (by omega)).trans HG1.out⟩; have m0 : w3.cell? ⟨w.heap.size + 1, 1, none⟩ = some (.int .i64 x1) := (by simp [World.cell?, HK1.out]); have m1 : w3.frozen? ⟨w.heap.size + 1, 1, none⟩ = false := (by simp [World.frozen?, HK1.out]); clear hb3))
              go_roundw
              case rel => exact ⟨2, x0, n, x2, x3, by go_num, by omega, ⟨by rw [Below.heap_setCell _ _ _ _ (by simp)]; exact HK0.out⟩, ⟨by refine blk_put (cs := #[.int .i64 x0, .int .i64 x1, .int .i64 x2, .int .i64 x3]) ?_ 1 _ rfl; exact HK1.out⟩, ⟨HB3.out.setCell (by simp) _⟩, HG⟩
              case measure => simp [intOf]
            · rw [if_neg h6] at hg
              simp only [Option.some.injEq, Prod.mk.injEq] at hg
              obtain ⟨rfl, rfl, rfl, rfl, rfl⟩ := hg
              have h6' : (e != 0) = true := bne_iff_ne.2 h6
              clear h6
              go_wp2_with (first
                | (go_at_call 104; (with_reducible refine (fee_paid_less.calls k _ _ _ _ _ Hp.out).mono ?_); rintro e w3 ⟨rfl, hb3⟩; have HB3 := Aside0.mk (below_then HB.out HB.out.size hb3); have HK0 : Aside0 (w3.heap[w.heap.size]? = _) := ⟨(hb3.block _ (by omega)).trans HG0.out⟩; have m0 : w3.cell? ⟨w.heap.size, 0, none⟩ = some (.int .i64 0) := (by simp [World.cell?, HK0.out]); have o0 : w3.frozen? ⟨w.heap.size, 0, none⟩ = false := (by simp [World.frozen?, HK0.out]); have m1 : w3.cell? ⟨w.heap.size, 1, none⟩ = some (.int .i64 0) := (by simp [World.cell?, HK0.out]); have o1 : w3.frozen? ⟨w.heap.size, 1, none⟩ = false := (by simp [World.frozen?, HK0.out]); have m2 : w3.cell? ⟨w.heap.size, 2, none⟩ = some (.int .i64 0) := (by simp [World.cell?, HK0.out]); have o2 : w3.frozen? ⟨w.heap.size, 2, none⟩ = false := (by simp [World.frozen?, HK0.out]); have m3 : w3.cell? ⟨w.heap.size, 3, none⟩ = some (.int .i64 0) := (by simp [World.cell?, HK0.out]); have o3 : w3.frozen? ⟨w.heap.size, 3, none⟩ = false := (by simp [World.frozen?, HK0.out]);  clear hb3))
              refine bodyPost_ret (results_ct rfl _ _ w.heap.size 39 #[.int .i64 0, .int .i64 0, .int .i64 0, .int .i64 0] (0, 0) _ rfl (by refine blk_put (cs := #[.int .i64 0, .int .i64 0, .int .i64 0, .int .i64 0]) ?_ 3 _ rfl; refine blk_put (cs := #[.int .i64 0, .int .i64 0, .int .i64 0, .int .i64 0]) ?_ 2 _ rfl; refine blk_put (cs := #[.int .i64 0, .int .i64 0, .int .i64 0, .int .i64 0]) ?_ 1 _ rfl; refine blk_put (cs := #[.int .i64 0, .int .i64 0, .int .i64 0, .int .i64 0]) ?_ 0 _ rfl; exact HK0.out) Try.underlying39 rfl (by kernel_rfl)) rfl ?_
              refine ⟨rfl, ?_⟩
              exact (((HB3.out.setCell (Nat.le_refl _) _).setCell (Nat.le_refl _) _).setCell (Nat.le_refl _) _).setCell (Nat.le_refl _) _
          · obtain ⟨⟨n, e⟩, hp, hg⟩ := Option.bind_eq_some_iff.1 (show ((fee_paid_less.f k a0 (rd l1 2)).bind fun p => if p.2 = 0 then fee_All.rem k a0 l1 3 x0 x1 p.1 x3 else some (0, 0, 0, 0, p.2)) = some (r1, r2, r3, r4, r5) from HREM.out)
            have Hp := Aside0.mk hp
            clear hp HREM
            have hlen : 2 < l1.length := by have := H4.out; omega
            have hx2 := hx
            simp [Addr.add] at hx2
            clear hx
            dsimp only at hg
            by_cases h6 : e = 0
            · subst h6
              rw [if_pos rfl] at hg
              have HG := Aside0.mk hg
              clear hg
              go_wp2_with (first
                | (go_at_call 104; (with_reducible refine (fee_paid_less.calls k _ _ _ _ _ Hp.out).mono ?_); rintro e w3 ⟨rfl, hb3⟩; have HB3 := Aside0.mk (below_then HB.out HB.out.size hb3); have HK0 : Aside0 (w3.heap[w.heap.size]? = _) := ⟨(hb3.block _ (by omega)).trans HG0.out⟩; have HK1 : Aside0 (w3.heap[w.heap.size + 1]? = _) := ⟨(hb3.block _ (by omega)).trans HG1.out⟩; have m0 : w3.cell? ⟨w.heap.size + 1, 2, none⟩ = some (.int .i64 x2) := (by simp [World.cell?, HK1.out]); have m1 : w3.frozen? ⟨w.heap.size + 1, 2, none⟩ = false := (by simp [World.frozen?, HK1.out]); clear hb3))
              go_roundw
              case rel => exact ⟨3, x0, x1, n, x3, by go_num, by omega, ⟨by rw [Below.heap_setCell _ _ _ _ (by simp)]; exact HK0.out⟩, ⟨by refine blk_put (cs := #[.int .i64 x0, .int .i64 x1, .int .i64 x2, .int .i64 x3]) ?_ 2 _ rfl; exact HK1.out⟩, ⟨HB3.out.setCell (by simp) _⟩, HG⟩
              case measure => simp [intOf]
            · rw [if_neg h6] at hg
              simp only [Option.some.injEq, Prod.mk.injEq] at hg
              obtain ⟨rfl, rfl, rfl, rfl, rfl⟩ := hg
              have h6' : (e != 0) = true := bne_iff_ne.2 h6
              clear h6
              go_wp2_with (first
                | (go_at_call 104; (with_reducible refine (fee_paid_less.calls k _ _ _ _ _ Hp.out).mono ?_); rintro e w3 ⟨rfl, hb3⟩; have HB3 := Aside0.mk (below_then HB.out HB.out.size hb3); have HK0 : Aside0 (w3.heap[w.heap.size]? = _) := ⟨(hb3.block _ (by omega)).trans HG0.out⟩; have m0 : w3.cell? ⟨w.heap.size, 0, none⟩ = some (.int .i64 0) := (by simp [World.cell?, HK0.out]); have o0 : w3.frozen? ⟨w.heap.size, 0, none⟩ = false := (by simp [World.frozen?, HK0.out]); have m1 : w3.cell? ⟨w.heap.size, 1, none⟩ = some (.int .i64 0) := (by simp [World.cell?, HK0.out]); have o1 : w3.frozen? ⟨w.heap.size, 1, none⟩ = false := (by simp [World.frozen?, HK0.out]); have m2 : w3.cell? ⟨w.heap.size, 2, none⟩ = some (.int .i64 0) := (by simp [World.cell?, HK0.out]); have o2 : w3.frozen? ⟨w.heap.size, 2, none⟩ = false := (by simp [World.frozen?, HK0.out]); have m3 : w3.cell? ⟨w.heap.size, 3, none⟩ = some (.int .i64 0) := (by simp [World.cell?, HK0.out]); have o3 : w3.frozen? ⟨w.heap.size, 3, none⟩ = false := (by simp [World.frozen?, HK0.out]);  clear hb3))
              refine bodyPost_ret (results_ct rfl _ _ w.heap.size 39 #[.int .i64 0, .int .i64 0, .int .i64 0, .int .i64 0] (0, 0) _ rfl (by refine blk_put (cs := #[.int .i64 0, .int .i64 0, .int .i64 0, .int .i64 0]) ?_ 3 _ rfl; refine blk_put (cs := #[.int .i64 0, .int .i64 0, .int .i64 0, .int .i64 0]) ?_ 2 _ rfl; refine blk_put (cs := #[.int .i64 0, .int .i64 0, .int .i64 0, .int .i64 0]) ?_ 1 _ rfl; refine blk_put (cs := #[.int .i64 0, .int .i64 0, .int .i64 0, .int .i64 0]) ?_ 0 _ rfl; exact HK0.out) Try.underlying39 rfl (by kernel_rfl)) rfl ?_
              refine ⟨rfl, ?_⟩
              exact (((HB3.out.setCell (Nat.le_refl _) _).setCell (Nat.le_refl _) _).setCell (Nat.le_refl _) _).setCell (Nat.le_refl _) _
          · obtain ⟨⟨n, e⟩, hp, hg⟩ := Option.bind_eq_some_iff.1 (show ((fee_paid_less.f k a0 (rd l1 3)).bind fun p => if p.2 = 0 then fee_All.rem k a0 l1 4 x0 x1 x2 p.1 else some (0, 0, 0, 0, p.2)) = some (r1, r2, r3, r4, r5) from HREM.out)
            have Hp := Aside0.mk hp
            clear hp HREM
            have hlen : 3 < l1.length := by have := H4.out; omega
            have hx2 := hx
            simp [Addr.add] at hx2
            clear hx
            dsimp only at hg
            by_cases h6 : e = 0
            · subst h6
              rw [if_pos rfl] at hg
              have HG := Aside0.mk hg
              clear hg
              go_wp2_with (first
                | (go_at_call 104; (with_reducible refine (fee_paid_less.calls k _ _ _ _ _ Hp.out).mono ?_); rintro e w3 ⟨rfl, hb3⟩; have HB3 := Aside0.mk (below_then HB.out HB.out.size hb3); have HK0 : Aside0 (w3.heap[w.heap.size]? = _) := ⟨(hb3.block _ (by omega)).trans HG0.out⟩; have HK1 : Aside0 (w3.heap[w.heap.size + 1]? = _) := ⟨(hb3.block _ (by omega)).trans HG1.out⟩; have m0 : w3.cell? ⟨w.heap.size + 1, 3, none⟩ = some (.int .i64 x3) := (by simp [World.cell?, HK1.out]); have m1 : w3.frozen? ⟨w.heap.size + 1, 3, none⟩ = false := (by simp [World.frozen?, HK1.out]); clear hb3))
              go_roundw
              case rel => exact ⟨4, x0, x1, x2, n, by go_num, by omega, ⟨by rw [Below.heap_setCell _ _ _ _ (by simp)]; exact HK0.out⟩, ⟨by refine blk_put (cs := #[.int .i64 x0, .int .i64 x1, .int .i64 x2, .int .i64 x3]) ?_ 3 _ rfl; exact HK1.out⟩, ⟨HB3.out.setCell (by simp) _⟩, HG⟩
              case measure => simp [intOf]
            · rw [if_neg h6] at hg
              simp only [Option.some.injEq, Prod.mk.injEq] at hg
              obtain ⟨rfl, rfl, rfl, rfl, rfl⟩ := hg
              have h6' : (e != 0) = true := bne_iff_ne.2 h6
              clear h6
              go_wp2_with (first
                | (go_at_call 104; (with_reducible refine (fee_paid_less.calls k _ _ _ _ _ Hp.out).mono ?_); rintro e w3 ⟨rfl, hb3⟩; have HB3 := Aside0.mk (below_then HB.out HB.out.size hb3); have HK0 : Aside0 (w3.heap[w.heap.size]? = _) := ⟨(hb3.block _ (by omega)).trans HG0.out⟩; have m0 : w3.cell? ⟨w.heap.size, 0, none⟩ = some (.int .i64 0) := (by simp [World.cell?, HK0.out]); have o0 : w3.frozen? ⟨w.heap.size, 0, none⟩ = false := (by simp [World.frozen?, HK0.out]); have m1 : w3.cell? ⟨w.heap.size, 1, none⟩ = some (.int .i64 0) := (by simp [World.cell?, HK0.out]); have o1 : w3.frozen? ⟨w.heap.size, 1, none⟩ = false := (by simp [World.frozen?, HK0.out]); have m2 : w3.cell? ⟨w.heap.size, 2, none⟩ = some (.int .i64 0) := (by simp [World.cell?, HK0.out]); have o2 : w3.frozen? ⟨w.heap.size, 2, none⟩ = false := (by simp [World.frozen?, HK0.out]); have m3 : w3.cell? ⟨w.heap.size, 3, none⟩ = some (.int .i64 0) := (by simp [World.cell?, HK0.out]); have o3 : w3.frozen? ⟨w.heap.size, 3, none⟩ = false := (by simp [World.frozen?, HK0.out]);  clear hb3))
              refine bodyPost_ret (results_ct rfl _ _ w.heap.size 39 #[.int .i64 0, .int .i64 0, .int .i64 0, .int .i64 0] (0, 0) _ rfl (by refine blk_put (cs := #[.int .i64 0, .int .i64 0, .int .i64 0, .int .i64 0]) ?_ 3 _ rfl; refine blk_put (cs := #[.int .i64 0, .int .i64 0, .int .i64 0, .int .i64 0]) ?_ 2 _ rfl; refine blk_put (cs := #[.int .i64 0, .int .i64 0, .int .i64 0, .int .i64 0]) ?_ 1 _ rfl; refine blk_put (cs := #[.int .i64 0, .int .i64 0, .int .i64 0, .int .i64 0]) ?_ 0 _ rfl; exact HK0.out) Try.underlying39 rfl (by kernel_rfl)) rfl ?_
              refine ⟨rfl, ?_⟩
              exact (((HB3.out.setCell (Nat.le_refl _) _).setCell (Nat.le_refl _) _).setCell (Nat.le_refl _) _).setCell (Nat.le_refl _) _
        · obtain rfl : i = 4 := by omega
          have hrem := HREM.out
          simp only [fee_All.rem, Option.some.injEq, Prod.mk.injEq] at hrem
          obtain ⟨rfl, rfl, rfl, rfl, rfl⟩ := hrem
          have q0 : wr.cell? ⟨w.heap.size + 1, 0, none⟩ = some (.int .i64 x0) := by simp [World.cell?, HG1.out]
          have q1 : wr.cell? ⟨w.heap.size + 1, 1, none⟩ = some (.int .i64 x1) := by simp [World.cell?, HG1.out]
          have q2 : wr.cell? ⟨w.heap.size + 1, 2, none⟩ = some (.int .i64 x2) := by simp [World.cell?, HG1.out]
          have q3 : wr.cell? ⟨w.heap.size + 1, 3, none⟩ = some (.int .i64 x3) := by simp [World.cell?, HG1.out]
          have y0 : wr.frozen? ⟨w.heap.size, 0, none⟩ = false := by simp [World.frozen?, HG0.out]
          have y1 : wr.frozen? ⟨w.heap.size, 1, none⟩ = false := by simp [World.frozen?, HG0.out]
          have y2 : wr.frozen? ⟨w.heap.size, 2, none⟩ = false := by simp [World.frozen?, HG0.out]
          have y3 : wr.frozen? ⟨w.heap.size, 3, none⟩ = false := by simp [World.frozen?, HG0.out]
          have p0 : wr.cell? ⟨w.heap.size, 0, none⟩ = some (.int .i64 0) := by simp [World.cell?, HG0.out]
          have p1 : wr.cell? ⟨w.heap.size, 1, none⟩ = some (.int .i64 0) := by simp [World.cell?, HG0.out]
          have p2 : wr.cell? ⟨w.heap.size, 2, none⟩ = some (.int .i64 0) := by simp [World.cell?, HG0.out]
          have p3 : wr.cell? ⟨w.heap.size, 3, none⟩ = some (.int .i64 0) := by simp [World.cell?, HG0.out]
          go_wp2
          refine bodyPost_ret (results_ct rfl _ _ w.heap.size 39 #[.int .i64 x0, .int .i64 x1, .int .i64 x2, .int .i64 x3] (0, 0) _ rfl (by refine blk_put (cs := #[.int .i64 x0, .int .i64 x1, .int .i64 x2, .int .i64 0]) ?_ 3 _ rfl; refine blk_put (cs := #[.int .i64 x0, .int .i64 x1, .int .i64 0, .int .i64 0]) ?_ 2 _ rfl; refine blk_put (cs := #[.int .i64 x0, .int .i64 0, .int .i64 0, .int .i64 0]) ?_ 1 _ rfl; refine blk_put (cs := #[.int .i64 0, .int .i64 0, .int .i64 0, .int .i64 0]) ?_ 0 _ rfl; exact HG0.out) Try.underlying39 rfl (by kernel_rfl)) rfl ?_
          refine ⟨rfl, ?_⟩
          exact (((HB.out.setCell (Nat.le_refl _) _).setCell (Nat.le_refl _) _).setCell (Nat.le_refl _) _).setCell (Nat.le_refl _) _
    · rw [if_neg h4] at h; cases h
  · rw [if_neg h0] at h
    simp only [Option.some.injEq, Prod.mk.injEq] at h
    obtain ⟨rfl, rfl, rfl, rfl, rfl⟩ := h
    have e0 : (t != 0) = true := bne_iff_ne.2 h0
    clear h0
    go_enter Try.func46, Try.ntmps46
    go_wp2_with (first
      | (go_at_call 48; (with_reducible refine (fee_Check.calls k _ _ _ _ _ (Kd.C_below HR.out (by repeat (first | exact Below.refl _ _ | apply below_drew | apply below_alloc | apply pw_below_drewN))) HC.out Ht.out).mono ?_); rintro e w' ⟨rfl, ⟨nd, rfl⟩⟩))
    refine bodyPost_ret (results_ct rfl _ _ w.heap.size 39 #[.int .i64 0, .int .i64 0, .int .i64 0, .int .i64 0] (0, 0) _ rfl (by refine blk_put (cs := #[.int .i64 0, .int .i64 0, .int .i64 0, .int .i64 0]) ?_ 3 _ rfl; refine blk_put (cs := #[.int .i64 0, .int .i64 0, .int .i64 0, .int .i64 0]) ?_ 2 _ rfl; refine blk_put (cs := #[.int .i64 0, .int .i64 0, .int .i64 0, .int .i64 0]) ?_ 1 _ rfl; refine blk_put (cs := #[.int .i64 0, .int .i64 0, .int .i64 0, .int .i64 0]) ?_ 0 _ rfl; refine blk_drewN ?_ _; exact blk_new _ _) Try.underlying39 rfl (by kernel_rfl)) rfl ?_
    refine ⟨rfl, ?_⟩
    have HB0 : Below w.heap.size w ((w.alloc (.cells #[.int .i64 0, .int .i64 0, .int .i64 0, .int .i64 0] 39)).drewN nd) := by repeat (first | exact Below.refl _ _ | apply pw_below_drewN | apply below_drew | apply below_alloc)
    exact (((HB0.setCell (Nat.le_refl _) _).setCell (Nat.le_refl _) _).setCell (Nat.le_refl _) _).setCell (Nat.le_refl _) _

end Go.Proofs.Ytefhljhpcpajgaa.F

namespace Go.Proofs.Ytefhljhpcpajgaa.F
open Go.RowKit Go.Proofs.YtefhljhpcpajgaaX Go.Proofs.YtefhljhpcpajgaaW.PrintWords Go.Proofs.YtefhljhpcpajgaaW.PrintLast Go.Proofs.YtefhljhpcpajgaaW.PrintMore
attribute [local go_sem] max2_int min2_int max_two min_two max_three min_three max_four min_four   -- for this text's walks alone
set_option linter.unusedVariables false
set_option linter.unusedSimpArgs false

attribute [local go_sem high] eqA39
/-! ### backhaullaw04_awake: function 39 -/
def backhaullaw04_awake.f  : Option (Bool) := some true
set_option maxHeartbeats 8000000 in
set_option maxRecDepth 100000 in
theorem backhaullaw04_awake.calls (r : Bool)  (w : World) (h : backhaullaw04_awake.f  = some r) :
    Calls Try.prog 39 #[] w fun e w' => e = .returned (.bool r) ∧ Below w.heap.size w w' := by
  obtain rfl : r = true := by injection h with h; exact h.symm
  have hu39 := Try.underlying39
  have HB := Aside0.mk (Below.refl w.heap.size w)
  have H : ((fee_Of.f 1000 1005 1000).bind fun bt269 => ((fee_Less.f 1000 1005 1000).bind fun bt271 => ((fee_Grade.f 1000 1005 (([0, 1000, 1000, 10000] : List Int)) 3).bind fun bt276 => ((fee_All.f 1000 1005 (([0, 1000, 1000, 10000] : List Int))).bind fun bt281 => ((fee_Of.f 1000 1 10001).bind fun bt287 => (if bt269.1 = 101 then (if bt269.2 = 0 then (if bt271.1 = 904 then (if bt271.2 = 0 then (if bt276.1 = 0 then (if bt276.2 = 0 then (if (bt281.1 == 1005 && (bt281.2.1 == 904 && (bt281.2.2.1 == 904 && (bt281.2.2.2.1 == 0)))) = true then (if bt281.2.2.2.2 = 0 then (if bt287.2 = 2 then ((fee_Check.f 1000 (([1, 0, 2, 3] : List Int))).bind fun t292 => (if t292 = 36 then (some true) else (some false))) else (some false)) else (some false)) else (some false)) else (some false)) else (some false)) else (some false)) else (some false)) else (some false)) else (some false))))))) = some true := by decide +kernel
  replace H := Option.bind_eq_some_iff.mp H
  obtain ⟨⟨t269, t270⟩, A10, H⟩ := H
  replace H : ((fee_Less.f 1000 1005 1000).bind fun bt271 => ((fee_Grade.f 1000 1005 (([0, 1000, 1000, 10000] : List Int)) 3).bind fun bt276 => ((fee_All.f 1000 1005 (([0, 1000, 1000, 10000] : List Int))).bind fun bt281 => ((fee_Of.f 1000 1 10001).bind fun bt287 => (if t269 = 101 then (if t270 = 0 then (if bt271.1 = 904 then (if bt271.2 = 0 then (if bt276.1 = 0 then (if bt276.2 = 0 then (if (bt281.1 == 1005 && (bt281.2.1 == 904 && (bt281.2.2.1 == 904 && (bt281.2.2.2.1 == 0)))) = true then (if bt281.2.2.2.2 = 0 then (if bt287.2 = 2 then ((fee_Check.f 1000 (([1, 0, 2, 3] : List Int))).bind fun t292 => (if t292 = 36 then (some true) else (some false))) else (some false)) else (some false)) else (some false)) else (some false)) else (some false)) else (some false)) else (some false)) else (some false)) else (some false)))))) = some true := H
  have A1 := Aside0.mk A10
  clear A10
  replace H := Option.bind_eq_some_iff.mp H
  obtain ⟨⟨t271, t272⟩, A20, H⟩ := H
  replace H : ((fee_Grade.f 1000 1005 (([0, 1000, 1000, 10000] : List Int)) 3).bind fun bt276 => ((fee_All.f 1000 1005 (([0, 1000, 1000, 10000] : List Int))).bind fun bt281 => ((fee_Of.f 1000 1 10001).bind fun bt287 => (if t269 = 101 then (if t270 = 0 then (if t271 = 904 then (if t272 = 0 then (if bt276.1 = 0 then (if bt276.2 = 0 then (if (bt281.1 == 1005 && (bt281.2.1 == 904 && (bt281.2.2.1 == 904 && (bt281.2.2.2.1 == 0)))) = true then (if bt281.2.2.2.2 = 0 then (if bt287.2 = 2 then ((fee_Check.f 1000 (([1, 0, 2, 3] : List Int))).bind fun t292 => (if t292 = 36 then (some true) else (some false))) else (some false)) else (some false)) else (some false)) else (some false)) else (some false)) else (some false)) else (some false)) else (some false)) else (some false))))) = some true := H
  have A2 := Aside0.mk A20
  clear A20
  obtain ⟨y273, hy273⟩ : ∃ y_ : List Int, y_ = (([0, 1000, 1000, 10000] : List Int)) := ⟨_, rfl⟩
  replace H : ((fee_Grade.f 1000 1005 y273 3).bind fun bt276 => ((fee_All.f 1000 1005 (([0, 1000, 1000, 10000] : List Int))).bind fun bt281 => ((fee_Of.f 1000 1 10001).bind fun bt287 => (if t269 = 101 then (if t270 = 0 then (if t271 = 904 then (if t272 = 0 then (if bt276.1 = 0 then (if bt276.2 = 0 then (if (bt281.1 == 1005 && (bt281.2.1 == 904 && (bt281.2.2.1 == 904 && (bt281.2.2.2.1 == 0)))) = true then (if bt281.2.2.2.2 = 0 then (if bt287.2 = 2 then ((fee_Check.f 1000 (([1, 0, 2, 3] : List Int))).bind fun t292 => (if t292 = 36 then (some true) else (some false))) else (some false)) else (some false)) else (some false)) else (some false)) else (some false)) else (some false)) else (some false)) else (some false)) else (some false))))) = some true := by first | (rw [hy273]; with_reducible exact H) | (have H2_ := (Option.bind_some _ _).symm.trans H; rw [hy273]; with_reducible exact H2_) | (have H2_ := (Option.bind_some _ _).symm.trans H; with_reducible exact H2_) | with_reducible exact H | (rw [hy273]; exact H) | exact H
  have Ny273 := Aside0.mk hy273
  clear hy273
  replace H := Option.bind_eq_some_iff.mp H
  obtain ⟨⟨t276, t277⟩, A30, H⟩ := H
  replace H : ((fee_All.f 1000 1005 (([0, 1000, 1000, 10000] : List Int))).bind fun bt281 => ((fee_Of.f 1000 1 10001).bind fun bt287 => (if t269 = 101 then (if t270 = 0 then (if t271 = 904 then (if t272 = 0 then (if t276 = 0 then (if t277 = 0 then (if (bt281.1 == 1005 && (bt281.2.1 == 904 && (bt281.2.2.1 == 904 && (bt281.2.2.2.1 == 0)))) = true then (if bt281.2.2.2.2 = 0 then (if bt287.2 = 2 then ((fee_Check.f 1000 (([1, 0, 2, 3] : List Int))).bind fun t292 => (if t292 = 36 then (some true) else (some false))) else (some false)) else (some false)) else (some false)) else (some false)) else (some false)) else (some false)) else (some false)) else (some false)) else (some false)))) = some true := H
  have A3 := Aside0.mk A30
  clear A30
  obtain ⟨y278, hy278⟩ : ∃ y_ : List Int, y_ = (([0, 1000, 1000, 10000] : List Int)) := ⟨_, rfl⟩
  replace H : ((fee_All.f 1000 1005 y278).bind fun bt281 => ((fee_Of.f 1000 1 10001).bind fun bt287 => (if t269 = 101 then (if t270 = 0 then (if t271 = 904 then (if t272 = 0 then (if t276 = 0 then (if t277 = 0 then (if (bt281.1 == 1005 && (bt281.2.1 == 904 && (bt281.2.2.1 == 904 && (bt281.2.2.2.1 == 0)))) = true then (if bt281.2.2.2.2 = 0 then (if bt287.2 = 2 then ((fee_Check.f 1000 (([1, 0, 2, 3] : List Int))).bind fun t292 => (if t292 = 36 then (some true) else (some false))) else (some false)) else (some false)) else (some false)) else (some false)) else (some false)) else (some false)) else (some false)) else (some false)) else (some false)))) = some true := by first | (rw [hy278]; with_reducible exact H) | (have H2_ := (Option.bind_some _ _).symm.trans H; rw [hy278]; with_reducible exact H2_) | (have H2_ := (Option.bind_some _ _).symm.trans H; with_reducible exact H2_) | with_reducible exact H | (rw [hy278]; exact H) | exact H
  have Ny278 := Aside0.mk hy278
  clear hy278
  replace H := Option.bind_eq_some_iff.mp H
  obtain ⟨⟨t281, t282, t283, t284, t285⟩, A40, H⟩ := H
  replace H : ((fee_Of.f 1000 1 10001).bind fun bt287 => (if t269 = 101 then (if t270 = 0 then (if t271 = 904 then (if t272 = 0 then (if t276 = 0 then (if t277 = 0 then (if (t281 == 1005 && (t282 == 904 && (t283 == 904 && (t284 == 0)))) = true then (if t285 = 0 then (if bt287.2 = 2 then ((fee_Check.f 1000 (([1, 0, 2, 3] : List Int))).bind fun t292 => (if t292 = 36 then (some true) else (some false))) else (some false)) else (some false)) else (some false)) else (some false)) else (some false)) else (some false)) else (some false)) else (some false)) else (some false))) = some true := H
  have A4 := Aside0.mk A40
  clear A40
  replace H := Option.bind_eq_some_iff.mp H
  obtain ⟨⟨t287, t288⟩, A50, H⟩ := H
  replace H : (if t269 = 101 then (if t270 = 0 then (if t271 = 904 then (if t272 = 0 then (if t276 = 0 then (if t277 = 0 then (if (t281 == 1005 && (t282 == 904 && (t283 == 904 && (t284 == 0)))) = true then (if t285 = 0 then (if t288 = 2 then ((fee_Check.f 1000 (([1, 0, 2, 3] : List Int))).bind fun t292 => (if t292 = 36 then (some true) else (some false))) else (some false)) else (some false)) else (some false)) else (some false)) else (some false)) else (some false)) else (some false)) else (some false)) else (some false)) = some true := H
  have A5 := Aside0.mk A50
  clear A50
  by_cases c6 : t269 = 101
  · rw [if_pos c6] at H
    have c6b0 : (t269 == 101) = true := beq_iff_eq.mpr c6
    have c6b1 : (t269 != 101) = false := bne_eq_false_iff_eq.mpr c6
    clear c6
    by_cases c7 : t270 = 0
    · rw [if_pos c7] at H
      have c7b0 : (t270 == 0) = true := beq_iff_eq.mpr c7
      have c7b1 : (t270 != 0) = false := bne_eq_false_iff_eq.mpr c7
      clear c7
      by_cases c8 : t271 = 904
      · rw [if_pos c8] at H
        have c8b0 : (t271 == 904) = true := beq_iff_eq.mpr c8
        have c8b1 : (t271 != 904) = false := bne_eq_false_iff_eq.mpr c8
        clear c8
        by_cases c9 : t272 = 0
        · rw [if_pos c9] at H
          have c9b0 : (t272 == 0) = true := beq_iff_eq.mpr c9
          have c9b1 : (t272 != 0) = false := bne_eq_false_iff_eq.mpr c9
          clear c9
          by_cases c10 : t276 = 0
          · rw [if_pos c10] at H
            have c10b0 : (t276 == 0) = true := beq_iff_eq.mpr c10
            have c10b1 : (t276 != 0) = false := bne_eq_false_iff_eq.mpr c10
            clear c10
            by_cases c11 : t277 = 0
            · rw [if_pos c11] at H
              have c11b0 : (t277 == 0) = true := beq_iff_eq.mpr c11
              have c11b1 : (t277 != 0) = false := bne_eq_false_iff_eq.mpr c11
              clear c11
              by_cases c12 : (t281 == 1005 && (t282 == 904 && (t283 == 904 && (t284 == 0)))) = true
              · rw [if_pos c12] at H
                have c12b0 : (t281 == 1005 && (t282 == 904 && (t283 == 904 && (t284 == 0)))) = true := c12
                (try (have c12b1 : decide (t281 = 1005 && (t282 == 904 && (t283 == 904 && (t284 == 0)))) = true := by simpa using c12))
                (try (have c12b2 : (t281 == 1005 && (t282 == 904 && (t283 == 904 && (t284 == 0)))) = true := by simpa using c12))
                clear c12
                by_cases c13 : t285 = 0
                · rw [if_pos c13] at H
                  have c13b0 : (t285 == 0) = true := beq_iff_eq.mpr c13
                  have c13b1 : (t285 != 0) = false := bne_eq_false_iff_eq.mpr c13
                  clear c13
                  by_cases c14 : t288 = 2
                  · rw [if_pos c14] at H
                    have c14b0 : (t288 == 2) = true := beq_iff_eq.mpr c14
                    have c14b1 : (t288 != 2) = false := bne_eq_false_iff_eq.mpr c14
                    clear c14
                    obtain ⟨y289, hy289⟩ : ∃ y_ : List Int, y_ = (([1, 0, 2, 3] : List Int)) := ⟨_, rfl⟩
                    replace H : ((fee_Check.f 1000 y289).bind fun t292 => (if t292 = 36 then (some true) else (some false))) = some true := by first | (rw [hy289]; with_reducible exact H) | (have H2_ := (Option.bind_some _ _).symm.trans H; rw [hy289]; with_reducible exact H2_) | (have H2_ := (Option.bind_some _ _).symm.trans H; with_reducible exact H2_) | with_reducible exact H | (rw [hy289]; exact H) | exact H
                    have Ny289 := Aside0.mk hy289
                    clear hy289
                    replace H := Option.bind_eq_some_iff.mp H
                    obtain ⟨t292, A150, H⟩ := H
                    replace H : (if t292 = 36 then (some true) else (some false)) = some true := H
                    have A15 := Aside0.mk A150
                    clear A150
                    by_cases c16 : t292 = 36
                    · rw [if_pos c16] at H
                      have c16b0 : (t292 == 36) = true := beq_iff_eq.mpr c16
                      have c16b1 : (t292 != 36) = false := bne_eq_false_iff_eq.mpr c16
                      clear c16
                      clear H
                      go_enter Try.func39, Try.ntmps39
                      go_wp2_with (first | ((with_reducible refine gate_callee (f := 40) rfl ?_); refine goesL_ (some 12) rfl rfl Try.func40 (by kernel_rfl) rfl #[.int .i64 1005, .int .i64 1000] rfl (by (try simp only [List.map_toArray, List.map_cons, List.map_nil]); first | done | rfl | (simp only [List.length_drop, List.length_take]; rfl)) ?_; (with_reducible refine (fee_Of.calls 1000 1005 1000 t269 t270 _ A1.out).mono ?_); rintro e w17 ⟨rfl, hb⟩; refine ⟨_, rfl, ?_⟩; have n0_ := Aside0.mk (below_step (by repeat (first | (with_reducible first | exact HB.out | apply below_alloc | apply pw_below_drewN | apply below_drew1) | exact HB.out)) hb); clear HB; have HB := n0_; clear n0_; (try clear hb); (try clear hb2); (try clear hk); (try clear hi)) | ((with_reducible refine gate_callee (f := 42) rfl ?_); refine goesL_ (some 16) rfl rfl Try.func42 (by kernel_rfl) rfl #[.int .i64 1005, .int .i64 1000] rfl (by (try simp only [List.map_toArray, List.map_cons, List.map_nil]); first | done | rfl | (simp only [List.length_drop, List.length_take]; rfl)) ?_; (with_reducible refine (fee_Less.calls 1000 1005 1000 t271 t272 _ A2.out).mono ?_); rintro e w18 ⟨rfl, hb⟩; refine ⟨_, rfl, ?_⟩; have n0_ := Aside0.mk (below_step (by repeat (first | (with_reducible first | exact HB.out | apply below_alloc | apply pw_below_drewN | apply below_drew1) | exact HB.out)) hb); clear HB; have HB := n0_; clear n0_; (try clear hb); (try clear hb2); (try clear hk); (try clear hi)) | ((with_reducible refine gate_dst (N := 20) rfl ?_); (try (refine gate_guard (by rfl) ?_; dsimp only)); refine Kd.R_lit (Kd.int .i64) _ 3 ?hg (N := 20) ?hd (xs := ([0, 1000, 1000, 10000] : List Int)) (inner := [.int .i64 0, .int .i64 1000, .int .i64 1000, .int .i64 10000]) (ok := fun _ => True) (okp := fun _ => True) ?hr ?hp (fun _ hk => hk) trivial (Below.refl _ _) (Nat.le_refl _) (by simp) ?_; (case hd => rfl); (case hg => rfl); (case hr => first | (go_simp; done) | (go_simp; rfl)); (case hp => exact (Reps.one (show Kd.M (Kd.int .i64) _ _ _ 0 [.int .i64 0] from rfl) (Reps.one (show Kd.M (Kd.int .i64) _ _ _ 1000 [.int .i64 1000] from rfl) (Reps.one (show Kd.M (Kd.int .i64) _ _ _ 1000 [.int .i64 1000] from rfl) (Reps.one (show Kd.M (Kd.int .i64) _ _ _ 10000 [.int .i64 10000] from rfl) (Reps.none _ _)))))); intro v274 w19 ho20 hb hg_ hnew_; clear hg_ hnew_; (first | rw [← Ny273.out] at ho20 | (simp only [Int.reduceToNat] at ho20; rw [← Ny273.out] at ho20)); have n0_ := Aside0.mk (Kd.R_lower ho20 (below_size (by repeat (first | (with_reducible first | exact HB.out | apply below_alloc | apply pw_below_drewN | apply below_drew1) | exact HB.out)))); have n1_ := Aside0.mk (below_step (by repeat (first | (with_reducible first | exact HB.out | apply below_alloc | apply pw_below_drewN | apply below_drew1) | exact HB.out)) hb); clear HB; have HO275 := n0_; have HB := n1_; clear n0_ n1_; clear hb ho20; obtain ⟨Ao21, co21, eo21⟩ := Kd.R_slice HO275.out; subst eo21) | ((with_reducible refine gate_callee (f := 44) rfl ?_); refine goesL_ (some 21) rfl rfl Try.func44 (by kernel_rfl) rfl #[.int .i64 1005, .slice Ao21 y273.length co21, .int .i64 3] rfl (by (try simp only [List.map_toArray, List.map_cons, List.map_nil]); first | done | rfl | (simp only [List.length_drop, List.length_take]; rfl)) ?_; (with_reducible refine (fee_Grade.calls 1000 1005 _ _ y273 3 t276 t277 _ ?side1 ?side2 A3.out).mono ?_); (case side1 => repeat (first | exact (Kd.R_reads' HO275.out).2.2 | (with_reducible refine Kd.C_alloc ?_ _) | (with_reducible refine Kd.C_drewN ?_ _) | (with_reducible refine Kd.C_drew ?_))); (case side2 => exact (Kd.R_reads' HO275.out).2.1); rintro e w22 ⟨rfl, hb⟩; refine ⟨_, rfl, ?_⟩; have n0_ := Aside0.mk (Kd.R_below (by (with_reducible repeat (first | apply Kd.R_alloc | apply Kd.R_drewN | apply Kd.R_drew)); exact HO275.out) hb); have n1_ := Aside0.mk (below_step (by repeat (first | (with_reducible first | exact HB.out | apply below_alloc | apply pw_below_drewN | apply below_drew1) | exact HB.out)) hb); clear HO275; clear HB; have HO275 := n0_; have HB := n1_; clear n0_ n1_; (try clear hb); (try clear hb2); (try clear hk); (try clear hi)) | ((with_reducible refine gate_dst (N := 25) rfl ?_); (try (refine gate_guard (by rfl) ?_; dsimp only)); refine Kd.R_lit (Kd.int .i64) _ 3 ?hg (N := 25) ?hd (xs := ([0, 1000, 1000, 10000] : List Int)) (inner := [.int .i64 0, .int .i64 1000, .int .i64 1000, .int .i64 10000]) (ok := fun _ => True) (okp := fun _ => True) ?hr ?hp (fun _ hk => hk) trivial (Below.refl _ _) (Nat.le_refl _) (by simp) ?_; (case hd => rfl); (case hg => rfl); (case hr => first | (go_simp; done) | (go_simp; rfl)); (case hp => exact (Reps.one (show Kd.M (Kd.int .i64) _ _ _ 0 [.int .i64 0] from rfl) (Reps.one (show Kd.M (Kd.int .i64) _ _ _ 1000 [.int .i64 1000] from rfl) (Reps.one (show Kd.M (Kd.int .i64) _ _ _ 1000 [.int .i64 1000] from rfl) (Reps.one (show Kd.M (Kd.int .i64) _ _ _ 10000 [.int .i64 10000] from rfl) (Reps.none _ _)))))); intro v279 w23 ho24 hb hg_ hnew_; clear hg_ hnew_; (first | rw [← Ny278.out] at ho24 | (simp only [Int.reduceToNat] at ho24; rw [← Ny278.out] at ho24)); have n0_ := Aside0.mk (Kd.R_elder' (by (with_reducible repeat (first | apply Kd.R_alloc | apply Kd.R_drewN | apply Kd.R_drew)); exact HO275.out) (Kd.R_base ho24) hb); have n1_ := Aside0.mk (Kd.R_lower (Kd.R_new' ho24 (Kd.R_lt (by (with_reducible repeat (first | apply Kd.R_alloc | apply Kd.R_drewN | apply Kd.R_drew)); exact HO275.out))) (below_size (by repeat (first | (with_reducible first | exact HB.out | apply below_alloc | apply pw_below_drewN | apply below_drew1) | exact HB.out)))); have n2_ := Aside0.mk (below_step (by repeat (first | (with_reducible first | exact HB.out | apply below_alloc | apply pw_below_drewN | apply below_drew1) | exact HB.out)) hb); clear HO275; clear HB; have HO275 := n0_; have HO280 := n1_; have HB := n2_; clear n0_ n1_ n2_; clear hb ho24; obtain ⟨Ao25, co25, eo25⟩ := Kd.R_slice HO280.out; subst eo25) | ((with_reducible refine gate_callee (f := 46) rfl ?_); refine goesL_ (some 26) rfl rfl Try.func46 (by kernel_rfl) rfl #[.int .i64 1005, .slice Ao25 y278.length co25] rfl (by (try simp only [List.map_toArray, List.map_cons, List.map_nil]); first | done | rfl | (simp only [List.length_drop, List.length_take]; rfl)) ?_; (with_reducible refine (fee_All.calls 1000 1005 _ _ y278 t281 t282 t283 t284 t285 _ ?side1 ?side2 A4.out).mono ?_); (case side1 => repeat (first | exact (Kd.R_reads' HO280.out).2.2 | (with_reducible refine Kd.C_alloc ?_ _) | (with_reducible refine Kd.C_drewN ?_ _) | (with_reducible refine Kd.C_drew ?_))); (case side2 => exact (Kd.R_reads' HO280.out).2.1); rintro e w26 ⟨rfl, hb⟩; refine ⟨_, rfl, ?_⟩; have n0_ := Aside0.mk (Kd.R_below (by (with_reducible repeat (first | apply Kd.R_alloc | apply Kd.R_drewN | apply Kd.R_drew)); exact HO275.out) hb); have n1_ := Aside0.mk (Kd.R_below (by (with_reducible repeat (first | apply Kd.R_alloc | apply Kd.R_drewN | apply Kd.R_drew)); exact HO280.out) hb); have n2_ := Aside0.mk (below_step (by repeat (first | (with_reducible first | exact HB.out | apply below_alloc | apply pw_below_drewN | apply below_drew1) | exact HB.out)) hb); clear HO275; clear HO280; clear HB; have HO275 := n0_; have HO280 := n1_; have HB := n2_; clear n0_ n1_ n2_; (try clear hb); (try clear hb2); (try clear hk); (try clear hi)) | ((with_reducible refine gate_dst (N := 7) rfl ?_); (try (refine gate_guard (by rfl) ?_; dsimp only)); refine box_event ?hg (N := 7) ?hd (cs := #[.int .i64 0, .int .i64 0, .int .i64 0, .int .i64 0]) (t := 39) ?hr ?_; (case hd => rfl); (case hg => rfl); (case hr => first | (go_simp; done) | (go_simp; rfl)); intro gb286 hg w27 hbox hb; have n0_ := Aside0.mk (Kd.R_below (by (with_reducible repeat (first | apply Kd.R_alloc | apply Kd.R_drewN | apply Kd.R_drew)); exact HO275.out) hb); have n1_ := Aside0.mk (Kd.R_below (by (with_reducible repeat (first | apply Kd.R_alloc | apply Kd.R_drewN | apply Kd.R_drew)); exact HO280.out) hb); have n2_ := Aside0.mk (below_step (by repeat (first | (with_reducible first | exact HB.out | apply below_alloc | apply pw_below_drewN | apply below_drew1) | exact HB.out)) hb); have n3_ := Aside0.mk (hbox); have n4_ := Aside0.mk ((by rw [hg]; exact (below_size (by repeat (first | (with_reducible first | exact HB.out | apply below_alloc | apply pw_below_drewN | apply below_drew1) | exact HB.out))) : w.heap.size ≤ gb286)); have n5_ := Aside0.mk ((by rw [hg]; exact (below_size (by repeat (first | (with_reducible first | exact HB.out | apply below_alloc | apply pw_below_drewN | apply below_drew1) | exact HB.out))) : w.heap.size ≤ gb286)); clear HO275; clear HO280; clear HB; have HO275 := n0_; have HO280 := n1_; have HB := n2_; have BK286 := n3_; have GW286 := n4_; have GE286 := n5_; clear n0_ n1_ n2_ n3_ n4_ n5_; clear hb hbox hg; have hcz28_0 : w27.cell? ⟨gb286, 0, none⟩ = some (.int .i64 0) := (blk_cell BK286.out 0).trans rfl; have hcz28_1 : w27.cell? ⟨gb286, 1, none⟩ = some (.int .i64 0) := (blk_cell BK286.out 1).trans rfl; have hcz28_2 : w27.cell? ⟨gb286, 2, none⟩ = some (.int .i64 0) := (blk_cell BK286.out 2).trans rfl; have hcz28_3 : w27.cell? ⟨gb286, 3, none⟩ = some (.int .i64 0) := (blk_cell BK286.out 3).trans rfl; have hfz28_0 := blk_frozen BK286.out 0; have hfz28_1 := blk_frozen BK286.out 1; have hfz28_2 := blk_frozen BK286.out 2; have hfz28_3 := blk_frozen BK286.out 3) | ((with_reducible refine gate_callee (f := 40) rfl ?_); refine goesL_ (some 30) rfl rfl Try.func40 (by kernel_rfl) rfl #[.int .i64 1, .int .i64 10001] rfl (by (try simp only [List.map_toArray, List.map_cons, List.map_nil]); first | done | rfl | (simp only [List.length_drop, List.length_take]; rfl)) ?_; (with_reducible refine (fee_Of.calls 1000 1 10001 t287 t288 _ A5.out).mono ?_); rintro e w29 ⟨rfl, hb⟩; refine ⟨_, rfl, ?_⟩; have n0_ := Aside0.mk (Kd.R_below (by (with_reducible repeat (first | apply Kd.R_alloc | apply Kd.R_drewN | apply Kd.R_drew)); exact (Kd.R_mono (Kd.R_far (p := ⟨gb286, 3, none⟩) (Kd.R_far (p := ⟨gb286, 2, none⟩) (Kd.R_far (p := ⟨gb286, 1, none⟩) (Kd.R_far (p := ⟨gb286, 0, none⟩) (Kd.R_types HO275.out BK286.out (by decide)) (fun _ hk => hk.2) (.int .i64 t281)) (fun _ hk => hk.2) (.int .i64 t282)) (fun _ hk => hk.2) (.int .i64 t283)) (fun _ hk => hk.2) (.int .i64 t284)) (fun _ h_ => h_.1))) hb); have n1_ := Aside0.mk (Kd.R_below (by (with_reducible repeat (first | apply Kd.R_alloc | apply Kd.R_drewN | apply Kd.R_drew)); exact (Kd.R_mono (Kd.R_far (p := ⟨gb286, 3, none⟩) (Kd.R_far (p := ⟨gb286, 2, none⟩) (Kd.R_far (p := ⟨gb286, 1, none⟩) (Kd.R_far (p := ⟨gb286, 0, none⟩) (Kd.R_types HO280.out BK286.out (by decide)) (fun _ hk => hk.2) (.int .i64 t281)) (fun _ hk => hk.2) (.int .i64 t282)) (fun _ hk => hk.2) (.int .i64 t283)) (fun _ hk => hk.2) (.int .i64 t284)) (fun _ h_ => h_.1))) hb); have n2_ := Aside0.mk (blk_below (g := gb286) (o := .cells #[.int .i64 t281, .int .i64 t282, .int .i64 t283, .int .i64 t284] 39 (0, 0)) (by (with_reducible repeat (first | refine blk_drewN ?_ _ | refine blk_drew ?_ | refine blk_alloc ?_ _)); refine blk_put (cs := #[.int .i64 t281, .int .i64 t282, .int .i64 t283, .int .i64 0]) ?_ 3 _ rfl; (with_reducible repeat (first | refine blk_drewN ?_ _ | refine blk_drew ?_ | refine blk_alloc ?_ _)); refine blk_put (cs := #[.int .i64 t281, .int .i64 t282, .int .i64 0, .int .i64 0]) ?_ 2 _ rfl; (with_reducible repeat (first | refine blk_drewN ?_ _ | refine blk_drew ?_ | refine blk_alloc ?_ _)); refine blk_put (cs := #[.int .i64 t281, .int .i64 0, .int .i64 0, .int .i64 0]) ?_ 1 _ rfl; (with_reducible repeat (first | refine blk_drewN ?_ _ | refine blk_drew ?_ | refine blk_alloc ?_ _)); refine blk_put (cs := #[.int .i64 0, .int .i64 0, .int .i64 0, .int .i64 0]) ?_ 0 _ rfl; (with_reducible repeat (first | refine blk_drewN ?_ _ | refine blk_drew ?_ | refine blk_alloc ?_ _)); exact BK286.out) hb); have n3_ := Aside0.mk (below_step (by repeat (first | (with_reducible first | exact HB.out | apply below_alloc | apply pw_below_drewN | apply below_drew1 | refine below_set ?_ GE286.out) | exact HB.out)) hb); clear HO275; clear HO280; clear BK286; clear HB; have HO275 := n0_; have HO280 := n1_; have BK286 := n2_; have HB := n3_; clear n0_ n1_ n2_ n3_; (try clear hb); (try clear hb2); (try clear hk); (try clear hi); have hcz30_0 : w29.cell? ⟨gb286, 0, none⟩ = some (.int .i64 t281) := (blk_cell BK286.out 0).trans rfl; have hcz30_1 : w29.cell? ⟨gb286, 1, none⟩ = some (.int .i64 t282) := (blk_cell BK286.out 1).trans rfl; have hcz30_2 : w29.cell? ⟨gb286, 2, none⟩ = some (.int .i64 t283) := (blk_cell BK286.out 2).trans rfl; have hcz30_3 : w29.cell? ⟨gb286, 3, none⟩ = some (.int .i64 t284) := (blk_cell BK286.out 3).trans rfl; have hfz30_0 := blk_frozen BK286.out 0; have hfz30_1 := blk_frozen BK286.out 1; have hfz30_2 := blk_frozen BK286.out 2; have hfz30_3 := blk_frozen BK286.out 3) | ((with_reducible refine gate_dst (N := 69) rfl ?_); (try (refine gate_guard (by rfl) ?_; dsimp only)); refine Kd.R_lit (Kd.int .i64) _ 3 ?hg (N := 69) ?hd (xs := ([1, 0, 2, 3] : List Int)) (inner := [.int .i64 1, .int .i64 0, .int .i64 2, .int .i64 3]) (ok := fun _ => True) (okp := fun _ => True) ?hr ?hp (fun _ hk => hk) trivial (Below.refl _ _) (Nat.le_refl _) (by simp) ?_; (case hd => rfl); (case hg => rfl); (case hr => first | (go_simp; done) | (go_simp; rfl)); (case hp => exact (Reps.one (show Kd.M (Kd.int .i64) _ _ _ 1 [.int .i64 1] from rfl) (Reps.one (show Kd.M (Kd.int .i64) _ _ _ 0 [.int .i64 0] from rfl) (Reps.one (show Kd.M (Kd.int .i64) _ _ _ 2 [.int .i64 2] from rfl) (Reps.one (show Kd.M (Kd.int .i64) _ _ _ 3 [.int .i64 3] from rfl) (Reps.none _ _)))))); intro v290 w31 ho32 hb hg_ hnew_; clear hg_ hnew_; (first | rw [← Ny289.out] at ho32 | (simp only [Int.reduceToNat] at ho32; rw [← Ny289.out] at ho32)); have n0_ := Aside0.mk (Kd.R_elder' (by (with_reducible repeat (first | apply Kd.R_alloc | apply Kd.R_drewN | apply Kd.R_drew)); exact HO275.out) (Kd.R_base ho32) hb); have n1_ := Aside0.mk (Kd.R_elder' (by (with_reducible repeat (first | apply Kd.R_alloc | apply Kd.R_drewN | apply Kd.R_drew)); exact HO280.out) (Kd.R_base ho32) hb); have n2_ := Aside0.mk (Kd.R_lower (Kd.R_new' (Kd.R_new' ho32 (Kd.R_lt (by (with_reducible repeat (first | apply Kd.R_alloc | apply Kd.R_drewN | apply Kd.R_drew)); exact HO275.out))) (Kd.R_lt (by (with_reducible repeat (first | apply Kd.R_alloc | apply Kd.R_drewN | apply Kd.R_drew)); exact HO280.out))) (below_size (by repeat (first | (with_reducible first | exact HB.out | apply below_alloc | apply pw_below_drewN | apply below_drew1 | refine below_set ?_ GE286.out) | exact HB.out)))); have n3_ := Aside0.mk (blk_below (g := gb286) (o := .cells #[.int .i64 t281, .int .i64 t282, .int .i64 t283, .int .i64 t284] 39 (0, 0)) (by (with_reducible repeat (first | refine blk_drewN ?_ _ | refine blk_drew ?_ | refine blk_alloc ?_ _)); exact BK286.out) hb); have n4_ := Aside0.mk (below_step (by repeat (first | (with_reducible first | exact HB.out | apply below_alloc | apply pw_below_drewN | apply below_drew1 | refine below_set ?_ GE286.out) | exact HB.out)) hb); clear HO275; clear HO280; clear BK286; clear HB; have HO275 := n0_; have HO280 := n1_; have HO291 := n2_; have BK286 := n3_; have HB := n4_; clear n0_ n1_ n2_ n3_ n4_; clear hb ho32; obtain ⟨Ao33, co33, eo33⟩ := Kd.R_slice HO291.out; subst eo33) | (go_at_call 48; (with_reducible refine (fee_Check.calls 1000 _ _ y289 t292 _ ?side1 ?side2 A15.out).mono ?_); (case side1 => repeat (first | exact (Kd.R_reads' HO291.out).2.2 | (with_reducible refine Kd.C_alloc ?_ _) | (with_reducible refine Kd.C_drewN ?_ _) | (with_reducible refine Kd.C_drew ?_))); (case side2 => exact (Kd.R_reads' HO291.out).2.1); rintro e w' ⟨rfl, ⟨nd, rfl⟩⟩))
                      go_ret
                      exact ⟨by first | rfl | (simp [errW_none, errW_some] <;> rfl) | (simp [*, errW_none, errW_some] <;> rfl), by repeat (first | (with_reducible first | exact HB.out | apply below_alloc | apply pw_below_drewN | apply below_drew1 | refine below_set ?_ GE286.out) | exact HB.out)⟩
                    · rw [if_neg c16] at H
                      have c16b0 : (t292 == 36) = false := beq_eq_false_iff_ne.mpr c16
                      have c16b1 : (t292 != 36) = true := bne_iff_ne.mpr c16
                      exact absurd H (by simp)
                  · rw [if_neg c14] at H
                    have c14b0 : (t288 == 2) = false := beq_eq_false_iff_ne.mpr c14
                    have c14b1 : (t288 != 2) = true := bne_iff_ne.mpr c14
                    exact absurd H (by simp)
                · rw [if_neg c13] at H
                  have c13b0 : (t285 == 0) = false := beq_eq_false_iff_ne.mpr c13
                  have c13b1 : (t285 != 0) = true := bne_iff_ne.mpr c13
                  exact absurd H (by simp)
              · rw [if_neg c12] at H
                have c12b0 : (t281 == 1005 && (t282 == 904 && (t283 == 904 && (t284 == 0)))) = false := by simpa using c12
                (try (have c12b1 : decide (t281 = 1005 && (t282 == 904 && (t283 == 904 && (t284 == 0)))) = false := by simpa using c12))
                (try (have c12b2 : (t281 == 1005 && (t282 == 904 && (t283 == 904 && (t284 == 0)))) = false := by simpa using c12))
                (try (have c12b3 : ¬ (t281 = 1005 && (t282 == 904 && (t283 == 904 && (t284 == 0)))) := by simpa using c12))
                clear c12
                exact absurd H (by simp)
            · rw [if_neg c11] at H
              have c11b0 : (t277 == 0) = false := beq_eq_false_iff_ne.mpr c11
              have c11b1 : (t277 != 0) = true := bne_iff_ne.mpr c11
              exact absurd H (by simp)
          · rw [if_neg c10] at H
            have c10b0 : (t276 == 0) = false := beq_eq_false_iff_ne.mpr c10
            have c10b1 : (t276 != 0) = true := bne_iff_ne.mpr c10
            exact absurd H (by simp)
        · rw [if_neg c9] at H
          have c9b0 : (t272 == 0) = false := beq_eq_false_iff_ne.mpr c9
          have c9b1 : (t272 != 0) = true := bne_iff_ne.mpr c9
          exact absurd H (by simp)
      · rw [if_neg c8] at H
        have c8b0 : (t271 == 904) = false := beq_eq_false_iff_ne.mpr c8
        have c8b1 : (t271 != 904) = true := bne_iff_ne.mpr c8
        exact absurd H (by simp)
    · rw [if_neg c7] at H
      have c7b0 : (t270 == 0) = false := beq_eq_false_iff_ne.mpr c7
      have c7b1 : (t270 != 0) = true := bne_iff_ne.mpr c7
      exact absurd H (by simp)
  · rw [if_neg c6] at H
    have c6b0 : (t269 == 101) = false := beq_eq_false_iff_ne.mpr c6
    have c6b1 : (t269 != 101) = true := bne_iff_ne.mpr c6
    exact absurd H (by simp)

end Go.Proofs.Ytefhljhpcpajgaa.F

namespace Go.Proofs.Ytefhljhpcpajgaa.F
open Go.RowKit Go.Proofs.YtefhljhpcpajgaaX Go.Proofs.YtefhljhpcpajgaaW.PrintWords Go.Proofs.YtefhljhpcpajgaaW.PrintLast Go.Proofs.YtefhljhpcpajgaaW.PrintMore
attribute [local go_sem] max2_int min2_int max_two min_two max_three min_three max_four min_four   -- for this text's walks alone
set_option linter.unusedVariables false
set_option linter.unusedSimpArgs false

/-! ### backhaullaw04_FeeBounds: function 8 -/
def backhaullaw04_FeeBounds.f (k : Nat) (a0 : Int) (a1 : Int) : Option (Bool) := (fee_Of.f k a0 a1).bind fun bt331 => ((fee_Less.f k a0 a1).bind fun bt333 => (if bt331.2 = 0 then (if bt333.2 = 0 then (if bt331.1 < 0 then (some false) else (if bt331.1 > a0 then (some false) else (if bt333.1 = (wrap64 (a0 - bt331.1)) then (if a1 = 0 then (if bt331.1 = 0 then (if a1 = 10000 then (if bt331.1 = a0 then ((backhaullaw04_awake.f).bind fun t335 => (if t335 = true then (some true) else (some false))) else (some false)) else ((backhaullaw04_awake.f).bind fun t336 => (if t336 = true then (some true) else (some false)))) else (some false)) else (if a1 = 10000 then (if bt331.1 = a0 then ((backhaullaw04_awake.f).bind fun t337 => (if t337 = true then (some true) else (some false))) else (some false)) else ((backhaullaw04_awake.f).bind fun t338 => (if t338 = true then (some true) else (some false))))) else (some false)))) else (some false)) else (if bt331.1 = 0 then (if bt333.1 = 0 then (if bt333.2 = bt331.2 then ((backhaullaw04_awake.f).bind fun t339 => (if t339 = true then (some true) else (some false))) else (some false)) else (some false)) else (some false))))
theorem backhaullaw04_FeeBounds.mono : ∀ a0 a1 k, LeO (backhaullaw04_FeeBounds.f k a0 a1) (backhaullaw04_FeeBounds.f (k + 1) a0 a1) := by
  intro a0 a1 k
  unfold backhaullaw04_FeeBounds.f
  repeat' first
      | (with_reducible exact fee_Less.mono _ _ _)
      | (with_reducible exact fee_Of.mono _ _ _)
      | (with_reducible exact LeO.refl _)
      | (with_reducible exact LeO.none _)
      | (with_reducible refine LeO.ite ?_ ?_)
      | (with_reducible refine LeO.bind ?_ (fun _ => ?_))
      | exact fee_Less.mono _ _ _
      | exact fee_Of.mono _ _ _
      | exact LeO.none _
      | refine LeO.ite ?_ ?_
      | refine LeO.bind ?_ (fun _ => ?_)
set_option maxHeartbeats 8000000 in
set_option maxRecDepth 100000 in
theorem backhaullaw04_FeeBounds.calls (k : Nat) (a0 : Int) (a1 : Int) (w : World) (h : backhaullaw04_FeeBounds.f k a0 a1 = some true) :
    Calls Try.prog 8 #[.int .i64 a0, .int .i64 a1] w fun e w' => e = .returned (.bool true) ∧ Below w.heap.size w w' := by
  have HB := Aside0.mk (Below.refl w.heap.size w)
  have H : ((fee_Of.f k a0 a1).bind fun bt331 => ((fee_Less.f k a0 a1).bind fun bt333 => (if bt331.2 = 0 then (if bt333.2 = 0 then (if bt331.1 < 0 then (some false) else (if bt331.1 > a0 then (some false) else (if bt333.1 = (wrap64 (a0 - bt331.1)) then (if a1 = 0 then (if bt331.1 = 0 then (if a1 = 10000 then (if bt331.1 = a0 then ((backhaullaw04_awake.f).bind fun t335 => (if t335 = true then (some true) else (some false))) else (some false)) else ((backhaullaw04_awake.f).bind fun t336 => (if t336 = true then (some true) else (some false)))) else (some false)) else (if a1 = 10000 then (if bt331.1 = a0 then ((backhaullaw04_awake.f).bind fun t337 => (if t337 = true then (some true) else (some false))) else (some false)) else ((backhaullaw04_awake.f).bind fun t338 => (if t338 = true then (some true) else (some false))))) else (some false)))) else (some false)) else (if bt331.1 = 0 then (if bt333.1 = 0 then (if bt333.2 = bt331.2 then ((backhaullaw04_awake.f).bind fun t339 => (if t339 = true then (some true) else (some false))) else (some false)) else (some false)) else (some false))))) = some true := h
  clear h
  replace H := Option.bind_eq_some_iff.mp H
  obtain ⟨⟨t331, t332⟩, A30, H⟩ := H
  replace H : ((fee_Less.f k a0 a1).bind fun bt333 => (if t332 = 0 then (if bt333.2 = 0 then (if t331 < 0 then (some false) else (if t331 > a0 then (some false) else (if bt333.1 = (wrap64 (a0 - t331)) then (if a1 = 0 then (if t331 = 0 then (if a1 = 10000 then (if t331 = a0 then ((backhaullaw04_awake.f).bind fun t335 => (if t335 = true then (some true) else (some false))) else (some false)) else ((backhaullaw04_awake.f).bind fun t336 => (if t336 = true then (some true) else (some false)))) else (some false)) else (if a1 = 10000 then (if t331 = a0 then ((backhaullaw04_awake.f).bind fun t337 => (if t337 = true then (some true) else (some false))) else (some false)) else ((backhaullaw04_awake.f).bind fun t338 => (if t338 = true then (some true) else (some false))))) else (some false)))) else (some false)) else (if t331 = 0 then (if bt333.1 = 0 then (if bt333.2 = t332 then ((backhaullaw04_awake.f).bind fun t339 => (if t339 = true then (some true) else (some false))) else (some false)) else (some false)) else (some false)))) = some true := H
  have A3 := Aside0.mk A30
  clear A30
  replace H := Option.bind_eq_some_iff.mp H
  obtain ⟨⟨t333, t334⟩, A40, H⟩ := H
  replace H : (if t332 = 0 then (if t334 = 0 then (if t331 < 0 then (some false) else (if t331 > a0 then (some false) else (if t333 = (wrap64 (a0 - t331)) then (if a1 = 0 then (if t331 = 0 then (if a1 = 10000 then (if t331 = a0 then ((backhaullaw04_awake.f).bind fun t335 => (if t335 = true then (some true) else (some false))) else (some false)) else ((backhaullaw04_awake.f).bind fun t336 => (if t336 = true then (some true) else (some false)))) else (some false)) else (if a1 = 10000 then (if t331 = a0 then ((backhaullaw04_awake.f).bind fun t337 => (if t337 = true then (some true) else (some false))) else (some false)) else ((backhaullaw04_awake.f).bind fun t338 => (if t338 = true then (some true) else (some false))))) else (some false)))) else (some false)) else (if t331 = 0 then (if t333 = 0 then (if t334 = t332 then ((backhaullaw04_awake.f).bind fun t339 => (if t339 = true then (some true) else (some false))) else (some false)) else (some false)) else (some false))) = some true := H
  have A4 := Aside0.mk A40
  clear A40
  by_cases c5 : t332 = 0
  · rw [if_pos c5] at H
    have c5b0 : (t332 == 0) = true := beq_iff_eq.mpr c5
    have c5b1 : (t332 != 0) = false := bne_eq_false_iff_eq.mpr c5
    clear c5
    by_cases c6 : t334 = 0
    · rw [if_pos c6] at H
      have c6b0 : (t334 == 0) = true := beq_iff_eq.mpr c6
      have c6b1 : (t334 != 0) = false := bne_eq_false_iff_eq.mpr c6
      clear c6
      by_cases c7 : t331 < 0
      · rw [if_pos c7] at H
        have c7b0 : decide (t331 < 0) = true := decide_eq_true c7
        clear c7
        exact absurd H (by simp)
      · rw [if_neg c7] at H
        have c7b0 : decide (t331 < 0) = false := decide_eq_false c7
        clear c7
        by_cases c8 : t331 > a0
        · rw [if_pos c8] at H
          have c8b0 : decide (a0 < t331) = true := decide_eq_true c8
          clear c8
          exact absurd H (by simp)
        · rw [if_neg c8] at H
          have c8b0 : decide (a0 < t331) = false := decide_eq_false c8
          clear c8
          by_cases c9 : t333 = (wrap64 (a0 - t331))
          · rw [if_pos c9] at H
            have c9b0 : (t333 == (wrap64 (a0 - t331))) = true := beq_iff_eq.mpr c9
            have c9b1 : (t333 != (wrap64 (a0 - t331))) = false := bne_eq_false_iff_eq.mpr c9
            clear c9
            by_cases c10 : a1 = 0
            · rw [if_pos c10] at H
              have c10b0 : (a1 == 0) = true := beq_iff_eq.mpr c10
              have c10b1 : (a1 != 0) = false := bne_eq_false_iff_eq.mpr c10
              clear c10
              by_cases c11 : t331 = 0
              · rw [if_pos c11] at H
                have c11b0 : (t331 == 0) = true := beq_iff_eq.mpr c11
                have c11b1 : (t331 != 0) = false := bne_eq_false_iff_eq.mpr c11
                clear c11
                by_cases c12 : a1 = 10000
                · rw [if_pos c12] at H
                  have c12b0 : (a1 == 10000) = true := beq_iff_eq.mpr c12
                  have c12b1 : (a1 != 10000) = false := bne_eq_false_iff_eq.mpr c12
                  clear c12
                  by_cases c13 : t331 = a0
                  · rw [if_pos c13] at H
                    have c13b0 : (t331 == a0) = true := beq_iff_eq.mpr c13
                    have c13b1 : (t331 != a0) = false := bne_eq_false_iff_eq.mpr c13
                    clear c13
                    replace H := Option.bind_eq_some_iff.mp H
                    obtain ⟨t335, A140, H⟩ := H
                    replace H : (if t335 = true then (some true) else (some false)) = some true := H
                    have A14 := Aside0.mk A140
                    clear A140
                    by_cases c15 : t335 = true
                    · subst c15
                      have H1 : (some true) = some true := by first | (rw [if_pos rfl] at H; exact H) | rfl
                      clear H
                      have H := H1
                      clear H1
                      clear H
                      go_enter Try.func8, Try.ntmps8
                      go_wp2_with (first | ((with_reducible refine gate_callee (f := 40) rfl ?_); refine goesL_ (some 12) rfl rfl Try.func40 (by kernel_rfl) rfl #[.int .i64 a0, .int .i64 a1] rfl (by (try simp only [List.map_toArray, List.map_cons, List.map_nil]); first | done | rfl | (simp only [List.length_drop, List.length_take]; rfl)) ?_; (with_reducible refine (fee_Of.calls k a0 a1 t331 t332 _ A3.out).mono ?_); rintro e w16 ⟨rfl, hb⟩; refine ⟨_, rfl, ?_⟩; have n0_ := Aside0.mk (below_step (by repeat (first | (with_reducible first | exact HB.out | apply below_alloc | apply pw_below_drewN | apply below_drew1) | exact HB.out)) hb); clear HB; have HB := n0_; clear n0_; (try clear hb); (try clear hb2); (try clear hk); (try clear hi)) | ((with_reducible refine gate_callee (f := 42) rfl ?_); refine goesL_ (some 18) rfl rfl Try.func42 (by kernel_rfl) rfl #[.int .i64 a0, .int .i64 a1] rfl (by (try simp only [List.map_toArray, List.map_cons, List.map_nil]); first | done | rfl | (simp only [List.length_drop, List.length_take]; rfl)) ?_; (with_reducible refine (fee_Less.calls k a0 a1 t333 t334 _ A4.out).mono ?_); rintro e w17 ⟨rfl, hb⟩; refine ⟨_, rfl, ?_⟩; have n0_ := Aside0.mk (below_step (by repeat (first | (with_reducible first | exact HB.out | apply below_alloc | apply pw_below_drewN | apply below_drew1) | exact HB.out)) hb); clear HB; have HB := n0_; clear n0_; (try clear hb); (try clear hb2); (try clear hk); (try clear hi)) | (go_at_call 39; (with_reducible refine (backhaullaw04_awake.calls  true _ A14.out).mono ?_); rintro e w18 ⟨rfl, hb⟩; have n0_ := Aside0.mk (below_step (by repeat (first | (with_reducible first | exact HB.out | apply below_alloc | apply pw_below_drewN | apply below_drew1) | exact HB.out)) hb); clear HB; have HB := n0_; clear n0_; (try clear hb); (try clear hb2); (try clear hk); (try clear hi)))
                      go_ret
                      exact ⟨by first | rfl | (simp [errW_none, errW_some] <;> rfl) | (simp [*, errW_none, errW_some] <;> rfl), by repeat (first | (with_reducible first | exact HB.out | apply below_alloc | apply pw_below_drewN | apply below_drew1) | exact HB.out)⟩
                    · replace c15 := Bool.eq_false_iff.mpr c15
                      subst c15
                      have H1 : (some false) = some true := by first | (rw [if_neg (show ¬ (false = true) by decide)] at H; exact H) | rfl
                      clear H
                      have H := H1
                      clear H1
                      exact absurd H (by simp)
                  · rw [if_neg c13] at H
                    have c13b0 : (t331 == a0) = false := beq_eq_false_iff_ne.mpr c13
                    have c13b1 : (t331 != a0) = true := bne_iff_ne.mpr c13
                    exact absurd H (by simp)
                · rw [if_neg c12] at H
                  have c12b0 : (a1 == 10000) = false := beq_eq_false_iff_ne.mpr c12
                  have c12b1 : (a1 != 10000) = true := bne_iff_ne.mpr c12
                  replace H := Option.bind_eq_some_iff.mp H
                  obtain ⟨t336, A190, H⟩ := H
                  replace H : (if t336 = true then (some true) else (some false)) = some true := H
                  have A19 := Aside0.mk A190
                  clear A190
                  by_cases c20 : t336 = true
                  · subst c20
                    have H1 : (some true) = some true := by first | (rw [if_pos rfl] at H; exact H) | rfl
                    clear H
                    have H := H1
                    clear H1
                    clear H
                    go_enter Try.func8, Try.ntmps8
                    go_wp2_with (first | ((with_reducible refine gate_callee (f := 40) rfl ?_); refine goesL_ (some 12) rfl rfl Try.func40 (by kernel_rfl) rfl #[.int .i64 a0, .int .i64 a1] rfl (by (try simp only [List.map_toArray, List.map_cons, List.map_nil]); first | done | rfl | (simp only [List.length_drop, List.length_take]; rfl)) ?_; (with_reducible refine (fee_Of.calls k a0 a1 t331 t332 _ A3.out).mono ?_); rintro e w21 ⟨rfl, hb⟩; refine ⟨_, rfl, ?_⟩; have n0_ := Aside0.mk (below_step (by repeat (first | (with_reducible first | exact HB.out | apply below_alloc | apply pw_below_drewN | apply below_drew1) | exact HB.out)) hb); clear HB; have HB := n0_; clear n0_; (try clear hb); (try clear hb2); (try clear hk); (try clear hi)) | ((with_reducible refine gate_callee (f := 42) rfl ?_); refine goesL_ (some 18) rfl rfl Try.func42 (by kernel_rfl) rfl #[.int .i64 a0, .int .i64 a1] rfl (by (try simp only [List.map_toArray, List.map_cons, List.map_nil]); first | done | rfl | (simp only [List.length_drop, List.length_take]; rfl)) ?_; (with_reducible refine (fee_Less.calls k a0 a1 t333 t334 _ A4.out).mono ?_); rintro e w22 ⟨rfl, hb⟩; refine ⟨_, rfl, ?_⟩; have n0_ := Aside0.mk (below_step (by repeat (first | (with_reducible first | exact HB.out | apply below_alloc | apply pw_below_drewN | apply below_drew1) | exact HB.out)) hb); clear HB; have HB := n0_; clear n0_; (try clear hb); (try clear hb2); (try clear hk); (try clear hi)) | (go_at_call 39; (with_reducible refine (backhaullaw04_awake.calls  true _ A19.out).mono ?_); rintro e w23 ⟨rfl, hb⟩; have n0_ := Aside0.mk (below_step (by repeat (first | (with_reducible first | exact HB.out | apply below_alloc | apply pw_below_drewN | apply below_drew1) | exact HB.out)) hb); clear HB; have HB := n0_; clear n0_; (try clear hb); (try clear hb2); (try clear hk); (try clear hi)))
                    go_ret
                    exact ⟨by first | rfl | (simp [errW_none, errW_some] <;> rfl) | (simp [*, errW_none, errW_some] <;> rfl), by repeat (first | (with_reducible first | exact HB.out | apply below_alloc | apply pw_below_drewN | apply below_drew1) | exact HB.out)⟩
                  · replace c20 := Bool.eq_false_iff.mpr c20
                    subst c20
                    have H1 : (some false) = some true := by first | (rw [if_neg (show ¬ (false = true) by decide)] at H; exact H) | rfl
                    clear H
                    have H := H1
                    clear H1
                    exact absurd H (by simp)
              · rw [if_neg c11] at H
                have c11b0 : (t331 == 0) = false := beq_eq_false_iff_ne.mpr c11
                have c11b1 : (t331 != 0) = true := bne_iff_ne.mpr c11
                exact absurd H (by simp)
            · rw [if_neg c10] at H
              have c10b0 : (a1 == 0) = false := beq_eq_false_iff_ne.mpr c10
              have c10b1 : (a1 != 0) = true := bne_iff_ne.mpr c10
              by_cases c24 : a1 = 10000
              · rw [if_pos c24] at H
                have c24b0 : (a1 == 10000) = true := beq_iff_eq.mpr c24
                have c24b1 : (a1 != 10000) = false := bne_eq_false_iff_eq.mpr c24
                clear c24
                by_cases c25 : t331 = a0
                · rw [if_pos c25] at H
                  have c25b0 : (t331 == a0) = true := beq_iff_eq.mpr c25
                  have c25b1 : (t331 != a0) = false := bne_eq_false_iff_eq.mpr c25
                  clear c25
                  replace H := Option.bind_eq_some_iff.mp H
                  obtain ⟨t337, A260, H⟩ := H
                  replace H : (if t337 = true then (some true) else (some false)) = some true := H
                  have A26 := Aside0.mk A260
                  clear A260
                  by_cases c27 : t337 = true
                  · subst c27
                    have H1 : (some true) = some true := by first | (rw [if_pos rfl] at H; exact H) | rfl
                    clear H
                    have H := H1
                    clear H1
                    clear H
                    go_enter Try.func8, Try.ntmps8
                    go_wp2_with (first | ((with_reducible refine gate_callee (f := 40) rfl ?_); refine goesL_ (some 12) rfl rfl Try.func40 (by kernel_rfl) rfl #[.int .i64 a0, .int .i64 a1] rfl (by (try simp only [List.map_toArray, List.map_cons, List.map_nil]); first | done | rfl | (simp only [List.length_drop, List.length_take]; rfl)) ?_; (with_reducible refine (fee_Of.calls k a0 a1 t331 t332 _ A3.out).mono ?_); rintro e w28 ⟨rfl, hb⟩; refine ⟨_, rfl, ?_⟩; have n0_ := Aside0.mk (below_step (by repeat (first | (with_reducible first | exact HB.out | apply below_alloc | apply pw_below_drewN | apply below_drew1) | exact HB.out)) hb); clear HB; have HB := n0_; clear n0_; (try clear hb); (try clear hb2); (try clear hk); (try clear hi)) | ((with_reducible refine gate_callee (f := 42) rfl ?_); refine goesL_ (some 18) rfl rfl Try.func42 (by kernel_rfl) rfl #[.int .i64 a0, .int .i64 a1] rfl (by (try simp only [List.map_toArray, List.map_cons, List.map_nil]); first | done | rfl | (simp only [List.length_drop, List.length_take]; rfl)) ?_; (with_reducible refine (fee_Less.calls k a0 a1 t333 t334 _ A4.out).mono ?_); rintro e w29 ⟨rfl, hb⟩; refine ⟨_, rfl, ?_⟩; have n0_ := Aside0.mk (below_step (by repeat (first | (with_reducible first | exact HB.out | apply below_alloc | apply pw_below_drewN | apply below_drew1) | exact HB.out)) hb); clear HB; have HB := n0_; clear n0_; (try clear hb); (try clear hb2); (try clear hk); (try clear hi)) | (go_at_call 39; (with_reducible refine (backhaullaw04_awake.calls  true _ A26.out).mono ?_); rintro e w30 ⟨rfl, hb⟩; have n0_ := Aside0.mk (below_step (by repeat (first | (with_reducible first | exact HB.out | apply below_alloc | apply pw_below_drewN | apply below_drew1) | exact HB.out)) hb); clear HB; have HB := n0_; clear n0_; (try clear hb); (try clear hb2); (try clear hk); (try clear hi)))
                    go_ret
                    exact ⟨by first | rfl | (simp [errW_none, errW_some] <;> rfl) | (simp [*, errW_none, errW_some] <;> rfl), by repeat (first | (with_reducible first | exact HB.out | apply below_alloc | apply pw_below_drewN | apply below_drew1) | exact HB.out)⟩
                  · replace c27 := Bool.eq_false_iff.mpr c27
                    subst c27
                    have H1 : (some false) = some true := by first | (rw [if_neg (show ¬ (false = true) by decide)] at H; exact H) | rfl
                    clear H
                    have H := H1
                    clear H1
                    exact absurd H (by simp)
                · rw [if_neg c25] at H
                  have c25b0 : (t331 == a0) = false := beq_eq_false_iff_ne.mpr c25
                  have c25b1 : (t331 != a0) = true := bne_iff_ne.mpr c25
                  exact absurd H (by simp)
              · rw [if_neg c24] at H
                have c24b0 : (a1 == 10000) = false := beq_eq_false_iff_ne.mpr c24
                have c24b1 : (a1 != 10000) = true := bne_iff_ne.mpr c24
                replace H := Option.bind_eq_some_iff.mp H
                obtain ⟨t338, A310, H⟩ := H
                replace H : (if t338 = true then (some true) else (some false)) = some true := H
                have A31 := Aside0.mk A310
                clear A310
                by_cases c32 : t338 = true
                · subst c32
                  have H1 : (some true) = some true := by first | (rw [if_pos rfl] at H; exact H) | rfl
                  clear H
                  have H := H1
                  clear H1
                  clear H
                  go_enter Try.func8, Try.ntmps8
                  go_wp2_with (first | ((with_reducible refine gate_callee (f := 40) rfl ?_); refine goesL_ (some 12) rfl rfl Try.func40 (by kernel_rfl) rfl #[.int .i64 a0, .int .i64 a1] rfl (by (try simp only [List.map_toArray, List.map_cons, List.map_nil]); first | done | rfl | (simp only [List.length_drop, List.length_take]; rfl)) ?_; (with_reducible refine (fee_Of.calls k a0 a1 t331 t332 _ A3.out).mono ?_); rintro e w33 ⟨rfl, hb⟩; refine ⟨_, rfl, ?_⟩; have n0_ := Aside0.mk (below_step (by repeat (first | (with_reducible first | exact HB.out | apply below_alloc | apply pw_below_drewN | apply below_drew1) | exact HB.out)) hb); clear HB; have HB := n0_; clear n0_; (try clear hb); (try clear hb2); (try clear hk); (try clear hi)) | ((with_reducible refine gate_callee (f := 42) rfl ?_); refine goesL_ (some 18) rfl rfl Try.func42 (by kernel_rfl) rfl #[.int .i64 a0, .int .i64 a1] rfl (by (try simp only [List.map_toArray, List.map_cons, List.map_nil]); first | done | rfl | (simp only [List.length_drop, List.length_take]; rfl)) ?_; (with_reducible refine (fee_Less.calls k a0 a1 t333 t334 _ A4.out).mono ?_); rintro e w34 ⟨rfl, hb⟩; refine ⟨_, rfl, ?_⟩; have n0_ := Aside0.mk (below_step (by repeat (first | (with_reducible first | exact HB.out | apply below_alloc | apply pw_below_drewN | apply below_drew1) | exact HB.out)) hb); clear HB; have HB := n0_; clear n0_; (try clear hb); (try clear hb2); (try clear hk); (try clear hi)) | (go_at_call 39; (with_reducible refine (backhaullaw04_awake.calls  true _ A31.out).mono ?_); rintro e w35 ⟨rfl, hb⟩; have n0_ := Aside0.mk (below_step (by repeat (first | (with_reducible first | exact HB.out | apply below_alloc | apply pw_below_drewN | apply below_drew1) | exact HB.out)) hb); clear HB; have HB := n0_; clear n0_; (try clear hb); (try clear hb2); (try clear hk); (try clear hi)))
                  go_ret
                  exact ⟨by first | rfl | (simp [errW_none, errW_some] <;> rfl) | (simp [*, errW_none, errW_some] <;> rfl), by repeat (first | (with_reducible first | exact HB.out | apply below_alloc | apply pw_below_drewN | apply below_drew1) | exact HB.out)⟩
                · replace c32 := Bool.eq_false_iff.mpr c32
                  subst c32
                  have H1 : (some false) = some true := by first | (rw [if_neg (show ¬ (false = true) by decide)] at H; exact H) | rfl
                  clear H
                  have H := H1
                  clear H1
                  exact absurd H (by simp)
          · rw [if_neg c9] at H
            have c9b0 : (t333 == (wrap64 (a0 - t331))) = false := beq_eq_false_iff_ne.mpr c9
            have c9b1 : (t333 != (wrap64 (a0 - t331))) = true := bne_iff_ne.mpr c9
            exact absurd H (by simp)
    · rw [if_neg c6] at H
      have c6b0 : (t334 == 0) = false := beq_eq_false_iff_ne.mpr c6
      have c6b1 : (t334 != 0) = true := bne_iff_ne.mpr c6
      exact absurd H (by simp)
  · rw [if_neg c5] at H
    have c5b0 : (t332 == 0) = false := beq_eq_false_iff_ne.mpr c5
    have c5b1 : (t332 != 0) = true := bne_iff_ne.mpr c5
    by_cases c36 : t331 = 0
    · rw [if_pos c36] at H
      have c36b0 : (t331 == 0) = true := beq_iff_eq.mpr c36
      have c36b1 : (t331 != 0) = false := bne_eq_false_iff_eq.mpr c36
      clear c36
      by_cases c37 : t333 = 0
      · rw [if_pos c37] at H
        have c37b0 : (t333 == 0) = true := beq_iff_eq.mpr c37
        have c37b1 : (t333 != 0) = false := bne_eq_false_iff_eq.mpr c37
        clear c37
        by_cases c38 : t334 = t332
        · rw [if_pos c38] at H
          have c38b0 : (t334 == t332) = true := beq_iff_eq.mpr c38
          have c38b1 : (t334 != t332) = false := bne_eq_false_iff_eq.mpr c38
          clear c38
          replace H := Option.bind_eq_some_iff.mp H
          obtain ⟨t339, A390, H⟩ := H
          replace H : (if t339 = true then (some true) else (some false)) = some true := H
          have A39 := Aside0.mk A390
          clear A390
          by_cases c40 : t339 = true
          · subst c40
            have H1 : (some true) = some true := by first | (rw [if_pos rfl] at H; exact H) | rfl
            clear H
            have H := H1
            clear H1
            clear H
            go_enter Try.func8, Try.ntmps8
            go_wp2_with (first | ((with_reducible refine gate_callee (f := 40) rfl ?_); refine goesL_ (some 12) rfl rfl Try.func40 (by kernel_rfl) rfl #[.int .i64 a0, .int .i64 a1] rfl (by (try simp only [List.map_toArray, List.map_cons, List.map_nil]); first | done | rfl | (simp only [List.length_drop, List.length_take]; rfl)) ?_; (with_reducible refine (fee_Of.calls k a0 a1 t331 t332 _ A3.out).mono ?_); rintro e w41 ⟨rfl, hb⟩; refine ⟨_, rfl, ?_⟩; have n0_ := Aside0.mk (below_step (by repeat (first | (with_reducible first | exact HB.out | apply below_alloc | apply pw_below_drewN | apply below_drew1) | exact HB.out)) hb); clear HB; have HB := n0_; clear n0_; (try clear hb); (try clear hb2); (try clear hk); (try clear hi)) | ((with_reducible refine gate_callee (f := 42) rfl ?_); refine goesL_ (some 18) rfl rfl Try.func42 (by kernel_rfl) rfl #[.int .i64 a0, .int .i64 a1] rfl (by (try simp only [List.map_toArray, List.map_cons, List.map_nil]); first | done | rfl | (simp only [List.length_drop, List.length_take]; rfl)) ?_; (with_reducible refine (fee_Less.calls k a0 a1 t333 t334 _ A4.out).mono ?_); rintro e w42 ⟨rfl, hb⟩; refine ⟨_, rfl, ?_⟩; have n0_ := Aside0.mk (below_step (by repeat (first | (with_reducible first | exact HB.out | apply below_alloc | apply pw_below_drewN | apply below_drew1) | exact HB.out)) hb); clear HB; have HB := n0_; clear n0_; (try clear hb); (try clear hb2); (try clear hk); (try clear hi)) | (go_at_call 39; (with_reducible refine (backhaullaw04_awake.calls  true _ A39.out).mono ?_); rintro e w43 ⟨rfl, hb⟩; have n0_ := Aside0.mk (below_step (by repeat (first | (with_reducible first | exact HB.out | apply below_alloc | apply pw_below_drewN | apply below_drew1) | exact HB.out)) hb); clear HB; have HB := n0_; clear n0_; (try clear hb); (try clear hb2); (try clear hk); (try clear hi)))
            go_ret
            exact ⟨by first | rfl | (simp [errW_none, errW_some] <;> rfl) | (simp [*, errW_none, errW_some] <;> rfl), by repeat (first | (with_reducible first | exact HB.out | apply below_alloc | apply pw_below_drewN | apply below_drew1) | exact HB.out)⟩
          · replace c40 := Bool.eq_false_iff.mpr c40
            subst c40
            have H1 : (some false) = some true := by first | (rw [if_neg (show ¬ (false = true) by decide)] at H; exact H) | rfl
            clear H
            have H := H1
            clear H1
            exact absurd H (by simp)
        · rw [if_neg c38] at H
          have c38b0 : (t334 == t332) = false := beq_eq_false_iff_ne.mpr c38
          have c38b1 : (t334 != t332) = true := bne_iff_ne.mpr c38
          exact absurd H (by simp)
      · rw [if_neg c37] at H
        have c37b0 : (t333 == 0) = false := beq_eq_false_iff_ne.mpr c37
        have c37b1 : (t333 != 0) = true := bne_iff_ne.mpr c37
        exact absurd H (by simp)
    · rw [if_neg c36] at H
      have c36b0 : (t331 == 0) = false := beq_eq_false_iff_ne.mpr c36
      have c36b1 : (t331 != 0) = true := bne_iff_ne.mpr c36
      exact absurd H (by simp)

/-- THE ONE PURE STATEMENT of backhaullaw04_FeeBounds. -/
def backhaullaw04_FeeBounds.Pure : Prop := ∀ (a0 : Int) (a1 : Int), (Lit.int .i64 a0).wf = true → (Lit.int .i64 a1).wf = true → ∃ k, backhaullaw04_FeeBounds.f k a0 a1 = some true

end Go.Proofs.Ytefhljhpcpajgaa.F

/- Plain lemmas on 'from some number of rounds on'; no condition. -/
set_option linter.unusedVariables false
namespace Go.Proofs.Ytefhljhpcpajgaa.Q
open Go.RowKit Go.Proofs.YtefhljhpcpajgaaW.PrintWords Go.Proofs.YtefhljhpcpajgaaW.PrintLast Go.Proofs.YtefhljhpcpajgaaW.PrintMore

theorem Ev.ite {α : Type} {c : Prop} [Decidable c] {a b : Nat → Option α} {r : α} (h1 : c → Ev a r) (h2 : ¬ c → Ev b r) : Ev (fun k => if c then a k else b k) r := by
  by_cases h : c
  · simp only [if_pos h]; exact h1 h
  · simp only [if_neg h]; exact h2 h
theorem Ev.pos {α : Type} {c : Prop} [Decidable c] {a b : Nat → Option α} {r : α} (h : c) (h1 : Ev a r) : Ev (fun k => if c then a k else b k) r := by
  simp only [if_pos h]; exact h1
theorem Ev.neg {α : Type} {c : Prop} [Decidable c] {a b : Nat → Option α} {r : α} (h : ¬ c) (h1 : Ev b r) : Ev (fun k => if c then a k else b k) r := by
  simp only [if_neg h]; exact h1
theorem Ev.ok {α : Type} {a b : α} (h : a = b) : Ev (fun _ => some a) b := ⟨0, fun _ _ => by rw [h]⟩
theorem Ev.const {α : Type} {o : Option α} {r : α} (h : o = some r) : Ev (fun _ => o) r := ⟨0, fun _ _ => h⟩
theorem Ev.bindc {α β : Type} {o : Option α} {f : Nat → α → Option β} {a : α} {r : β} (h : o = some a) (k : Ev (fun n => f n a) r) : Ev (fun n => o.bind (f n)) r := by
  subst h
  exact k
theorem Ev.eq {α : Type} {g : Nat → Option α} {a b : α} (h : Ev g a) (e : a = b) : Ev g b := e ▸ h

theorem i64_bounds {x : Int} (h : (Lit.int .i64 x).wf = true) : -9223372036854775808 ≤ x ∧ x ≤ 9223372036854775807 := by
  simp [Lit.wf, IntKind.min, IntKind.max, IntKind.signed, IntKind.bits] at h
  omega
theorem wrap_eq {x : Int} (h0 : -9223372036854775808 ≤ x) (h1 : x ≤ 9223372036854775807) : wrap64 x = x := by
  unfold wrap64; omega
theorem u64_eq {x : Int} (h0 : 0 ≤ x) (h1 : x < 18446744073709551616) : IntKind.u64.wrap x = x := by
  simp [IntKind.wrap, IntKind.signed, IntKind.bits]; omega
theorem countP_split {α : Type} {p : α → Bool} {l : List α} {n : Nat} (hn : n ≤ l.length) (h1 : ∀ j (h : j < l.length), j < n → p l[j] = true) (h2 : ∀ j (h : j < l.length), n ≤ j → p l[j] = false) : l.countP p = n := by
  have e : l = l.take n ++ l.drop n := (List.take_append_drop n l).symm
  have a : (l.take n).countP p = (l.take n).length := by
    rw [List.countP_eq_length]
    intro x hx
    obtain ⟨j, hj, rfl⟩ := List.mem_iff_getElem.1 hx
    rw [List.length_take] at hj
    rw [List.getElem_take]
    exact h1 j (by omega) (by omega)
  have b : (l.drop n).countP p = 0 := by
    rw [List.countP_eq_zero]
    intro x hx
    obtain ⟨j, hj, rfl⟩ := List.mem_iff_getElem.1 hx
    rw [List.length_drop] at hj
    rw [List.getElem_drop, h2 (n + j) (by omega) (by omega)]
    simp
  rw [e, List.countP_append, a, b, List.length_take]
  omega
theorem idxOf_first {α : Type} [BEq α] [LawfulBEq α] {l : List α} {t : α} {i : Nat} (h : i < l.length) (he : l[i] = t) (h1 : ∀ j (h : j < l.length), j < i → l[j] ≠ t) : l.idxOf t = i := by
  unfold List.idxOf
  rw [List.findIdx_eq h]
  exact ⟨by simp [he], fun j hj => by simpa using h1 j (by omega) hj⟩
theorem rd_nat {l : List Int} {i : Nat} (h : i < l.length) : rd l (i : Int) = l[i] := by
  unfold rd; simp [List.getD_eq_getElem?_getD, h]
theorem rdOf_nat {α : Type} {d : α} {l : List α} {i : Nat} (h : i < l.length) : rdOf d l (i : Int) = l[i] := by
  unfold rdOf; simp [List.getD_eq_getElem?_getD, h]
theorem drop_cons {α : Type} {l : List α} {i : Nat} (h : i < l.length) : l.drop i = l[i] :: l.drop (i + 1) := List.drop_eq_getElem_cons h
theorem bytes_ext {a b : ByteArray} : a.toList = b.toList ↔ a = b := by
  constructor
  · intro h
    rw [ByteArray.toList_eq, ByteArray.toList_eq] at h
    cases a; cases b
    simpa [Array.toList_inj] using h
  · rintro rfl; rfl
end Go.Proofs.Ytefhljhpcpajgaa.Q

namespace Go.Proofs.Ytefhljhpcpajgaa.F
open Go.RowKit Go.Proofs.YtefhljhpcpajgaaX Go.Proofs.YtefhljhpcpajgaaW.PrintWords Go.Proofs.YtefhljhpcpajgaaW.PrintLast Go.Proofs.YtefhljhpcpajgaaW.PrintMore
attribute [local go_sem] max2_int min2_int max_two min_two max_three min_three max_four min_four   -- for this text's walks alone
set_option linter.unusedVariables false
set_option linter.unusedSimpArgs false

/-! ### cents_Add: function 25 -/
def cents_Add.l0 : Nat → Int → List Int → Int → Int → Option (Int × Int)
  | 0, _, _, _, _ => none
  | k + 1, x4, x7, x8, x9 => if x9 < x8 then (if 0 ≤ x9 then (if x9 < (x7.length : Int) then ((cents_In.f (rd x7 x9)).bind fun t102 => (if t102 = true then ((cents_In.f (wrap64 (x4 + (rd x7 x9)))).bind fun t103 => (if t103 = true then (cents_Add.l0 k (wrap64 (x4 + (rd x7 x9))) x7 x8 (wrap64 (x9 + 1))) else (some (0, 8)))) else (some (0, 8)))) else (none)) else (none)) else (some (x4, 0))
def cents_Add.f (k : Nat) (l0 : List Int) : Option (Int × Int) := cents_Add.l0 k 0 l0 (l0.length : Int) 0
theorem cents_Add.mono_l : ∀ k, (∀ y0 y1 y2 y3, LeO (cents_Add.l0 k y0 y1 y2 y3) (cents_Add.l0 (k + 1) y0 y1 y2 y3))
  | 0 => fun _ _ _ _ r h => by simp [cents_Add.l0] at h
  | k + 1 => by
    have ih0 := cents_Add.mono_l k
    · intro y0 y1 y2 y3
      unfold cents_Add.l0
      repeat' first
      | (with_reducible exact ih0 _ _ _ _)
      | (with_reducible exact LeO.refl _)
      | (with_reducible exact LeO.none _)
      | (with_reducible refine LeO.ite ?_ ?_)
      | (with_reducible refine LeO.bind ?_ (fun _ => ?_))
      | exact ih0 _ _ _ _
      | exact LeO.none _
      | refine LeO.ite ?_ ?_
      | refine LeO.bind ?_ (fun _ => ?_)
theorem cents_Add.mono : ∀ a0 k, LeO (cents_Add.f k a0) (cents_Add.f (k + 1) a0) := by
  intro a0 k
  have ih0 := cents_Add.mono_l k
  unfold cents_Add.f
  repeat' first
      | (with_reducible exact ih0 _ _ _ _)
      | (with_reducible exact LeO.refl _)
      | (with_reducible exact LeO.none _)
      | (with_reducible refine LeO.ite ?_ ?_)
      | (with_reducible refine LeO.bind ?_ (fun _ => ?_))
      | exact ih0 _ _ _ _
      | exact LeO.none _
      | refine LeO.ite ?_ ?_
      | refine LeO.bind ?_ (fun _ => ?_)
set_option maxHeartbeats 8000000 in
set_option maxRecDepth 100000 in
theorem cents_Add.calls (k : Nat) (A0 : Option Addr) (c0 : Nat) (l0 : List Int) (r1 : Int) (r2 : Int) (w : World) (hr0 : Kd.C (Kd.int .i64) w A0 l0.length l0) (hc0 : l0.length ≤ c0) (h : cents_Add.f k l0 = some (r1, r2)) :
    Calls Try.prog 25 #[.slice A0 l0.length c0] w fun e w' => e = .returned (.tuple #[.int .i64 r1, .int .i64 r2]) ∧ Drawn0 w w' := by
  have HR0 := Aside0.mk hr0
  have HC0 := Aside0.mk hc0
  clear hr0 hc0
  have H : (cents_Add.l0 k 0 l0 (l0.length : Int) 0) = some (r1, r2) := h
  clear h
  have H' := Aside0.mk H
  clear H
  go_enter Try.func25, Try.ntmps25
  go_wp2
  go_loopg [4, 9] k (fun kq v4 v9 w' => ∃ (x4_1 : Int) (x9_1 : Int), v4 = .int .i64 x4_1 ∧ v9 = .int .i64 x9_1 ∧ Aside0 (cents_Add.l0 kq x4_1 l0 (l0.length : Int) x9_1 = some (r1, r2)) ∧ Aside0 (kq ≤ k) ∧ Drawn0 w w')
  case atStart => exact ⟨(0), (0), (by first | rfl | (simp; done) | (simp [*]; done)), (by first | rfl | (simp; done) | (simp [*]; done)), H', ⟨Nat.le_refl _⟩, by repeat (first | exact Drawn0.refl _ | apply Drawn0.step)⟩
  case round =>
    clear H'
    obtain ⟨x4_1, x9_1, rfl, rfl, HA, HK1, ⟨m1, rfl⟩⟩ := hrel
    cases gk with
    | zero => exact absurd HA.out (by simp [cents_Add.l0])
    | succ k1 =>
      have H := HA.out
      clear HA
      simp only [cents_Add.l0] at H
      by_cases c2 : x9_1 < (l0.length : Int)
      · rw [if_pos c2] at H
        have c2b0 : decide (x9_1 < (l0.length : Int)) = true := decide_eq_true c2
        clear c2
        by_cases c3 : 0 ≤ x9_1
        · rw [if_pos c3] at H
          have c3b0 : decide (0 ≤ x9_1) = true := decide_eq_true c3
          clear c3
          by_cases c4 : x9_1 < (l0.length : Int)
          · rw [if_pos c4] at H
            have c4b0 : decide (x9_1 < (l0.length : Int)) = true := decide_eq_true c4
            clear c4
            replace H := Option.bind_eq_some_iff.mp H
            obtain ⟨t102, A50, H⟩ := H
            replace H : (if t102 = true then ((cents_In.f (wrap64 (x4_1 + (rd l0 x9_1)))).bind fun t103 => (if t103 = true then (cents_Add.l0 k1 (wrap64 (x4_1 + (rd l0 x9_1))) l0 (l0.length : Int) (wrap64 (x9_1 + 1))) else (some (0, 8)))) else (some (0, 8))) = some (r1, r2) := H
            have A5 := Aside0.mk A50
            clear A50
            by_cases c6 : t102 = true
            · subst c6
              have H1 : ((cents_In.f (wrap64 (x4_1 + (rd l0 x9_1)))).bind fun t103 => (if t103 = true then (cents_Add.l0 k1 (wrap64 (x4_1 + (rd l0 x9_1))) l0 (l0.length : Int) (wrap64 (x9_1 + 1))) else (some (0, 8)))) = some (r1, r2) := by first | (rw [if_pos rfl] at H; exact H) | rfl
              clear H
              have H := H1
              clear H1
              replace H := Option.bind_eq_some_iff.mp H
              obtain ⟨t103, A70, H⟩ := H
              replace H : (if t103 = true then (cents_Add.l0 k1 (wrap64 (x4_1 + (rd l0 x9_1))) l0 (l0.length : Int) (wrap64 (x9_1 + 1))) else (some (0, 8))) = some (r1, r2) := H
              have A7 := Aside0.mk A70
              clear A70
              by_cases c8 : t103 = true
              · subst c8
                have H1 : (cents_Add.l0 k1 (wrap64 (x4_1 + (rd l0 x9_1))) l0 (l0.length : Int) (wrap64 (x9_1 + 1))) = some (r1, r2) := by first | (rw [if_pos rfl] at H; exact H) | rfl
                clear H
                have H := H1
                clear H1
                have H' := Aside0.mk H
                clear H
                have p101 : 0 ≤ (x9_1 : Int) := of_decide_eq_true (by first | (with_reducible assumption) | assumption)
                have q101 : x9_1 < (l0.length : Int) := of_decide_eq_true (by first | (with_reducible assumption) | assumption)
                obtain ⟨ad101, e101, hx101_0⟩ := Kd.at_int HR0.out x9_1 p101 q101
                cases e101
                replace p101 := eq_true p101
                replace q101 := eq_true q101
                go_wp2_with (first | ((with_reducible refine gate_callee (f := 31) rfl ?_); refine goesL_ (some 14) rfl rfl Try.func31 (by kernel_rfl) rfl #[.int .i64 (rd l0 x9_1)] rfl (by (try simp only [List.map_toArray, List.map_cons, List.map_nil]); first | done | rfl | (simp only [List.length_drop, List.length_take]; rfl)) ?_; (with_reducible refine (cents_In.calls (rd l0 x9_1) true _ A5.out).mono ?_); rintro e w' ⟨rfl, ⟨nd, rfl⟩⟩; refine ⟨_, rfl, ?_⟩) | (go_at_call 31; (with_reducible refine (cents_In.calls (wrap64 (x4_1 + (rd l0 x9_1))) true _ A7.out).mono ?_); rintro e w' ⟨rfl, ⟨nd, rfl⟩⟩))
                go_roundg k1
                case measure => have := HK1.out; omega
                case rel => exact ⟨(wrap64 (x4_1 + (rd l0 x9_1))), (wrap64 (x9_1 + 1)), (by first | rfl | (simp; done) | (simp [*]; done)), (by first | rfl | (simp; done) | (simp [*]; done)), H', ⟨by have := HK1.out; omega⟩, by repeat (first | exact Drawn0.refl _ | apply Drawn0.step)⟩
              · replace c8 := Bool.eq_false_iff.mpr c8
                subst c8
                have H1 : (some (0, 8)) = some (r1, r2) := by first | (rw [if_neg (show ¬ (false = true) by decide)] at H; exact H) | rfl
                clear H
                have H := H1
                clear H1
                simp only [Option.some.injEq, Prod.mk.injEq] at H
                obtain ⟨rfl, rfl⟩ := H
                have p101 : 0 ≤ (x9_1 : Int) := of_decide_eq_true (by first | (with_reducible assumption) | assumption)
                have q101 : x9_1 < (l0.length : Int) := of_decide_eq_true (by first | (with_reducible assumption) | assumption)
                obtain ⟨ad101, e101, hx101_0⟩ := Kd.at_int HR0.out x9_1 p101 q101
                cases e101
                replace p101 := eq_true p101
                replace q101 := eq_true q101
                go_wp2_with (first | ((with_reducible refine gate_callee (f := 31) rfl ?_); refine goesL_ (some 14) rfl rfl Try.func31 (by kernel_rfl) rfl #[.int .i64 (rd l0 x9_1)] rfl (by (try simp only [List.map_toArray, List.map_cons, List.map_nil]); first | done | rfl | (simp only [List.length_drop, List.length_take]; rfl)) ?_; (with_reducible refine (cents_In.calls (rd l0 x9_1) true _ A5.out).mono ?_); rintro e w' ⟨rfl, ⟨nd, rfl⟩⟩; refine ⟨_, rfl, ?_⟩) | (go_at_call 31; (with_reducible refine (cents_In.calls (wrap64 (x4_1 + (rd l0 x9_1))) false _ A7.out).mono ?_); rintro e w' ⟨rfl, ⟨nd, rfl⟩⟩))
                go_ret2
                exact ⟨by first | rfl | (simp; done) | (simp [*]; done), by repeat (first | exact Drawn0.refl _ | apply Drawn0.step)⟩
            · replace c6 := Bool.eq_false_iff.mpr c6
              subst c6
              have H1 : (some (0, 8)) = some (r1, r2) := by first | (rw [if_neg (show ¬ (false = true) by decide)] at H; exact H) | rfl
              clear H
              have H := H1
              clear H1
              simp only [Option.some.injEq, Prod.mk.injEq] at H
              obtain ⟨rfl, rfl⟩ := H
              have p101 : 0 ≤ (x9_1 : Int) := of_decide_eq_true (by first | (with_reducible assumption) | assumption)
              have q101 : x9_1 < (l0.length : Int) := of_decide_eq_true (by first | (with_reducible assumption) | assumption)
              obtain ⟨ad101, e101, hx101_0⟩ := Kd.at_int HR0.out x9_1 p101 q101
              cases e101
              replace p101 := eq_true p101
              replace q101 := eq_true q101
              go_wp2_with (first | ((with_reducible refine gate_callee (f := 31) rfl ?_); refine goesL_ (some 14) rfl rfl Try.func31 (by kernel_rfl) rfl #[.int .i64 (rd l0 x9_1)] rfl (by (try simp only [List.map_toArray, List.map_cons, List.map_nil]); first | done | rfl | (simp only [List.length_drop, List.length_take]; rfl)) ?_; (with_reducible refine (cents_In.calls (rd l0 x9_1) false _ A5.out).mono ?_); rintro e w' ⟨rfl, ⟨nd, rfl⟩⟩; refine ⟨_, rfl, ?_⟩))
              go_ret2
              exact ⟨by first | rfl | (simp; done) | (simp [*]; done), by repeat (first | exact Drawn0.refl _ | apply Drawn0.step)⟩
          · rw [if_neg c4] at H
            exact absurd H (by simp)
        · rw [if_neg c3] at H
          exact absurd H (by simp)
      · rw [if_neg c2] at H
        have c2b0 : decide (x9_1 < (l0.length : Int)) = false := decide_eq_false c2
        clear c2
        simp only [Option.some.injEq, Prod.mk.injEq] at H
        obtain ⟨rfl, rfl⟩ := H
        go_wp2
        go_ret2
        exact ⟨by first | rfl | (simp; done) | (simp [*]; done), by repeat (first | exact Drawn0.refl _ | apply Drawn0.step)⟩

end Go.Proofs.Ytefhljhpcpajgaa.F

namespace Go.Proofs.Ytefhljhpcpajgaa.F
open Go.RowKit Go.Proofs.YtefhljhpcpajgaaX Go.Proofs.YtefhljhpcpajgaaW.PrintWords Go.Proofs.YtefhljhpcpajgaaW.PrintLast Go.Proofs.YtefhljhpcpajgaaW.PrintMore
attribute [local go_sem] max2_int min2_int max_two min_two max_three min_three max_four min_four   -- for this text's walks alone
set_option linter.unusedVariables false
set_option linter.unusedSimpArgs false

/-! ### backhaulref02_In: function 32 -/
def backhaulref02_In.f (a0 : Int) : Option (Bool) := if a0 ≥ (-1000000000000) then (some (decide (a0 ≤ 1000000000000))) else (some false)
set_option maxHeartbeats 8000000 in
set_option maxRecDepth 100000 in
theorem backhaulref02_In.calls (a0 : Int) (r : Bool) (w : World) (h : backhaulref02_In.f a0 = some r) :
    Calls Try.prog 32 #[.int .i64 a0] w fun e w' => e = .returned (.bool r) ∧ Drawn0 w w' := by
  have H : (if a0 ≥ (-1000000000000) then (some (decide (a0 ≤ 1000000000000))) else (some false)) = some r := h
  clear h
  by_cases c2 : a0 ≥ (-1000000000000)
  · rw [if_pos c2] at H
    have c2b0 : decide ((-1000000000000) ≤ a0) = true := decide_eq_true c2
    clear c2
    obtain rfl := Option.some.inj H
    go_enter Try.func32, Try.ntmps32
    go_wp2
    go_ret
    exact ⟨by first | rfl | (simp; done) | (simp [*]; done), by repeat (first | exact Drawn0.refl _ | apply Drawn0.step)⟩
  · rw [if_neg c2] at H
    have c2b0 : decide ((-1000000000000) ≤ a0) = false := decide_eq_false c2
    clear c2
    obtain rfl := Option.some.inj H
    go_enter Try.func32, Try.ntmps32
    go_wp2
    go_ret
    exact ⟨by first | rfl | (simp; done) | (simp [*]; done), by repeat (first | exact Drawn0.refl _ | apply Drawn0.step)⟩

end Go.Proofs.Ytefhljhpcpajgaa.F

namespace Go.Proofs.Ytefhljhpcpajgaa.F
open Go.RowKit Go.Proofs.YtefhljhpcpajgaaX Go.Proofs.YtefhljhpcpajgaaW.PrintWords Go.Proofs.YtefhljhpcpajgaaW.PrintLast Go.Proofs.YtefhljhpcpajgaaW.PrintMore
attribute [local go_sem] max2_int min2_int max_two min_two max_three min_three max_four min_four   -- for this text's walks alone
set_option linter.unusedVariables false
set_option linter.unusedSimpArgs false

/-! ### backhaulref02_Add: function 26 -/
def backhaulref02_Add.l0 : Nat → List Int → Int → Int → Option (Int × Int)
  | 0, _, _, _ => none
  | k + 1, x0, x4, x5 => if x5 < (x0.length : Int) then (if 0 ≤ x5 then ((backhaulref02_In.f (rd x0 x5)).bind fun t168 => (if t168 = true then ((backhaulref02_In.f (wrap64 (x4 + (rd x0 x5)))).bind fun t170 => (if t170 = true then (backhaulref02_Add.l0 k x0 (wrap64 (x4 + (rd x0 x5))) (wrap64 (x5 + 1))) else (some (0, 8)))) else (some (0, 8)))) else (none)) else (some (x4, 0))
def backhaulref02_Add.f (k : Nat) (l0 : List Int) : Option (Int × Int) := backhaulref02_Add.l0 k l0 0 0
theorem backhaulref02_Add.mono_l : ∀ k, (∀ y0 y1 y2, LeO (backhaulref02_Add.l0 k y0 y1 y2) (backhaulref02_Add.l0 (k + 1) y0 y1 y2))
  | 0 => fun _ _ _ r h => by simp [backhaulref02_Add.l0] at h
  | k + 1 => by
    have ih0 := backhaulref02_Add.mono_l k
    · intro y0 y1 y2
      unfold backhaulref02_Add.l0
      repeat' first
      | (with_reducible exact ih0 _ _ _)
      | (with_reducible exact LeO.refl _)
      | (with_reducible exact LeO.none _)
      | (with_reducible refine LeO.ite ?_ ?_)
      | (with_reducible refine LeO.bind ?_ (fun _ => ?_))
      | exact ih0 _ _ _
      | exact LeO.none _
      | refine LeO.ite ?_ ?_
      | refine LeO.bind ?_ (fun _ => ?_)
theorem backhaulref02_Add.mono : ∀ a0 k, LeO (backhaulref02_Add.f k a0) (backhaulref02_Add.f (k + 1) a0) := by
  intro a0 k
  have ih0 := backhaulref02_Add.mono_l k
  unfold backhaulref02_Add.f
  repeat' first
      | (with_reducible exact ih0 _ _ _)
      | (with_reducible exact LeO.refl _)
      | (with_reducible exact LeO.none _)
      | (with_reducible refine LeO.ite ?_ ?_)
      | (with_reducible refine LeO.bind ?_ (fun _ => ?_))
      | exact ih0 _ _ _
      | exact LeO.none _
      | refine LeO.ite ?_ ?_
      | refine LeO.bind ?_ (fun _ => ?_)
set_option maxHeartbeats 8000000 in
set_option maxRecDepth 100000 in
theorem backhaulref02_Add.calls (k : Nat) (A0 : Option Addr) (c0 : Nat) (l0 : List Int) (r1 : Int) (r2 : Int) (w : World) (hr0 : Kd.C (Kd.int .i64) w A0 l0.length l0) (hc0 : l0.length ≤ c0) (h : backhaulref02_Add.f k l0 = some (r1, r2)) :
    Calls Try.prog 26 #[.slice A0 l0.length c0] w fun e w' => e = .returned (.tuple #[.int .i64 r1, .int .i64 r2]) ∧ Drawn0 w w' := by
  have HR0 := Aside0.mk hr0
  have HC0 := Aside0.mk hc0
  clear hr0 hc0
  have H : (backhaulref02_Add.l0 k l0 0 0) = some (r1, r2) := h
  clear h
  have H' := Aside0.mk H
  clear H
  go_enter Try.func26, Try.ntmps26
  go_wp2
  go_loopg [4, 5] k (fun kq v4 v5 w' => ∃ (x4_1 : Int) (x5_1 : Int), v4 = .int .i64 x4_1 ∧ v5 = .int .i64 x5_1 ∧ Aside0 (backhaulref02_Add.l0 kq l0 x4_1 x5_1 = some (r1, r2)) ∧ Aside0 (kq ≤ k) ∧ Drawn0 w w')
  case atStart => exact ⟨(0), (0), (by first | rfl | (simp; done) | (simp [*]; done)), (by first | rfl | (simp; done) | (simp [*]; done)), H', ⟨Nat.le_refl _⟩, by repeat (first | exact Drawn0.refl _ | apply Drawn0.step)⟩
  case round =>
    clear H'
    obtain ⟨x4_1, x5_1, rfl, rfl, HA, HK1, ⟨m1, rfl⟩⟩ := hrel
    cases gk with
    | zero => exact absurd HA.out (by simp [backhaulref02_Add.l0])
    | succ k1 =>
      have H := HA.out
      clear HA
      simp only [backhaulref02_Add.l0] at H
      by_cases c2 : x5_1 < (l0.length : Int)
      · rw [if_pos c2] at H
        have c2b0 : decide (x5_1 < (l0.length : Int)) = true := decide_eq_true c2
        clear c2
        by_cases c3 : 0 ≤ x5_1
        · rw [if_pos c3] at H
          have c3b0 : decide (0 ≤ x5_1) = true := decide_eq_true c3
          clear c3
          replace H := Option.bind_eq_some_iff.mp H
          obtain ⟨t168, A40, H⟩ := H
          replace H : (if t168 = true then ((backhaulref02_In.f (wrap64 (x4_1 + (rd l0 x5_1)))).bind fun t170 => (if t170 = true then (backhaulref02_Add.l0 k1 l0 (wrap64 (x4_1 + (rd l0 x5_1))) (wrap64 (x5_1 + 1))) else (some (0, 8)))) else (some (0, 8))) = some (r1, r2) := H
          have A4 := Aside0.mk A40
          clear A40
          by_cases c5 : t168 = true
          · subst c5
            have H1 : ((backhaulref02_In.f (wrap64 (x4_1 + (rd l0 x5_1)))).bind fun t170 => (if t170 = true then (backhaulref02_Add.l0 k1 l0 (wrap64 (x4_1 + (rd l0 x5_1))) (wrap64 (x5_1 + 1))) else (some (0, 8)))) = some (r1, r2) := by first | (rw [if_pos rfl] at H; exact H) | rfl
            clear H
            have H := H1
            clear H1
            replace H := Option.bind_eq_some_iff.mp H
            obtain ⟨t170, A60, H⟩ := H
            replace H : (if t170 = true then (backhaulref02_Add.l0 k1 l0 (wrap64 (x4_1 + (rd l0 x5_1))) (wrap64 (x5_1 + 1))) else (some (0, 8))) = some (r1, r2) := H
            have A6 := Aside0.mk A60
            clear A60
            by_cases c7 : t170 = true
            · subst c7
              have H1 : (backhaulref02_Add.l0 k1 l0 (wrap64 (x4_1 + (rd l0 x5_1))) (wrap64 (x5_1 + 1))) = some (r1, r2) := by first | (rw [if_pos rfl] at H; exact H) | rfl
              clear H
              have H := H1
              clear H1
              have H' := Aside0.mk H
              clear H
              have p167 : 0 ≤ (x5_1 : Int) := of_decide_eq_true (by first | (with_reducible assumption) | assumption)
              have q167 : x5_1 < (l0.length : Int) := of_decide_eq_true (by first | (with_reducible assumption) | assumption)
              obtain ⟨ad167, e167, hx167_0⟩ := Kd.at_int HR0.out x5_1 p167 q167
              cases e167
              replace p167 := eq_true p167
              replace q167 := eq_true q167
              go_wp2_with (first | ((with_reducible refine gate_callee (f := 32) rfl ?_); refine goesL_ (some 16) rfl rfl Try.func32 (by kernel_rfl) rfl #[.int .i64 (rd l0 x5_1)] rfl (by (try simp only [List.map_toArray, List.map_cons, List.map_nil]); first | done | rfl | (simp only [List.length_drop, List.length_take]; rfl)) ?_; (with_reducible refine (backhaulref02_In.calls (rd l0 x5_1) true _ A4.out).mono ?_); rintro e w' ⟨rfl, ⟨nd, rfl⟩⟩; refine ⟨_, rfl, ?_⟩; have p169 : 0 ≤ (x5_1 : Int) := of_decide_eq_true (by first | (with_reducible assumption) | assumption); have q169 : x5_1 < (l0.length : Int) := of_decide_eq_true (by first | (with_reducible assumption) | assumption); obtain ⟨ad169, e169, hx169_0⟩ := Kd.at_int HR0.out x5_1 p169 q169; obtain rfl : ad167 = ad169 := (by injection e169); replace p169 := eq_true p169; replace q169 := eq_true q169) | ((with_reducible refine gate_callee (f := 32) rfl ?_); refine goesL_ (some 25) rfl rfl Try.func32 (by kernel_rfl) rfl #[.int .i64 (wrap64 (x4_1 + (rd l0 x5_1)))] rfl (by (try simp only [List.map_toArray, List.map_cons, List.map_nil]); first | done | rfl | (simp only [List.length_drop, List.length_take]; rfl)) ?_; (with_reducible refine (backhaulref02_In.calls (wrap64 (x4_1 + (rd l0 x5_1))) true _ A6.out).mono ?_); rintro e w' ⟨rfl, ⟨nd, rfl⟩⟩; refine ⟨_, rfl, ?_⟩))
              go_roundg k1
              case measure => have := HK1.out; omega
              case rel => exact ⟨(wrap64 (x4_1 + (rd l0 x5_1))), (wrap64 (x5_1 + 1)), (by first | rfl | (simp; done) | (simp [*]; done)), (by first | rfl | (simp; done) | (simp [*]; done)), H', ⟨by have := HK1.out; omega⟩, by repeat (first | exact Drawn0.refl _ | apply Drawn0.step)⟩
            · replace c7 := Bool.eq_false_iff.mpr c7
              subst c7
              have H1 : (some (0, 8)) = some (r1, r2) := by first | (rw [if_neg (show ¬ (false = true) by decide)] at H; exact H) | rfl
              clear H
              have H := H1
              clear H1
              simp only [Option.some.injEq, Prod.mk.injEq] at H
              obtain ⟨rfl, rfl⟩ := H
              have p167 : 0 ≤ (x5_1 : Int) := of_decide_eq_true (by first | (with_reducible assumption) | assumption)
              have q167 : x5_1 < (l0.length : Int) := of_decide_eq_true (by first | (with_reducible assumption) | assumption)
              obtain ⟨ad167, e167, hx167_0⟩ := Kd.at_int HR0.out x5_1 p167 q167
              cases e167
              replace p167 := eq_true p167
              replace q167 := eq_true q167
              go_wp2_with (first | ((with_reducible refine gate_callee (f := 32) rfl ?_); refine goesL_ (some 16) rfl rfl Try.func32 (by kernel_rfl) rfl #[.int .i64 (rd l0 x5_1)] rfl (by (try simp only [List.map_toArray, List.map_cons, List.map_nil]); first | done | rfl | (simp only [List.length_drop, List.length_take]; rfl)) ?_; (with_reducible refine (backhaulref02_In.calls (rd l0 x5_1) true _ A4.out).mono ?_); rintro e w' ⟨rfl, ⟨nd, rfl⟩⟩; refine ⟨_, rfl, ?_⟩; have p169 : 0 ≤ (x5_1 : Int) := of_decide_eq_true (by first | (with_reducible assumption) | assumption); have q169 : x5_1 < (l0.length : Int) := of_decide_eq_true (by first | (with_reducible assumption) | assumption); obtain ⟨ad169, e169, hx169_0⟩ := Kd.at_int HR0.out x5_1 p169 q169; obtain rfl : ad167 = ad169 := (by injection e169); replace p169 := eq_true p169; replace q169 := eq_true q169) | ((with_reducible refine gate_callee (f := 32) rfl ?_); refine goesL_ (some 25) rfl rfl Try.func32 (by kernel_rfl) rfl #[.int .i64 (wrap64 (x4_1 + (rd l0 x5_1)))] rfl (by (try simp only [List.map_toArray, List.map_cons, List.map_nil]); first | done | rfl | (simp only [List.length_drop, List.length_take]; rfl)) ?_; (with_reducible refine (backhaulref02_In.calls (wrap64 (x4_1 + (rd l0 x5_1))) false _ A6.out).mono ?_); rintro e w' ⟨rfl, ⟨nd, rfl⟩⟩; refine ⟨_, rfl, ?_⟩))
              go_ret2
              exact ⟨by first | rfl | (simp; done) | (simp [*]; done), by repeat (first | exact Drawn0.refl _ | apply Drawn0.step)⟩
          · replace c5 := Bool.eq_false_iff.mpr c5
            subst c5
            have H1 : (some (0, 8)) = some (r1, r2) := by first | (rw [if_neg (show ¬ (false = true) by decide)] at H; exact H) | rfl
            clear H
            have H := H1
            clear H1
            simp only [Option.some.injEq, Prod.mk.injEq] at H
            obtain ⟨rfl, rfl⟩ := H
            have p167 : 0 ≤ (x5_1 : Int) := of_decide_eq_true (by first | (with_reducible assumption) | assumption)
            have q167 : x5_1 < (l0.length : Int) := of_decide_eq_true (by first | (with_reducible assumption) | assumption)
            obtain ⟨ad167, e167, hx167_0⟩ := Kd.at_int HR0.out x5_1 p167 q167
            cases e167
            replace p167 := eq_true p167
            replace q167 := eq_true q167
            go_wp2_with (first | ((with_reducible refine gate_callee (f := 32) rfl ?_); refine goesL_ (some 16) rfl rfl Try.func32 (by kernel_rfl) rfl #[.int .i64 (rd l0 x5_1)] rfl (by (try simp only [List.map_toArray, List.map_cons, List.map_nil]); first | done | rfl | (simp only [List.length_drop, List.length_take]; rfl)) ?_; (with_reducible refine (backhaulref02_In.calls (rd l0 x5_1) false _ A4.out).mono ?_); rintro e w' ⟨rfl, ⟨nd, rfl⟩⟩; refine ⟨_, rfl, ?_⟩))
            go_ret2
            exact ⟨by first | rfl | (simp; done) | (simp [*]; done), by repeat (first | exact Drawn0.refl _ | apply Drawn0.step)⟩
        · rw [if_neg c3] at H
          exact absurd H (by simp)
      · rw [if_neg c2] at H
        have c2b0 : decide (x5_1 < (l0.length : Int)) = false := decide_eq_false c2
        clear c2
        simp only [Option.some.injEq, Prod.mk.injEq] at H
        obtain ⟨rfl, rfl⟩ := H
        go_wp2
        go_ret2
        exact ⟨by first | rfl | (simp; done) | (simp [*]; done), by repeat (first | exact Drawn0.refl _ | apply Drawn0.step)⟩

end Go.Proofs.Ytefhljhpcpajgaa.F

namespace Go.Proofs.Ytefhljhpcpajgaa.F
open Go.RowKit Go.Proofs.YtefhljhpcpajgaaX Go.Proofs.YtefhljhpcpajgaaW.PrintWords Go.Proofs.YtefhljhpcpajgaaW.PrintLast Go.Proofs.YtefhljhpcpajgaaW.PrintMore
attribute [local go_sem] max2_int min2_int max_two min_two max_three min_three max_four min_four   -- for this text's walks alone
set_option linter.unusedVariables false
set_option linter.unusedSimpArgs false

/-! ### backhaulref02_Sub: function 28 -/
def backhaulref02_Sub.f (a0 : Int) (a1 : Int) : Option (Int × Int) := (backhaulref02_In.f a0).bind fun t171 => (if t171 = true then ((backhaulref02_In.f a1).bind fun t172 => (if t172 = true then ((backhaulref02_In.f (wrap64 (a0 - a1))).bind fun t173 => (if t173 = true then (some (wrap64 (a0 - a1), 0)) else (some (0, 8)))) else (some (0, 8)))) else (some (0, 8)))
set_option maxHeartbeats 8000000 in
set_option maxRecDepth 100000 in
theorem backhaulref02_Sub.calls (a0 : Int) (a1 : Int) (r1 : Int) (r2 : Int) (w : World) (h : backhaulref02_Sub.f a0 a1 = some (r1, r2)) :
    Calls Try.prog 28 #[.int .i64 a0, .int .i64 a1] w fun e w' => e = .returned (.tuple #[.int .i64 r1, .int .i64 r2]) ∧ Drawn0 w w' := by
  have H : ((backhaulref02_In.f a0).bind fun t171 => (if t171 = true then ((backhaulref02_In.f a1).bind fun t172 => (if t172 = true then ((backhaulref02_In.f (wrap64 (a0 - a1))).bind fun t173 => (if t173 = true then (some (wrap64 (a0 - a1), 0)) else (some (0, 8)))) else (some (0, 8)))) else (some (0, 8)))) = some (r1, r2) := h
  clear h
  replace H := Option.bind_eq_some_iff.mp H
  obtain ⟨t171, A30, H⟩ := H
  replace H : (if t171 = true then ((backhaulref02_In.f a1).bind fun t172 => (if t172 = true then ((backhaulref02_In.f (wrap64 (a0 - a1))).bind fun t173 => (if t173 = true then (some (wrap64 (a0 - a1), 0)) else (some (0, 8)))) else (some (0, 8)))) else (some (0, 8))) = some (r1, r2) := H
  have A3 := Aside0.mk A30
  clear A30
  by_cases c4 : t171 = true
  · subst c4
    have H1 : ((backhaulref02_In.f a1).bind fun t172 => (if t172 = true then ((backhaulref02_In.f (wrap64 (a0 - a1))).bind fun t173 => (if t173 = true then (some (wrap64 (a0 - a1), 0)) else (some (0, 8)))) else (some (0, 8)))) = some (r1, r2) := by first | (rw [if_pos rfl] at H; exact H) | rfl
    clear H
    have H := H1
    clear H1
    replace H := Option.bind_eq_some_iff.mp H
    obtain ⟨t172, A50, H⟩ := H
    replace H : (if t172 = true then ((backhaulref02_In.f (wrap64 (a0 - a1))).bind fun t173 => (if t173 = true then (some (wrap64 (a0 - a1), 0)) else (some (0, 8)))) else (some (0, 8))) = some (r1, r2) := H
    have A5 := Aside0.mk A50
    clear A50
    by_cases c6 : t172 = true
    · subst c6
      have H1 : ((backhaulref02_In.f (wrap64 (a0 - a1))).bind fun t173 => (if t173 = true then (some (wrap64 (a0 - a1), 0)) else (some (0, 8)))) = some (r1, r2) := by first | (rw [if_pos rfl] at H; exact H) | rfl
      clear H
      have H := H1
      clear H1
      replace H := Option.bind_eq_some_iff.mp H
      obtain ⟨t173, A70, H⟩ := H
      replace H : (if t173 = true then (some (wrap64 (a0 - a1), 0)) else (some (0, 8))) = some (r1, r2) := H
      have A7 := Aside0.mk A70
      clear A70
      by_cases c8 : t173 = true
      · subst c8
        have H1 : (some (wrap64 (a0 - a1), 0)) = some (r1, r2) := by first | (rw [if_pos rfl] at H; exact H) | rfl
        clear H
        have H := H1
        clear H1
        simp only [Option.some.injEq, Prod.mk.injEq] at H
        obtain ⟨rfl, rfl⟩ := H
        go_enter Try.func28, Try.ntmps28
        go_wp2_with (first | ((with_reducible refine gate_callee (f := 32) rfl ?_); refine goesL_ (some 7) rfl rfl Try.func32 (by kernel_rfl) rfl #[.int .i64 a0] rfl (by (try simp only [List.map_toArray, List.map_cons, List.map_nil]); first | done | rfl | (simp only [List.length_drop, List.length_take]; rfl)) ?_; (with_reducible refine (backhaulref02_In.calls a0 true _ A3.out).mono ?_); rintro e w' ⟨rfl, ⟨nd, rfl⟩⟩; refine ⟨_, rfl, ?_⟩) | (go_at_call 32; (with_reducible refine (backhaulref02_In.calls a1 true _ A5.out).mono ?_); rintro e w' ⟨rfl, ⟨nd, rfl⟩⟩) | (go_at_call 32; (with_reducible refine (backhaulref02_In.calls (wrap64 (a0 - a1)) true _ A7.out).mono ?_); rintro e w' ⟨rfl, ⟨nd, rfl⟩⟩))
        go_ret2
        exact ⟨by first | rfl | (simp; done) | (simp [*]; done), by repeat (first | exact Drawn0.refl _ | apply Drawn0.step)⟩
      · replace c8 := Bool.eq_false_iff.mpr c8
        subst c8
        have H1 : (some (0, 8)) = some (r1, r2) := by first | (rw [if_neg (show ¬ (false = true) by decide)] at H; exact H) | rfl
        clear H
        have H := H1
        clear H1
        simp only [Option.some.injEq, Prod.mk.injEq] at H
        obtain ⟨rfl, rfl⟩ := H
        go_enter Try.func28, Try.ntmps28
        go_wp2_with (first | ((with_reducible refine gate_callee (f := 32) rfl ?_); refine goesL_ (some 7) rfl rfl Try.func32 (by kernel_rfl) rfl #[.int .i64 a0] rfl (by (try simp only [List.map_toArray, List.map_cons, List.map_nil]); first | done | rfl | (simp only [List.length_drop, List.length_take]; rfl)) ?_; (with_reducible refine (backhaulref02_In.calls a0 true _ A3.out).mono ?_); rintro e w' ⟨rfl, ⟨nd, rfl⟩⟩; refine ⟨_, rfl, ?_⟩) | (go_at_call 32; (with_reducible refine (backhaulref02_In.calls a1 true _ A5.out).mono ?_); rintro e w' ⟨rfl, ⟨nd, rfl⟩⟩) | (go_at_call 32; (with_reducible refine (backhaulref02_In.calls (wrap64 (a0 - a1)) false _ A7.out).mono ?_); rintro e w' ⟨rfl, ⟨nd, rfl⟩⟩))
        go_ret2
        exact ⟨by first | rfl | (simp; done) | (simp [*]; done), by repeat (first | exact Drawn0.refl _ | apply Drawn0.step)⟩
    · replace c6 := Bool.eq_false_iff.mpr c6
      subst c6
      have H1 : (some (0, 8)) = some (r1, r2) := by first | (rw [if_neg (show ¬ (false = true) by decide)] at H; exact H) | rfl
      clear H
      have H := H1
      clear H1
      simp only [Option.some.injEq, Prod.mk.injEq] at H
      obtain ⟨rfl, rfl⟩ := H
      go_enter Try.func28, Try.ntmps28
      go_wp2_with (first | ((with_reducible refine gate_callee (f := 32) rfl ?_); refine goesL_ (some 7) rfl rfl Try.func32 (by kernel_rfl) rfl #[.int .i64 a0] rfl (by (try simp only [List.map_toArray, List.map_cons, List.map_nil]); first | done | rfl | (simp only [List.length_drop, List.length_take]; rfl)) ?_; (with_reducible refine (backhaulref02_In.calls a0 true _ A3.out).mono ?_); rintro e w' ⟨rfl, ⟨nd, rfl⟩⟩; refine ⟨_, rfl, ?_⟩) | (go_at_call 32; (with_reducible refine (backhaulref02_In.calls a1 false _ A5.out).mono ?_); rintro e w' ⟨rfl, ⟨nd, rfl⟩⟩))
      go_ret2
      exact ⟨by first | rfl | (simp; done) | (simp [*]; done), by repeat (first | exact Drawn0.refl _ | apply Drawn0.step)⟩
  · replace c4 := Bool.eq_false_iff.mpr c4
    subst c4
    have H1 : (some (0, 8)) = some (r1, r2) := by first | (rw [if_neg (show ¬ (false = true) by decide)] at H; exact H) | rfl
    clear H
    have H := H1
    clear H1
    simp only [Option.some.injEq, Prod.mk.injEq] at H
    obtain ⟨rfl, rfl⟩ := H
    go_enter Try.func28, Try.ntmps28
    go_wp2_with (first | ((with_reducible refine gate_callee (f := 32) rfl ?_); refine goesL_ (some 7) rfl rfl Try.func32 (by kernel_rfl) rfl #[.int .i64 a0] rfl (by (try simp only [List.map_toArray, List.map_cons, List.map_nil]); first | done | rfl | (simp only [List.length_drop, List.length_take]; rfl)) ?_; (with_reducible refine (backhaulref02_In.calls a0 false _ A3.out).mono ?_); rintro e w' ⟨rfl, ⟨nd, rfl⟩⟩; refine ⟨_, rfl, ?_⟩))
    go_ret2
    exact ⟨by first | rfl | (simp; done) | (simp [*]; done), by repeat (first | exact Drawn0.refl _ | apply Drawn0.step)⟩

end Go.Proofs.Ytefhljhpcpajgaa.F

namespace Go.Proofs.Ytefhljhpcpajgaa.F
open Go.RowKit Go.Proofs.YtefhljhpcpajgaaX Go.Proofs.YtefhljhpcpajgaaW.PrintWords Go.Proofs.YtefhljhpcpajgaaW.PrintLast Go.Proofs.YtefhljhpcpajgaaW.PrintMore
attribute [local go_sem] max2_int min2_int max_two min_two max_three min_three max_four min_four   -- for this text's walks alone
set_option linter.unusedVariables false
set_option linter.unusedSimpArgs false

/-! ### cents_size: function 99 -/
def cents_size.f (a0 : Int) : Option (Int) := if a0 < 0 then (some (IntKind.u64.wrap (wrap64 (-a0)))) else (some (IntKind.u64.wrap (a0)))
set_option maxHeartbeats 8000000 in
set_option maxRecDepth 100000 in
theorem cents_size.calls (a0 : Int) (r : Int) (w : World) (h : cents_size.f a0 = some r) :
    Calls Try.prog 99 #[.int .i64 a0] w fun e w' => e = .returned (.int .u64 r) ∧ Drawn0 w w' := by
  have H : (if a0 < 0 then (some (IntKind.u64.wrap (wrap64 (-a0)))) else (some (IntKind.u64.wrap (a0)))) = some r := h
  clear h
  by_cases c2 : a0 < 0
  · rw [if_pos c2] at H
    have c2b0 : decide (a0 < 0) = true := decide_eq_true c2
    clear c2
    obtain rfl := Option.some.inj H
    go_enter Try.func99, Try.ntmps99
    go_wp2
    go_ret
    exact ⟨by first | rfl | (simp; done) | (simp [*]; done), by repeat (first | exact Drawn0.refl _ | apply Drawn0.step)⟩
  · rw [if_neg c2] at H
    have c2b0 : decide (a0 < 0) = false := decide_eq_false c2
    clear c2
    obtain rfl := Option.some.inj H
    go_enter Try.func99, Try.ntmps99
    go_wp2
    go_ret
    exact ⟨by first | rfl | (simp; done) | (simp [*]; done), by repeat (first | exact Drawn0.refl _ | apply Drawn0.step)⟩

end Go.Proofs.Ytefhljhpcpajgaa.F

namespace Go.Proofs.Ytefhljhpcpajgaa.F
open Go.RowKit Go.Proofs.YtefhljhpcpajgaaX Go.Proofs.YtefhljhpcpajgaaW.PrintWords Go.Proofs.YtefhljhpcpajgaaW.PrintLast Go.Proofs.YtefhljhpcpajgaaW.PrintMore
attribute [local go_sem] max2_int min2_int max_two min_two max_three min_three max_four min_four   -- for this text's walks alone
set_option linter.unusedVariables false
set_option linter.unusedSimpArgs false

/-! ### cents_Times: function 29 (by hand) -/
def cents_Times.f (a0 a1 : Int) : Option (Int × Int) := (cents_In.f a0).bind fun t => if t = true then ((cents_In.f a1).bind fun u => if u = true then ((cents_size.f a0).bind fun x => (cents_size.f a1).bind fun y => (cents_product.f x y).bind fun p => (cents_wide_above.f p.1 p.2 0 1000000000000).bind fun b => if b = true then some (0, 8) else some (wrap64 (a0 * a1), 0)) else some (0, 8)) else some (0, 8)
set_option maxHeartbeats 4000000 in
set_option maxRecDepth 100000 in
theorem cents_Times.calls (a0 a1 : Int) (r1 : Int) (r2 : Int) (w : World) (h : cents_Times.f a0 a1 = some (r1, r2)) :
    Calls Try.prog 29 #[.int .i64 a0, .int .i64 a1] w fun e w' => e = .returned (.tuple #[.int .i64 r1, .int .i64 r2]) ∧ Below w.heap.size w w' := by
  unfold cents_Times.f at h
  obtain ⟨t, ht, h⟩ := Option.bind_eq_some_iff.1 h
  have Ht := Aside0.mk ht
  clear ht
  cases t with
  | false =>
    rw [if_neg (by decide)] at h
    simp only [Option.some.injEq, Prod.mk.injEq] at h
    obtain ⟨rfl, rfl⟩ := h
    go_enter Try.func29, Try.ntmps29
    go_wp2_with (go_at_call 31; (with_reducible refine (cents_In.calls _ _ _ Ht.out).mono ?_); rintro e w' ⟨rfl, ⟨n, rfl⟩⟩)
    go_ret2
    exact ⟨rfl, by repeat (first | exact Below.refl _ _ | apply pw_below_drewN | apply below_drew)⟩
  | true =>
    rw [if_pos rfl] at h
    obtain ⟨u, hu, h⟩ := Option.bind_eq_some_iff.1 h
    have Hu := Aside0.mk hu
    clear hu
    cases u with
    | false =>
      rw [if_neg (by decide)] at h
      simp only [Option.some.injEq, Prod.mk.injEq] at h
      obtain ⟨rfl, rfl⟩ := h
      go_enter Try.func29, Try.ntmps29
      go_wp2_with (first
        | (go_at_call 31; (with_reducible refine (cents_In.calls a0 _ _ Ht.out).mono ?_); rintro e w' ⟨rfl, ⟨n, rfl⟩⟩)
        | (go_at_call 31; (with_reducible refine (cents_In.calls a1 _ _ Hu.out).mono ?_); rintro e w' ⟨rfl, ⟨n2, rfl⟩⟩))
      go_ret2
      exact ⟨rfl, by repeat (first | exact Below.refl _ _ | apply pw_below_drewN | apply below_drew)⟩
    | true =>
      rw [if_pos rfl] at h
      obtain ⟨x, hx, h⟩ := Option.bind_eq_some_iff.1 h
      obtain ⟨y, hy, h⟩ := Option.bind_eq_some_iff.1 h
      obtain ⟨⟨p1, p2⟩, hp, h⟩ := Option.bind_eq_some_iff.1 h
      obtain ⟨b, hb, h⟩ := Option.bind_eq_some_iff.1 h
      have Hx := Aside0.mk hx
      have Hy := Aside0.mk hy
      have Hp := Aside0.mk hp
      have Hb := Aside0.mk hb
      clear hx hy hp hb
      cases b with
      | true =>
        rw [if_pos rfl] at h
        simp only [Option.some.injEq, Prod.mk.injEq] at h
        obtain ⟨rfl, rfl⟩ := h
        go_enter Try.func29, Try.ntmps29
        go_wp2_with (first
          | (go_at_call 31; (with_reducible refine (cents_In.calls a0 _ _ Ht.out).mono ?_); rintro e w' ⟨rfl, ⟨n, rfl⟩⟩)
          | (go_at_call 31; (with_reducible refine (cents_In.calls a1 _ _ Hu.out).mono ?_); rintro e w' ⟨rfl, ⟨n2, rfl⟩⟩)
          | (go_at_call 99; (with_reducible refine (cents_size.calls a0 _ _ Hx.out).mono ?_); rintro e w' ⟨rfl, ⟨n3, rfl⟩⟩)
          | (go_at_call 99; (with_reducible refine (cents_size.calls a1 _ _ Hy.out).mono ?_); rintro e w' ⟨rfl, ⟨n4, rfl⟩⟩)
          | (go_at_call 98; (with_reducible refine (cents_product.calls _ _ _ _ _ Hp.out).mono ?_); rintro e w5 ⟨rfl, hb5⟩; have HB5 := Aside0.mk hb5; clear hb5)
          | (go_at_call 97; (with_reducible refine (cents_wide_above.calls _ _ _ _ _ _ Hb.out).mono ?_); rintro e w6 ⟨rfl, hb6⟩; have HB6 := Aside0.mk hb6; clear hb6))
        go_ret2
        have HA : Below w.heap.size w w5 := below_then (by repeat (first | exact Below.refl _ _ | apply pw_below_drewN | apply below_drew)) (by simp) HB5.out
        exact ⟨rfl, below_then HA HA.size HB6.out⟩
      | false =>
        rw [if_neg (by decide)] at h
        simp only [Option.some.injEq, Prod.mk.injEq] at h
        obtain ⟨h1, rfl⟩ := h
        have hw : IntKind.i64.wrap (a0 * a1) = r1 := (IntWalk.i64_left _).trans h1
        clear h1
        go_enter Try.func29, Try.ntmps29
        go_wp2_with (first
          | (go_at_call 31; (with_reducible refine (cents_In.calls a0 _ _ Ht.out).mono ?_); rintro e w' ⟨rfl, ⟨n, rfl⟩⟩)
          | (go_at_call 31; (with_reducible refine (cents_In.calls a1 _ _ Hu.out).mono ?_); rintro e w' ⟨rfl, ⟨n2, rfl⟩⟩)
          | (go_at_call 99; (with_reducible refine (cents_size.calls a0 _ _ Hx.out).mono ?_); rintro e w' ⟨rfl, ⟨n3, rfl⟩⟩)
          | (go_at_call 99; (with_reducible refine (cents_size.calls a1 _ _ Hy.out).mono ?_); rintro e w' ⟨rfl, ⟨n4, rfl⟩⟩)
          | (go_at_call 98; (with_reducible refine (cents_product.calls _ _ _ _ _ Hp.out).mono ?_); rintro e w5 ⟨rfl, hb5⟩; have HB5 := Aside0.mk hb5; clear hb5)
          | (go_at_call 97; (with_reducible refine (cents_wide_above.calls _ _ _ _ _ _ Hb.out).mono ?_); rintro e w6 ⟨rfl, hb6⟩; have HB6 := Aside0.mk hb6; clear hb6))
        go_ret2
        have HA : Below w.heap.size w w5 := below_then (by repeat (first | exact Below.refl _ _ | apply pw_below_drewN | apply below_drew)) (by simp) HB5.out
        exact ⟨rfl, below_then HA HA.size HB6.out⟩

end Go.Proofs.Ytefhljhpcpajgaa.F

namespace Go.Proofs.Ytefhljhpcpajgaa.F
open Go.RowKit Go.Proofs.YtefhljhpcpajgaaX Go.Proofs.YtefhljhpcpajgaaW.PrintWords Go.Proofs.YtefhljhpcpajgaaW.PrintLast Go.Proofs.YtefhljhpcpajgaaW.PrintMore
attribute [local go_sem] max2_int min2_int max_two min_two max_three min_three max_four min_four   -- for this text's walks alone
set_option linter.unusedVariables false
set_option linter.unusedSimpArgs false

/-! ### backhaulref02_Times: function 30 -/
mutual
def backhaulref02_Times.j0 : Nat → Int → Int → Bool → Option (Int × Int)
  | 0, _, _, _ => none
  | k + 1, x0, x1, x15 => if x15 = true then (some (0, 8)) else (if x0 < 0 then (backhaulref02_Times.j1 k x0 x1 (wrap64 (-x0)) x1) else (backhaulref02_Times.j1 k x0 x1 x0 x1))
def backhaulref02_Times.j1 : Nat → Int → Int → Int → Int → Option (Int × Int)
  | 0, _, _, _, _ => none
  | k + 1, x0, x1, x6, x7 => if x7 < 0 then (if (wrap64 (-x7)) > 0 then (if (wrap64 (-x7)) = 0 then (none) else (if x6 > (wrap64 (Int.tdiv (1000000000000 : Int) (wrap64 (-x7)))) then (some (0, 8)) else (some (wrap64 (x0 * x1), 0)))) else (some (wrap64 (x0 * x1), 0))) else (if x7 > 0 then (if x7 = 0 then (none) else (if x6 > (wrap64 (Int.tdiv (1000000000000 : Int) x7)) then (some (0, 8)) else (some (wrap64 (x0 * x1), 0)))) else (some (wrap64 (x0 * x1), 0)))
end
def backhaulref02_Times.f (k : Nat) (a0 : Int) (a1 : Int) : Option (Int × Int) := (backhaulref02_In.f a0).bind fun t174 => (if t174 = true then ((backhaulref02_In.f a1).bind fun t175 => (backhaulref02_Times.j0 k a0 a1 (!t175))) else (backhaulref02_Times.j0 k a0 a1 true))
theorem backhaulref02_Times.mono_l : ∀ k, (∀ y0 y1 y2, LeO (backhaulref02_Times.j0 k y0 y1 y2) (backhaulref02_Times.j0 (k + 1) y0 y1 y2)) ∧ (∀ y0 y1 y2 y3, LeO (backhaulref02_Times.j1 k y0 y1 y2 y3) (backhaulref02_Times.j1 (k + 1) y0 y1 y2 y3))
  | 0 => ⟨fun _ _ _ r h => by simp [backhaulref02_Times.j0] at h, fun _ _ _ _ r h => by simp [backhaulref02_Times.j1] at h⟩
  | k + 1 => by
    obtain ⟨ih0, ih1⟩ := backhaulref02_Times.mono_l k
    refine ⟨?_, ?_⟩
    · intro y0 y1 y2
      unfold backhaulref02_Times.j0
      repeat' first
      | (with_reducible exact ih0 _ _ _)
      | (with_reducible exact ih1 _ _ _ _)
      | (with_reducible exact LeO.refl _)
      | (with_reducible exact LeO.none _)
      | (with_reducible refine LeO.ite ?_ ?_)
      | (with_reducible refine LeO.bind ?_ (fun _ => ?_))
      | exact ih0 _ _ _
      | exact ih1 _ _ _ _
      | exact LeO.none _
      | refine LeO.ite ?_ ?_
      | refine LeO.bind ?_ (fun _ => ?_)
    · intro y0 y1 y2 y3
      unfold backhaulref02_Times.j1
      repeat' first
      | (with_reducible exact ih0 _ _ _)
      | (with_reducible exact ih1 _ _ _ _)
      | (with_reducible exact LeO.refl _)
      | (with_reducible exact LeO.none _)
      | (with_reducible refine LeO.ite ?_ ?_)
      | (with_reducible refine LeO.bind ?_ (fun _ => ?_))
      | exact ih0 _ _ _
      | exact ih1 _ _ _ _
      | exact LeO.none _
      | refine LeO.ite ?_ ?_
      | refine LeO.bind ?_ (fun _ => ?_)
theorem backhaulref02_Times.mono : ∀ a0 a1 k, LeO (backhaulref02_Times.f k a0 a1) (backhaulref02_Times.f (k + 1) a0 a1) := by
  intro a0 a1 k
  obtain ⟨ih0, ih1⟩ := backhaulref02_Times.mono_l k
  unfold backhaulref02_Times.f
  repeat' first
      | (with_reducible exact ih0 _ _ _)
      | (with_reducible exact ih1 _ _ _ _)
      | (with_reducible exact LeO.refl _)
      | (with_reducible exact LeO.none _)
      | (with_reducible refine LeO.ite ?_ ?_)
      | (with_reducible refine LeO.bind ?_ (fun _ => ?_))
      | exact ih0 _ _ _
      | exact ih1 _ _ _ _
      | exact LeO.none _
      | refine LeO.ite ?_ ?_
      | refine LeO.bind ?_ (fun _ => ?_)
set_option maxHeartbeats 8000000 in
set_option maxRecDepth 100000 in
theorem backhaulref02_Times.calls (k : Nat) (a0 : Int) (a1 : Int) (r1 : Int) (r2 : Int) (w : World) (h : backhaulref02_Times.f k a0 a1 = some (r1, r2)) :
    Calls Try.prog 30 #[.int .i64 a0, .int .i64 a1] w fun e w' => e = .returned (.tuple #[.int .i64 r1, .int .i64 r2]) ∧ Drawn0 w w' := by
  have H : ((backhaulref02_In.f a0).bind fun t174 => (if t174 = true then ((backhaulref02_In.f a1).bind fun t175 => (backhaulref02_Times.j0 k a0 a1 (!t175))) else (backhaulref02_Times.j0 k a0 a1 true))) = some (r1, r2) := h
  clear h
  have HC3 := Aside0.mk H
  clear H
  go_enter Try.func30, Try.ntmps30
  go_upto_region 1 with (fail)
  go_cut [15] (fun v15 wc => ∃ (kq : Nat) (x15_2 : Bool), v15 = .bool x15_2 ∧ Aside0 (backhaulref02_Times.j0 kq a0 a1 x15_2 = some (r1, r2)) ∧ Aside0 (kq ≤ k) ∧ Drawn0 w wc)
  case first =>
    have H := HC3.out
    clear HC3
    replace H := Option.bind_eq_some_iff.mp H
    obtain ⟨t174, A40, H⟩ := H
    replace H : (if t174 = true then ((backhaulref02_In.f a1).bind fun t175 => (backhaulref02_Times.j0 k a0 a1 (!t175))) else (backhaulref02_Times.j0 k a0 a1 true)) = some (r1, r2) := H
    have A4 := Aside0.mk A40
    clear A40
    by_cases c5 : t174 = true
    · subst c5
      have H1 : ((backhaulref02_In.f a1).bind fun t175 => (backhaulref02_Times.j0 k a0 a1 (!t175))) = some (r1, r2) := by first | (rw [if_pos rfl] at H; exact H) | rfl
      clear H
      have H := H1
      clear H1
      replace H := Option.bind_eq_some_iff.mp H
      obtain ⟨t175, A60, H⟩ := H
      replace H : (backhaulref02_Times.j0 k a0 a1 (!t175)) = some (r1, r2) := H
      have A6 := Aside0.mk A60
      clear A60
      have H' := Aside0.mk H
      clear H
      go_wp2_with (first | ((with_reducible refine gate_callee (f := 32) rfl ?_); refine goesL_ (some 9) rfl rfl Try.func32 (by kernel_rfl) rfl #[.int .i64 a0] rfl (by (try simp only [List.map_toArray, List.map_cons, List.map_nil]); first | done | rfl | (simp only [List.length_drop, List.length_take]; rfl)) ?_; (with_reducible refine (backhaulref02_In.calls a0 true _ A4.out).mono ?_); rintro e w' ⟨rfl, ⟨nd, rfl⟩⟩; refine ⟨_, rfl, ?_⟩) | (go_at_call 32; (with_reducible refine (backhaulref02_In.calls a1 t175 _ A6.out).mono ?_); rintro e w' ⟨rfl, ⟨nd, rfl⟩⟩))
      go_meet
      case rel => exact ⟨_, (!t175), (by first | rfl | (simp; done) | (simp [*]; done)), H', ⟨by first | omega | exact Nat.le_refl _⟩, by repeat (first | exact Drawn0.refl _ | apply Drawn0.step)⟩
    · replace c5 := Bool.eq_false_iff.mpr c5
      subst c5
      have H1 : (backhaulref02_Times.j0 k a0 a1 true) = some (r1, r2) := by first | (rw [if_neg (show ¬ (false = true) by decide)] at H; exact H) | rfl
      clear H
      have H := H1
      clear H1
      have H' := Aside0.mk H
      clear H
      go_wp2_with (first | ((with_reducible refine gate_callee (f := 32) rfl ?_); refine goesL_ (some 9) rfl rfl Try.func32 (by kernel_rfl) rfl #[.int .i64 a0] rfl (by (try simp only [List.map_toArray, List.map_cons, List.map_nil]); first | done | rfl | (simp only [List.length_drop, List.length_take]; rfl)) ?_; (with_reducible refine (backhaulref02_In.calls a0 false _ A4.out).mono ?_); rintro e w' ⟨rfl, ⟨nd, rfl⟩⟩; refine ⟨_, rfl, ?_⟩))
      go_meet
      case rel => exact ⟨_, (true), (by first | rfl | (simp; done) | (simp [*]; done)), H', ⟨by first | omega | exact Nat.le_refl _⟩, by repeat (first | exact Drawn0.refl _ | apply Drawn0.step)⟩
  case rest =>
    clear HC3
    try clear p2
    try clear c3
    try clear c5
    obtain ⟨kq, x15_2, rfl, HA, HJ2, ⟨mc2, rfl⟩⟩ := hcut
    cases kq with
    | zero => exact absurd HA.out (by simp [backhaulref02_Times.j0])
    | succ kj2 =>
      have H := HA.out
      clear HA
      simp only [backhaulref02_Times.j0] at H
      by_cases c7 : x15_2 = true
      · subst c7
        have H1 : (some (0, 8)) = some (r1, r2) := by first | (rw [if_pos rfl] at H; exact H) | rfl
        clear H
        have H := H1
        clear H1
        simp only [Option.some.injEq, Prod.mk.injEq] at H
        obtain ⟨rfl, rfl⟩ := H
        go_wp2
        go_ret2
        exact ⟨by first | rfl | (simp; done) | (simp [*]; done), by repeat (first | exact Drawn0.refl _ | apply Drawn0.step)⟩
      · replace c7 := Bool.eq_false_iff.mpr c7
        subst c7
        have H1 : (if a0 < 0 then (backhaulref02_Times.j1 kj2 a0 a1 (wrap64 (-a0)) a1) else (backhaulref02_Times.j1 kj2 a0 a1 a0 a1)) = some (r1, r2) := by first | (rw [if_neg (show ¬ (false = true) by decide)] at H; exact H) | rfl
        clear H
        have H := H1
        clear H1
        have HC8 := Aside0.mk H
        clear H
        go_upto_if 19 with (fail)
        go_cut [6] (fun v6 wc => ∃ (kq : Nat) (x6_7 : Int), v6 = .int .i64 x6_7 ∧ Aside0 (backhaulref02_Times.j1 kq a0 a1 x6_7 a1 = some (r1, r2)) ∧ Aside0 (kq ≤ kj2) ∧ Drawn0 w wc)
        case first =>
          have H := HC8.out
          clear HC8
          by_cases c9 : a0 < 0
          · rw [if_pos c9] at H
            have c9b0 : decide (a0 < 0) = true := decide_eq_true c9
            clear c9
            (first | rw [c9b0] | (simp only [i64_w, i32_w]; rw [c9b0]) | skip)
            have H' := Aside0.mk H
            clear H
            go_wp2
            go_meet
            case rel => exact ⟨_, (wrap64 (-a0)), (by first | rfl | (simp; done) | (simp [*]; done)), H', ⟨by have := HJ2.out; first | omega | exact Nat.le_refl _⟩, by repeat (first | exact Drawn0.refl _ | apply Drawn0.step)⟩
          · rw [if_neg c9] at H
            have c9b0 : decide (a0 < 0) = false := decide_eq_false c9
            clear c9
            (first | rw [c9b0] | (simp only [i64_w, i32_w]; rw [c9b0]) | skip)
            have H' := Aside0.mk H
            clear H
            go_wp2
            go_meet
            case rel => exact ⟨_, (a0), (by first | rfl | (simp; done) | (simp [*]; done)), H', ⟨by have := HJ2.out; first | omega | exact Nat.le_refl _⟩, by repeat (first | exact Drawn0.refl _ | apply Drawn0.step)⟩
        case rest =>
          clear HC8
          try clear c2
          try clear p2
          try clear c3
          try clear c5
          try clear p6
          try clear c7
          try clear c9
          try clear c9b0
          try clear p2
          obtain ⟨kq, x6_7, rfl, HA, HJ7, ⟨mc7, rfl⟩⟩ := hcut
          cases kq with
          | zero => exact absurd HA.out (by simp [backhaulref02_Times.j1])
          | succ kj7 =>
            have H := HA.out
            clear HA
            simp only [backhaulref02_Times.j1] at H
            by_cases c10 : a1 < 0
            · rw [if_pos c10] at H
              have c10b0 : decide (a1 < 0) = true := decide_eq_true c10
              clear c10
              by_cases c11 : (wrap64 (-a1)) > 0
              · rw [if_pos c11] at H
                have c11b0 : decide (0 < (wrap64 (-a1))) = true := decide_eq_true c11
                clear c11
                by_cases c12 : (wrap64 (-a1)) = 0
                · rw [if_pos c12] at H
                  exact absurd H (by simp)
                · rw [if_neg c12] at H
                  have c12b0 : ((wrap64 (-a1)) == 0) = false := beq_eq_false_iff_ne.mpr c12
                  have c12b1 : ((wrap64 (-a1)) != 0) = true := bne_iff_ne.mpr c12
                  by_cases c13 : x6_7 > (wrap64 (Int.tdiv (1000000000000 : Int) (wrap64 (-a1))))
                  · rw [if_pos c13] at H
                    have c13b0 : decide ((wrap64 (Int.tdiv (1000000000000 : Int) (wrap64 (-a1)))) < x6_7) = true := decide_eq_true c13
                    clear c13
                    simp only [Option.some.injEq, Prod.mk.injEq] at H
                    obtain ⟨rfl, rfl⟩ := H
                    go_wp2
                    go_ret2
                    exact ⟨by first | rfl | (simp; done) | (simp [*]; done), by repeat (first | exact Drawn0.refl _ | apply Drawn0.step)⟩
                  · rw [if_neg c13] at H
                    have c13b0 : decide ((wrap64 (Int.tdiv (1000000000000 : Int) (wrap64 (-a1)))) < x6_7) = false := decide_eq_false c13
                    clear c13
                    simp only [Option.some.injEq, Prod.mk.injEq] at H
                    obtain ⟨rfl, rfl⟩ := H
                    go_wp2
                    go_ret2
                    exact ⟨by first | rfl | (simp; done) | (simp [*]; done), by repeat (first | exact Drawn0.refl _ | apply Drawn0.step)⟩
              · rw [if_neg c11] at H
                have c11b0 : decide (0 < (wrap64 (-a1))) = false := decide_eq_false c11
                clear c11
                simp only [Option.some.injEq, Prod.mk.injEq] at H
                obtain ⟨rfl, rfl⟩ := H
                go_wp2
                go_ret2
                exact ⟨by first | rfl | (simp; done) | (simp [*]; done), by repeat (first | exact Drawn0.refl _ | apply Drawn0.step)⟩
            · rw [if_neg c10] at H
              have c10b0 : decide (a1 < 0) = false := decide_eq_false c10
              clear c10
              by_cases c14 : a1 > 0
              · rw [if_pos c14] at H
                have c14b0 : decide (0 < a1) = true := decide_eq_true c14
                clear c14
                by_cases c15 : a1 = 0
                · rw [if_pos c15] at H
                  exact absurd H (by simp)
                · rw [if_neg c15] at H
                  have c15b0 : (a1 == 0) = false := beq_eq_false_iff_ne.mpr c15
                  have c15b1 : (a1 != 0) = true := bne_iff_ne.mpr c15
                  by_cases c16 : x6_7 > (wrap64 (Int.tdiv (1000000000000 : Int) a1))
                  · rw [if_pos c16] at H
                    have c16b0 : decide ((wrap64 (Int.tdiv (1000000000000 : Int) a1)) < x6_7) = true := decide_eq_true c16
                    clear c16
                    simp only [Option.some.injEq, Prod.mk.injEq] at H
                    obtain ⟨rfl, rfl⟩ := H
                    go_wp2
                    go_ret2
                    exact ⟨by first | rfl | (simp; done) | (simp [*]; done), by repeat (first | exact Drawn0.refl _ | apply Drawn0.step)⟩
                  · rw [if_neg c16] at H
                    have c16b0 : decide ((wrap64 (Int.tdiv (1000000000000 : Int) a1)) < x6_7) = false := decide_eq_false c16
                    clear c16
                    simp only [Option.some.injEq, Prod.mk.injEq] at H
                    obtain ⟨rfl, rfl⟩ := H
                    go_wp2
                    go_ret2
                    exact ⟨by first | rfl | (simp; done) | (simp [*]; done), by repeat (first | exact Drawn0.refl _ | apply Drawn0.step)⟩
              · rw [if_neg c14] at H
                have c14b0 : decide (0 < a1) = false := decide_eq_false c14
                clear c14
                simp only [Option.some.injEq, Prod.mk.injEq] at H
                obtain ⟨rfl, rfl⟩ := H
                go_wp2
                go_ret2
                exact ⟨by first | rfl | (simp; done) | (simp [*]; done), by repeat (first | exact Drawn0.refl _ | apply Drawn0.step)⟩

end Go.Proofs.Ytefhljhpcpajgaa.F

/- What the functions of cents (and the document's) come to: sums, differences, products; no condition but the bounds of an int. -/
set_option linter.unusedVariables false
namespace Go.Proofs.Ytefhljhpcpajgaa.Q
open Go.RowKit Go.Proofs.Ytefhljhpcpajgaa.F Go.Proofs.YtefhljhpcpajgaaW.PrintWords Go.Proofs.YtefhljhpcpajgaaW.PrintLast Go.Proofs.YtefhljhpcpajgaaW.PrintMore

/-- An amount. -/
def amt (n : Int) : Prop := -1000000000000 ≤ n ∧ n ≤ 1000000000000
instance (n : Int) : Decidable (amt n) := by unfold amt; infer_instance
def toldS (n : Int) : Int × Int := if amt n then (n, 0) else (0, 8)
def sumS : Int → List Int → Int × Int
  | n, [] => (n, 0)
  | n, x :: xs => if amt x ∧ amt (n + x) then sumS (n + x) xs else (0, 8)
def subS (a b : Int) : Int × Int := if amt a ∧ amt b ∧ amt (a - b) then (a - b, 0) else (0, 8)
def timesS (a b : Int) : Int × Int := if amt a ∧ amt b ∧ amt (a * b) then (a * b, 0) else (0, 8)

theorem in_f (n : Int) : cents_In.f n = some (decide (amt n)) := by
  unfold cents_In.f amt
  by_cases h : n ≥ -1000000000000
  · rw [if_pos h]; congr 1; exact decide_eq_decide.2 ⟨fun a => ⟨h, a⟩, fun a => a.2⟩
  · rw [if_neg h]; congr 1; exact (decide_eq_false (fun a => h a.1)).symm
theorem ref_in_f (n : Int) : backhaulref02_In.f n = some (decide (amt n)) := by
  unfold backhaulref02_In.f amt
  by_cases h : n ≥ -1000000000000
  · rw [if_pos h]; congr 1; exact decide_eq_decide.2 ⟨fun a => ⟨h, a⟩, fun a => a.2⟩
  · rw [if_neg h]; congr 1; exact (decide_eq_false (fun a => h a.1)).symm
theorem told_f (n : Int) : cents_told.f n = some (toldS n) := by
  unfold cents_told.f toldS
  rw [in_f]
  by_cases h : amt n
  · simp [h]
  · simp [h]
theorem cents_Add_l0 {l : List Int} (hl : l.length < 9223372036854775807) (d : Nat) : ∀ (i : Nat) (n : Int), l.length - i = d → i ≤ l.length → amt n →
    Ev (fun k => cents_Add.l0 k n l (l.length : Int) (i : Int)) (sumS n (l.drop i)) := by
  induction d with
  | zero =>
    intro i n hd hi hn
    refine Ev.step (fun k => by simp only [cents_Add.l0]; rfl) ?_
    refine Ev.neg (by omega) (Ev.ok ?_)
    rw [List.drop_eq_nil_of_le (by omega)]; rfl
  | succ d ih =>
    intro i n hd hi hn
    have h : i < l.length := by omega
    refine Ev.step (fun k => by simp only [cents_Add.l0]; rfl) ?_
    refine Ev.pos (by omega) (Ev.pos (by omega) (Ev.pos (by omega) ?_))
    rw [drop_cons h, rd_nat h]
    refine Q.Ev.bindc (in_f _) ?_
    by_cases h1 : amt l[i]
    · refine Ev.pos (decide_eq_true h1) ?_
      have hw : wrap64 (n + l[i]) = n + l[i] := by unfold amt at hn h1; exact wrap_eq (by omega) (by omega)
      rw [hw]
      refine Q.Ev.bindc (in_f _) ?_
      by_cases h2 : amt (n + l[i])
      · refine Ev.pos (decide_eq_true h2) ?_
        simp only [sumS]
        rw [if_pos ⟨h1, h2⟩, wrap_eq (by omega) (by omega)]
        exact ih (i + 1) _ (by omega) (by omega) h2
      · refine Ev.neg (by simp [h2]) (Ev.ok ?_)
        simp only [sumS]; rw [if_neg (fun a => h2 a.2)]
    · refine Ev.neg (by simp [h1]) (Ev.ok ?_)
      simp only [sumS]; rw [if_neg (fun a => h1 a.1)]
theorem amt0 : amt 0 := by unfold amt; omega
theorem cents_Add_f {l : List Int} (hl : l.length < 9223372036854775807) : Ev (fun k => cents_Add.f k l) (sumS 0 l) := by
  unfold cents_Add.f
  exact cents_Add_l0 hl l.length 0 0 (by omega) (by omega) amt0
theorem ref_Add_l0 {l : List Int} (hl : l.length < 9223372036854775807) (d : Nat) : ∀ (i : Nat) (n : Int), l.length - i = d → i ≤ l.length → amt n →
    Ev (fun k => backhaulref02_Add.l0 k l n (i : Int)) (sumS n (l.drop i)) := by
  induction d with
  | zero =>
    intro i n hd hi hn
    refine Ev.step (fun k => by simp only [backhaulref02_Add.l0]; rfl) ?_
    refine Ev.neg (by omega) (Ev.ok ?_)
    rw [List.drop_eq_nil_of_le (by omega)]; rfl
  | succ d ih =>
    intro i n hd hi hn
    have h : i < l.length := by omega
    refine Ev.step (fun k => by simp only [backhaulref02_Add.l0]; rfl) ?_
    refine Ev.pos (by omega) (Ev.pos (by omega) ?_)
    rw [drop_cons h, rd_nat h]
    refine Q.Ev.bindc (ref_in_f _) ?_
    by_cases h1 : amt l[i]
    · refine Ev.pos (decide_eq_true h1) ?_
      have hw : wrap64 (n + l[i]) = n + l[i] := by unfold amt at hn h1; exact wrap_eq (by omega) (by omega)
      rw [hw]
      refine Q.Ev.bindc (ref_in_f _) ?_
      by_cases h2 : amt (n + l[i])
      · refine Ev.pos (decide_eq_true h2) ?_
        simp only [sumS]
        rw [if_pos ⟨h1, h2⟩, wrap_eq (by omega) (by omega)]
        exact ih (i + 1) _ (by omega) (by omega) h2
      · refine Ev.neg (by simp [h2]) (Ev.ok ?_)
        simp only [sumS]; rw [if_neg (fun a => h2 a.2)]
    · refine Ev.neg (by simp [h1]) (Ev.ok ?_)
      simp only [sumS]; rw [if_neg (fun a => h1 a.1)]
theorem ref_Add_f {l : List Int} (hl : l.length < 9223372036854775807) : Ev (fun k => backhaulref02_Add.f k l) (sumS 0 l) := by
  unfold backhaulref02_Add.f
  exact ref_Add_l0 hl l.length 0 0 (by omega) (by omega) amt0
theorem sub_f (a b : Int) : cents_Sub.f a b = some (subS a b) := by
  unfold cents_Sub.f subS
  simp only [in_f, Option.bind_some, told_f]
  by_cases h1 : amt a
  · by_cases h2 : amt b
    · rw [wrap_eq (by unfold amt at h1 h2; omega) (by unfold amt at h1 h2; omega)]
      simp [h1, h2, toldS]
      try (split <;> rfl)
    · simp [h1, h2]
  · simp [h1]
theorem ref_sub_f (a b : Int) : backhaulref02_Sub.f a b = some (subS a b) := by
  unfold backhaulref02_Sub.f subS
  simp only [ref_in_f, Option.bind_some]
  by_cases h1 : amt a
  · by_cases h2 : amt b
    · rw [wrap_eq (by unfold amt at h1 h2; omega) (by unfold amt at h1 h2; omega)]
      simp [h1, h2]
      try (split <;> rfl)
    · simp [h1, h2]
  · simp [h1]

theorem and32 {x : Int} (h0 : 0 ≤ x) (h1 : x < 18446744073709551616) : Go.bits .and .u64 x 4294967295 = x % 4294967296 :=
  Go.bits_mask .u64 64 (by decide) (fun n h0 h1 => u64_eq h0 h1) 32 (by decide) x h0 h1
theorem mul64_f {a b : Int} (ha0 : 0 ≤ a) (ha : a < 18446744073709551616) (hb0 : 0 ≤ b) (hb : b < 18446744073709551616) :
    bits_Mul64.f a b = some (a * b / 18446744073709551616, a * b % 18446744073709551616) := by
  unfold bits_Mul64.f
  rw [and32 ha0 ha, and32 hb0 hb]
  obtain ⟨ah, hah⟩ : ∃ x, x = a / 4294967296 := ⟨_, rfl⟩
  obtain ⟨al, hal⟩ : ∃ x, x = a % 4294967296 := ⟨_, rfl⟩
  obtain ⟨bh, hbh⟩ : ∃ x, x = b / 4294967296 := ⟨_, rfl⟩
  obtain ⟨bl, hbl⟩ : ∃ x, x = b % 4294967296 := ⟨_, rfl⟩
  rw [← hah, ← hal, ← hbh, ← hbl]
  have ea : a = ah * 4294967296 + al := by omega
  have eb : b = bh * 4294967296 + bl := by omega
  have bnd : ∀ x y : Int, 0 ≤ x → x ≤ 4294967295 → 0 ≤ y → y ≤ 4294967295 → 0 ≤ x * y ∧ x * y ≤ 18446744065119617025 := by
    intro x y hx0 hx hy0 hy
    refine ⟨Int.mul_nonneg hx0 hy0, ?_⟩
    have := Int.mul_le_mul hx hy hy0 (by omega)
    omega
  obtain ⟨p, hp⟩ : ∃ x, x = ah * bh := ⟨_, rfl⟩
  obtain ⟨q, hq⟩ : ∃ x, x = ah * bl := ⟨_, rfl⟩
  obtain ⟨r, hr⟩ : ∃ x, x = al * bh := ⟨_, rfl⟩
  obtain ⟨s, hs⟩ : ∃ x, x = al * bl := ⟨_, rfl⟩
  have bp := bnd ah bh (by omega) (by omega) (by omega) (by omega)
  have bq := bnd ah bl (by omega) (by omega) (by omega) (by omega)
  have br := bnd al bh (by omega) (by omega) (by omega) (by omega)
  have bs := bnd al bl (by omega) (by omega) (by omega) (by omega)
  have e : a * b = p * 18446744073709551616 + (q + r) * 4294967296 + s := by
    rw [ea, eb, hp, hq, hr, hs]
    simp only [Int.add_mul, Int.mul_add]
    rw [show ah * 4294967296 * (bh * 4294967296) = ah * bh * 18446744073709551616 by rw [Int.mul_assoc, Int.mul_left_comm 4294967296 bh, Int.mul_assoc ah bh]; rfl, show ah * 4294967296 * bl = ah * bl * 4294967296 by rw [Int.mul_right_comm], show al * (bh * 4294967296) = al * bh * 4294967296 by rw [Int.mul_assoc]]
    omega
  rw [← hp] at bp
  rw [← hq] at bq
  rw [← hr] at br
  rw [← hs] at bs
  rw [← hp, ← hq, ← hr, ← hs, e]
  clear e hp hq hr hs ea eb hah hal hbh hbl
  rw [u64_eq (x := p) (by omega) (by omega), u64_eq (x := q) (by omega) (by omega), u64_eq (x := r) (by omega) (by omega), u64_eq (x := s) (by omega) (by omega)]
  rw [u64_eq (x := q + s / 4294967296) (by omega) (by omega)]
  rw [u64_eq (x := p + (q + s / 4294967296) / 4294967296) (by omega) (by omega)]
  rw [and32 (x := q + s / 4294967296) (by omega) (by omega)]
  rw [u64_eq (x := (q + s / 4294967296) % 4294967296 + r) (by omega) (by omega)]
  rw [u64_eq (x := p + (q + s / 4294967296) / 4294967296 + ((q + s / 4294967296) % 4294967296 + r) / 4294967296) (by omega) (by omega)]
  have hw : IntKind.u64.wrap (p * 18446744073709551616 + (q + r) * 4294967296 + s) = (p * 18446744073709551616 + (q + r) * 4294967296 + s) % 18446744073709551616 := by simp [IntKind.wrap, IntKind.signed, IntKind.bits]
  rw [hw]
  congr 2
  omega
theorem product_f {a b : Int} (ha0 : 0 ≤ a) (ha : a < 18446744073709551616) (hb0 : 0 ≤ b) (hb : b < 18446744073709551616) :
    cents_product.f a b = some (a * b / 18446744073709551616, a * b % 18446744073709551616) := by
  unfold cents_product.f
  rw [mul64_f ha0 ha hb0 hb]
  rfl
theorem above_f {x y : Int} (hx0 : 0 ≤ x) (hy0 : 0 ≤ y) : cents_wide_above.f (x / 18446744073709551616) (x % 18446744073709551616) (y / 18446744073709551616) (y % 18446744073709551616) = some (decide (x > y)) := by
  unfold cents_wide_above.f
  split
  · exact congrArg some (decide_eq_true (by omega)).symm
  · split
    · exact congrArg some (decide_eq_decide.2 (by omega))
    · exact congrArg some (decide_eq_false (by omega)).symm
theorem size_f {a : Int} (h : amt a) : cents_size.f a = some (a.natAbs : Int) := by
  unfold amt at h
  unfold cents_size.f
  split
  · rw [wrap_eq (by omega) (by omega), u64_eq (by omega) (by omega)]; congr 1; omega
  · rw [u64_eq (by omega) (by omega)]; congr 1; omega
theorem natAbs_amt {a b : Int} : (a.natAbs : Int) * (b.natAbs : Int) ≤ 1000000000000 ↔ amt (a * b) := by
  have h : (a.natAbs : Int) * (b.natAbs : Int) = ((a * b).natAbs : Int) := by rw [Int.natAbs_mul]; rfl
  rw [h]
  unfold amt
  omega
theorem times_f (a b : Int) : cents_Times.f a b = some (timesS a b) := by
  unfold cents_Times.f timesS
  simp only [in_f, Option.bind_some]
  by_cases h1 : amt a
  · by_cases h2 : amt b
    · simp only [h1, h2, decide_true, if_true, size_f h1, size_f h2, Option.bind_some, true_and]
      have h3 := h1; have h4 := h2
      unfold amt at h3 h4
      rw [product_f (by omega) (by omega) (by omega) (by omega)]
      simp only [Option.bind_some]
      have hab := above_f (x := (a.natAbs : Int) * (b.natAbs : Int)) (y := 1000000000000) (Int.mul_nonneg (by omega) (by omega)) (by omega)
      rw [show (1000000000000 : Int) / 18446744073709551616 = 0 from by decide, show (1000000000000 : Int) % 18446744073709551616 = 1000000000000 from by decide] at hab
      rw [hab]
      simp only [Option.bind_some]
      by_cases h5 : amt (a * b)
      · have := natAbs_amt.2 h5
        have h6 := h5
        unfold amt at h6
        rw [if_pos h5, if_neg (by simp; omega), wrap_eq (by omega) (by omega)]
      · have : ¬ _ := fun x => h5 (natAbs_amt.1 x)
        rw [if_neg h5, if_pos (by simp; omega)]
    · simp [h1, h2]
  · simp [h1]
theorem ref_times_j1 {a b : Int} (h1 : amt a) (h2 : amt b) : Ev (fun k => backhaulref02_Times.j1 k a b (a.natAbs : Int) b) (timesS a b) := by
  have h3 := h1; have h4 := h2
  unfold amt at h3 h4
  have hz : timesS a b = if amt (a * b) then (a * b, 0) else (0, 8) := by unfold timesS; simp [h1, h2]
  have key : ∀ y : Int, 0 < y → y = (b.natAbs : Int) → (((a.natAbs : Int) > wrap64 (Int.tdiv 1000000000000 y)) ↔ ¬ amt (a * b)) := by
    intro y hy e
    rw [Int.tdiv_eq_ediv_of_nonneg (by decide)]
    have hb := Int.ediv_le_self y (show (0 : Int) ≤ 1000000000000 by decide)
    have hb0 := Int.ediv_nonneg (show (0 : Int) ≤ 1000000000000 by decide) (show 0 ≤ y by omega)
    rw [wrap_eq (by omega) (by omega), ← natAbs_amt, ← e, ← Int.le_ediv_iff_mul_le hy]
    omega
  have fin : ∀ c : Prop, [Decidable c] → (c ↔ ¬ amt (a * b)) → Ev (fun k => if c then some ((0 : Int), (8 : Int)) else some (wrap64 (a * b), 0)) (timesS a b) := by
    intro c _ hc
    rw [hz]
    refine Ev.ite (fun h => Ev.ok ?_) (fun h => Ev.ok ?_)
    · rw [if_neg (hc.1 h)]
    · have h5 : amt (a * b) := Decidable.not_not.1 (fun x => h (hc.2 x))
      rw [if_pos h5]
      unfold amt at h5
      rw [wrap_eq (by omega) (by omega)]
  have zero : b = 0 → Ev (fun k => some (wrap64 (a * b), (0 : Int))) (timesS a b) := by
    intro e
    subst e
    rw [hz, Int.mul_zero, if_pos amt0]
    exact Ev.ok (by rw [wrap_eq (by decide) (by decide)])
  refine Ev.step (fun k => by simp only [backhaulref02_Times.j1]; rfl) ?_
  refine Ev.ite (fun h => ?_) (fun h => ?_)
  · rw [wrap_eq (by omega) (by omega)]
    exact Ev.pos (by omega) (Ev.neg (by omega) (fin _ (key _ (by omega) (by omega))))
  · refine Ev.ite (fun h5 => Ev.neg (by omega) (fin _ (key _ (by omega) (by omega)))) (fun h5 => zero (by omega))
theorem ref_times_f (a b : Int) : Ev (fun k => backhaulref02_Times.f k a b) (timesS a b) := by
  unfold backhaulref02_Times.f
  have bad : ¬ (amt a ∧ amt b) → Ev (fun k => backhaulref02_Times.j0 k a b true) (timesS a b) := by
    intro h
    refine Ev.step (fun k => by simp only [backhaulref02_Times.j0]; rfl) ?_
    refine Ev.pos (by first | trivial | rfl) (Ev.ok ?_)
    unfold timesS; rw [if_neg (fun x => h ⟨x.1, x.2.1⟩)]
  refine Q.Ev.bindc (ref_in_f _) ?_
  refine Ev.ite (fun h => ?_) (fun h => bad (fun x => h (by simpa using x.1)))
  refine Q.Ev.bindc (ref_in_f _) ?_
  have h1 : amt a := of_decide_eq_true h
  by_cases h2 : amt b
  · rw [decide_eq_true h2]
    refine Ev.step (fun k => by simp only [backhaulref02_Times.j0]; rfl) ?_
    refine Ev.neg (by decide) ?_
    have h3 := h1
    unfold amt at h3
    refine Ev.ite (fun h => ?_) (fun h => ?_)
    · have := ref_times_j1 h1 h2
      rw [wrap_eq (by omega) (by omega), show -a = (a.natAbs : Int) by omega]
      exact this
    · have := ref_times_j1 h1 h2
      rw [show (a.natAbs : Int) = a by omega] at this
      exact this
  · rw [decide_eq_false h2]
    exact bad (fun x => h2 x.2)
end Go.Proofs.Ytefhljhpcpajgaa.Q

/- What math/bits.Div64 comes to: quotient and rest of a number of two words, if its upper word is below the divisor. -/
set_option linter.unusedVariables false
set_option maxRecDepth 4000
namespace Go.Proofs.Ytefhljhpcpajgaa.Q
open Go.RowKit Go.Proofs.Ytefhljhpcpajgaa.F Go.Proofs.YtefhljhpcpajgaaW.PrintWords Go.Proofs.YtefhljhpcpajgaaW.PrintLast Go.Proofs.YtefhljhpcpajgaaW.PrintMore

abbrev tab8 : ByteArray := (⟨#[0, 1, 2, 2, 3, 3, 3, 3, 4, 4, 4, 4, 4, 4, 4, 4, 5, 5, 5, 5, 5, 5, 5, 5, 5, 5, 5, 5, 5, 5, 5, 5, 6, 6, 6, 6, 6, 6, 6, 6, 6, 6, 6, 6, 6, 6, 6, 6, 6, 6, 6, 6, 6, 6, 6, 6, 6, 6, 6, 6, 6, 6, 6, 6, 7, 7, 7, 7, 7, 7, 7, 7, 7, 7, 7, 7, 7, 7, 7, 7, 7, 7, 7, 7, 7, 7, 7, 7, 7, 7, 7, 7, 7, 7, 7, 7, 7, 7, 7, 7, 7, 7, 7, 7, 7, 7, 7, 7, 7, 7, 7, 7, 7, 7, 7, 7, 7, 7, 7, 7, 7, 7, 7, 7, 7, 7, 7, 7, 8, 8, 8, 8, 8, 8, 8, 8, 8, 8, 8, 8, 8, 8, 8, 8, 8, 8, 8, 8, 8, 8, 8, 8, 8, 8, 8, 8, 8, 8, 8, 8, 8, 8, 8, 8, 8, 8, 8, 8, 8, 8, 8, 8, 8, 8, 8, 8, 8, 8, 8, 8, 8, 8, 8, 8, 8, 8, 8, 8, 8, 8, 8, 8, 8, 8, 8, 8, 8, 8, 8, 8, 8, 8, 8, 8, 8, 8, 8, 8, 8, 8, 8, 8, 8, 8, 8, 8, 8, 8, 8, 8, 8, 8, 8, 8, 8, 8, 8, 8, 8, 8, 8, 8, 8, 8, 8, 8, 8, 8, 8, 8, 8, 8, 8, 8, 8, 8, 8, 8, 8, 8, 8, 8, 8, 8, 8, 8]⟩ : ByteArray)
def len8ok (x : Nat) : Bool := let t := (bt tab8 (x : Int)).toNat; decide (bt tab8 (x : Int) = (t : Int)) && decide (t ≤ 8) && decide (x < 2 ^ t) && (x == 0 || (decide (1 ≤ t) && decide (2 ^ (t - 1) ≤ x)))
theorem len8_all : (List.range 256).all len8ok = true := by decide +kernel
theorem len8 {x : Int} (h0 : 0 ≤ x) (h1 : x < 256) : ∃ t : Nat, bt tab8 x = (t : Int) ∧ t ≤ 8 ∧ x < (2 : Int) ^ t ∧ (0 < x → 1 ≤ t ∧ (2 : Int) ^ (t - 1) ≤ x) := by
  obtain ⟨n, rfl⟩ := Int.eq_ofNat_of_zero_le h0
  have h := List.all_eq_true.1 len8_all n (List.mem_range.2 (by omega))
  unfold len8ok at h
  simp only [Bool.and_eq_true, decide_eq_true_eq, Bool.or_eq_true, beq_iff_eq] at h
  obtain ⟨⟨⟨ha, hb⟩, hc⟩, hd⟩ := h
  refine ⟨_, ha, hb, by exact_mod_cast hc, fun hp => ?_⟩
  rcases hd with hd | hd
  · omega
  · exact ⟨hd.1, by exact_mod_cast hd.2⟩
theorem up_pow {x : Int} {m t : Nat} (hx : 0 ≤ x) (ht : 1 ≤ t) (h1 : (2 : Int) ^ (t - 1) ≤ x / 2 ^ m) (h2 : x / 2 ^ m < (2 : Int) ^ t) : (2 : Int) ^ (m + t - 1) ≤ x ∧ x < (2 : Int) ^ (m + t) := by
  have hp : (0 : Int) < 2 ^ m := Int.pow_pos (by decide)
  constructor
  · rw [show m + t - 1 = (t - 1) + m by omega, Int.pow_add]
    exact (Int.le_ediv_iff_mul_le hp).1 h1
  · rw [Nat.add_comm, Int.pow_add]
    exact (Int.ediv_lt_iff_lt_mul hp).1 h2
theorem len64_j0 {x c : Int} (hx0 : 0 < x) (hx : x < 4294967296) (hc0 : 0 ≤ c) (hc : c ≤ 32) : ∃ n : Nat, Ev (fun k => bits_Len64.j0 k x c) (c + n) ∧ 1 ≤ n ∧ n ≤ 32 ∧ (2 : Int) ^ (n - 1) ≤ x ∧ x < (2 : Int) ^ n := by
  by_cases h1 : x ≥ 65536
  · by_cases h2 : x / 65536 ≥ 256
    · obtain ⟨t, e, ht, hlt, hpos⟩ := len8 (x := x / 65536 / 256 % 256) (by omega) (by omega)
      obtain ⟨h3, h4⟩ := hpos (by omega)
      have e2 : x / 65536 / 256 % 256 = x / 2 ^ 24 := by rw [show (2 : Int) ^ 24 = 16777216 by decide]; omega
      rw [e2] at hlt h4
      obtain ⟨h5, h6⟩ := up_pow (m := 24) (by omega) h3 h4 hlt
      refine ⟨24 + t, Ev.step (fun k => by simp only [bits_Len64.j0]; rfl) ?_, by omega, by omega, h5, h6⟩
      refine Ev.pos h1 (Ev.pos h2 (Ev.pos (by omega) (Ev.pos (by omega) (Ev.ok ?_))))
      rw [e, wrap_eq (x := c + 16) (by omega) (by omega), wrap_eq (x := (t : Int)) (by omega) (by omega), wrap_eq (x := c + 16 + 8) (by omega) (by omega), wrap_eq (by omega) (by omega)]
      omega
    · obtain ⟨t, e, ht, hlt, hpos⟩ := len8 (x := x / 65536 % 256) (by omega) (by omega)
      obtain ⟨h3, h4⟩ := hpos (by omega)
      have e2 : x / 65536 % 256 = x / 2 ^ 16 := by rw [show (2 : Int) ^ 16 = 65536 by decide]; omega
      rw [e2] at hlt h4
      obtain ⟨h5, h6⟩ := up_pow (m := 16) (by omega) h3 h4 hlt
      refine ⟨16 + t, Ev.step (fun k => by simp only [bits_Len64.j0]; rfl) ?_, by omega, by omega, h5, h6⟩
      refine Ev.pos h1 (Ev.neg h2 (Ev.pos (by omega) (Ev.pos (by omega) (Ev.ok ?_))))
      rw [e, wrap_eq (x := c + 16) (by omega) (by omega), wrap_eq (x := (t : Int)) (by omega) (by omega), wrap_eq (by omega) (by omega)]
      omega
  · by_cases h2 : x ≥ 256
    · obtain ⟨t, e, ht, hlt, hpos⟩ := len8 (x := x / 256 % 256) (by omega) (by omega)
      obtain ⟨h3, h4⟩ := hpos (by omega)
      have e2 : x / 256 % 256 = x / 2 ^ 8 := by rw [show (2 : Int) ^ 8 = 256 by decide]; omega
      rw [e2] at hlt h4
      obtain ⟨h5, h6⟩ := up_pow (m := 8) (by omega) h3 h4 hlt
      refine ⟨8 + t, Ev.step (fun k => by simp only [bits_Len64.j0]; rfl) ?_, by omega, by omega, h5, h6⟩
      refine Ev.neg h1 (Ev.pos h2 (Ev.pos (by omega) (Ev.pos (by omega) (Ev.ok ?_))))
      rw [e, wrap_eq (x := c + 8) (by omega) (by omega), wrap_eq (x := (t : Int)) (by omega) (by omega), wrap_eq (by omega) (by omega)]
      omega
    · obtain ⟨t, e, ht, hlt, hpos⟩ := len8 (x := x % 256) (by omega) (by omega)
      obtain ⟨h3, h4⟩ := hpos (by omega)
      have e2 : x % 256 = x := by omega
      rw [e2] at hlt h4
      refine ⟨t, Ev.step (fun k => by simp only [bits_Len64.j0]; rfl) ?_, by omega, by omega, h4, hlt⟩
      refine Ev.neg h1 (Ev.neg h2 (Ev.pos (by omega) (Ev.pos (by omega) (Ev.ok ?_))))
      rw [e, wrap_eq (x := (t : Int)) (by omega) (by omega), wrap_eq (by omega) (by omega)]
theorem len64_f {x : Int} (hx0 : 0 < x) (hx : x < 18446744073709551616) : ∃ n : Nat, Ev (fun k => bits_Len64.f k x) (n : Int) ∧ 1 ≤ n ∧ n ≤ 64 ∧ (2 : Int) ^ (n - 1) ≤ x ∧ x < (2 : Int) ^ n := by
  by_cases h : x ≥ 4294967296
  · obtain ⟨n, h1, h2, h3, h4, h5⟩ := len64_j0 (x := x / 4294967296) (c := 32) (by omega) (by omega) (by omega) (by omega)
    have e2 : (4294967296 : Int) = 2 ^ 32 := by decide
    obtain ⟨h6, h7⟩ := up_pow (m := 32) (x := x) (by omega) h2 (by rw [← e2]; exact h4) (by rw [← e2]; exact h5)
    refine ⟨32 + n, ?_, by omega, by omega, h6, h7⟩
    unfold bits_Len64.f
    refine Ev.pos h ?_
    have := h1
    rwa [show (32 : Int) + n = ((32 + n : Nat) : Int) by omega] at this
  · obtain ⟨n, h1, h2, h3, h4, h5⟩ := len64_j0 (x := x) (c := 0) (by omega) (by omega) (by omega) (by omega)
    refine ⟨n, ?_, by omega, by omega, h4, h5⟩
    unfold bits_Len64.f
    refine Ev.neg h ?_
    rwa [Int.zero_add] at h1
theorem u64_mod (x : Int) : IntKind.u64.wrap x = x % 18446744073709551616 := by simp [IntKind.wrap, IntKind.signed, IntKind.bits]

/-- One digit of the quotient, a round of its correction. -/
theorem digit {Y y1 y0 u d q r U Q : Int} (hY : Y = y1 * 4294967296 + y0) (h1 : 2147483648 ≤ y1) (h0 : 0 ≤ y0) (h0' : y0 < 4294967296) (hu0 : 0 ≤ u) (hu : u < Y) (hd0 : 0 ≤ d) (hd : d < 4294967296)
    (hU : U = u * 4294967296 + d) (hQ : Q = U / Y) (hqr : q * y1 + r = u) (hq0 : 0 ≤ q) (hq : q ≤ 4294967297) (hr0 : 0 ≤ r) (hr : r < 4294967296) (hge : Q ≤ q) :
    ((q ≥ 4294967296 ∨ q < 4294967296 ∧ 4294967296 * r + d < q * y0) ∧ Q ≤ q - 1 ∧ 1 ≤ q ∧ (r + y1 ≥ 4294967296 → q - 1 = Q)) ∨ (q < 4294967296 ∧ ¬ (4294967296 * r + d < q * y0) ∧ q = Q) := by
  have hYp : 0 < Y := by omega
  have eq : q * Y = (u - r) * 4294967296 + q * y0 := by
    rw [hY, Int.mul_add, ← Int.mul_assoc, show q * y1 = u - r by omega]
  have hlt : ∀ z : Int, Q < z ↔ U < z * Y := fun z => by rw [hQ]; exact Int.ediv_lt_iff_lt_mul hYp
  have hQ0 : 0 ≤ Q := by rw [hQ]; exact Int.ediv_nonneg (by omega) (by omega)
  have brk : Q ≤ q - 1 → r + y1 ≥ 4294967296 → q - 1 = Q := by
    intro h2 h3
    have h4 : ¬ (Q < q - 1) := by
      rw [hlt, Int.sub_mul, eq, hY, Int.one_mul]
      have : (q - 1) * y0 ≤ 4294967296 * y0 := Int.mul_le_mul_of_nonneg_right (by omega) h0
      rw [Int.sub_mul, Int.one_mul] at this
      omega
    omega
  by_cases h2 : q ≥ 4294967296
  · have h3 : Q < q := by
      have : Q < 4294967296 := by rw [hlt]; omega
      omega
    exact .inl ⟨.inl h2, by omega, by omega, brk (by omega)⟩
  · by_cases h3 : 4294967296 * r + d < q * y0
    · have h4 : Q < q := by rw [hlt, eq]; omega
      exact .inl ⟨.inr ⟨by omega, h3⟩, by omega, by omega, brk (by omega)⟩
    · have h4 : ¬ Q < q := by rw [hlt, eq]; omega
      exact .inr ⟨by omega, h3, by omega⟩
/-- What is left, in one word. -/
theorem rest_word {Y u d U Q : Int} (hY : 0 < Y) (hY' : Y < 18446744073709551616) (hU : U = u * 4294967296 + d) (hQ : Q = U / Y) : IntKind.u64.wrap (IntKind.u64.wrap (IntKind.u64.wrap (u * 4294967296) + d) - IntKind.u64.wrap (Q * Y)) = U % Y := by
  simp only [u64_mod]
  have h1 := Int.emod_nonneg U (show Y ≠ 0 by omega)
  have h2 := Int.emod_lt_of_pos U hY
  have h3 : U % Y = U - Q * Y := by rw [Int.emod_def, hQ, Int.mul_comm]
  rw [h3] at h1 h2 ⊢
  omega
structure Div1 (Y y1 y0 : Int) : Prop where
  eq : Y = y1 * 4294967296 + y0
  lo : 2147483648 ≤ y1
  hi : y1 < 4294967296
  z0 : 0 ≤ y0
  z1 : y0 < 4294967296
/-- The last digit's loop. -/
theorem div_l1 {Y y1 y0 u d s q1 U Q : Int} (D : Div1 Y y1 y0) (hu0 : 0 ≤ u) (hu : u < Y) (hd0 : 0 ≤ d) (hd : d < 4294967296) (hs : 0 ≤ s) (hU : U = u * 4294967296 + d) (hQ : Q = U / Y) (m : Nat) :
    ∀ q r : Int, q * y1 + r = u → 0 ≤ q → q ≤ 4294967297 → 0 ≤ r → r < 4294967296 → Q ≤ q → 4294967296 ≤ r + m * 2147483648 →
    Ev (fun k => bits_Div64.l1 k Y s y1 y0 d q1 r u q) (IntKind.u64.wrap (IntKind.u64.wrap (q1 * 4294967296) + Q), shr .u64 (U % Y) s) := by
  obtain ⟨hY, h1, h1', h0, h0'⟩ := D
  induction m with
  | zero => intro q r _ _ _ _ _ _ hm; omega
  | succ m ih =>
    intro q r hqr hq0 hq hr0 hr hge hm
    have H := digit hY h1 h0 h0' hu0 hu hd0 hd hU hQ hqr hq0 hq hr0 hr hge
    have rw_ := rest_word (show 0 < Y by omega) (by omega) hU hQ
    have yes : ((q ≥ 4294967296 ∨ q < 4294967296 ∧ 4294967296 * r + d < q * y0) ∧ Q ≤ q - 1 ∧ 1 ≤ q ∧ (r + y1 ≥ 4294967296 → q - 1 = Q)) → Ev (fun k => bits_Div64.j4 k Y s y1 y0 d q1 r u q true) (IntKind.u64.wrap (IntKind.u64.wrap (q1 * 4294967296) + Q), shr .u64 (U % Y) s) := by
      rintro ⟨_, h3, h4, h5⟩
      refine Ev.step (fun k => by simp only [bits_Div64.j4]; rfl) ?_
      refine Ev.pos (by first | trivial | rfl) ?_
      rw [u64_eq (x := r + y1) (by omega) (by omega), u64_eq (x := q - 1) (by omega) (by omega)]
      refine Ev.ite (fun h6 => Ev.pos hs (Ev.ok ?_)) (fun h6 => ?_)
      · rw [h5 h6, rw_]
      · exact ih (q - 1) (r + y1) (by rw [Int.sub_mul]; omega) (by omega) (by omega) (by omega) (by omega) h3 (by omega)
    have no : q = Q → Ev (fun k => bits_Div64.j4 k Y s y1 y0 d q1 r u q false) (IntKind.u64.wrap (IntKind.u64.wrap (q1 * 4294967296) + Q), shr .u64 (U % Y) s) := by
      rintro rfl
      refine Ev.step (fun k => by simp only [bits_Div64.j4]; rfl) ?_
      refine Ev.neg (by decide) (Ev.pos hs (Ev.ok ?_))
      rw [rw_]
    refine Ev.step (fun k => by simp only [bits_Div64.l1]; rfl) ?_
    refine Ev.ite (fun h6 => ?_) (fun h6 => ?_)
    · rcases H with H | H
      · exact yes H
      · omega
    · have hb : q * y0 ≤ 4294967295 * 4294967295 := Int.mul_le_mul (by omega) (by omega) h0 (by decide)
      have hb0 : 0 ≤ q * y0 := Int.mul_nonneg hq0 h0
      rw [u64_eq (x := q * y0) hb0 (by omega), u64_eq (x := 4294967296 * r) (by omega) (by omega), u64_eq (x := 4294967296 * r + d) (by omega) (by omega)]
      rcases H with H | H
      · rw [decide_eq_true (by omega)]; exact yes H
      · rw [decide_eq_false (by omega)]; exact no H.2.2
/-- The first digit's. -/
theorem div_l0 {Y y1 y0 u d d0 s U Q : Int} {R : Int × Int} (D : Div1 Y y1 y0) (hu0 : 0 ≤ u) (hu : u < Y) (hd0 : 0 ≤ d) (hd : d < 4294967296) (hU : U = u * 4294967296 + d) (hQ : Q = U / Y)
    (next : Ev (fun k => bits_Div64.j2 k Y s y1 y0 u d d0 Q) R) (m : Nat) :
    ∀ q r : Int, q * y1 + r = u → 0 ≤ q → q ≤ 4294967297 → 0 ≤ r → r < 4294967296 → Q ≤ q → 4294967296 ≤ r + m * 2147483648 →
    Ev (fun k => bits_Div64.l0 k Y s y1 y0 u d d0 q r) R := by
  obtain ⟨hY, h1, h1', h0, h0'⟩ := D
  induction m with
  | zero => intro q r _ _ _ _ _ _ hm; omega
  | succ m ih =>
    intro q r hqr hq0 hq hr0 hr hge hm
    have H := digit hY h1 h0 h0' hu0 hu hd0 hd hU hQ hqr hq0 hq hr0 hr hge
    have yes : ((q ≥ 4294967296 ∨ q < 4294967296 ∧ 4294967296 * r + d < q * y0) ∧ Q ≤ q - 1 ∧ 1 ≤ q ∧ (r + y1 ≥ 4294967296 → q - 1 = Q)) → Ev (fun k => bits_Div64.j1 k Y s y1 y0 u d d0 q r true) R := by
      rintro ⟨_, h3, h4, h5⟩
      refine Ev.step (fun k => by simp only [bits_Div64.j1]; rfl) ?_
      refine Ev.pos (by first | trivial | rfl) ?_
      rw [u64_eq (x := r + y1) (by omega) (by omega), u64_eq (x := q - 1) (by omega) (by omega)]
      refine Ev.ite (fun h6 => ?_) (fun h6 => ?_)
      · rw [h5 h6]; exact next
      · exact ih (q - 1) (r + y1) (by rw [Int.sub_mul]; omega) (by omega) (by omega) (by omega) (by omega) h3 (by omega)
    have no : q = Q → Ev (fun k => bits_Div64.j1 k Y s y1 y0 u d d0 q r false) R := by
      rintro rfl
      refine Ev.step (fun k => by simp only [bits_Div64.j1]; rfl) ?_
      exact Ev.neg (by decide) next
    refine Ev.step (fun k => by simp only [bits_Div64.l0]; rfl) ?_
    refine Ev.ite (fun h6 => ?_) (fun h6 => ?_)
    · rcases H with H | H
      · exact yes H
      · omega
    · have hb : q * y0 ≤ 4294967295 * 4294967295 := Int.mul_le_mul (by omega) (by omega) h0 (by decide)
      have hb0 : 0 ≤ q * y0 := Int.mul_nonneg hq0 h0
      rw [u64_eq (x := q * y0) hb0 (by omega), u64_eq (x := 4294967296 * r) (by omega) (by omega), u64_eq (x := 4294967296 * r + d) (by omega) (by omega)]
      rcases H with H | H
      · rw [decide_eq_true (by omega)]; exact yes H
      · rw [decide_eq_false (by omega)]; exact no H.2.2
/-- A digit's first guess. -/
theorem guess {Y y1 y0 u d U Q : Int} (D : Div1 Y y1 y0) (hu0 : 0 ≤ u) (hu : u < Y) (hd0 : 0 ≤ d) (hd : d < 4294967296) (hU : U = u * 4294967296 + d) (hQ : Q = U / Y) :
    ∃ q r : Int, IntKind.u64.wrap (Int.tdiv u y1) = q ∧ IntKind.u64.wrap (u - IntKind.u64.wrap (q * y1)) = r ∧ q * y1 + r = u ∧ 0 ≤ q ∧ q ≤ 4294967297 ∧ 0 ≤ r ∧ r < 4294967296 ∧ Q ≤ q := by
  obtain ⟨hY, h1, h1', h0, h0'⟩ := D
  have hq0 : 0 ≤ u / y1 := Int.ediv_nonneg hu0 (by omega)
  have hq : u / y1 < 4294967298 := by rw [Int.ediv_lt_iff_lt_mul (by omega)]; omega
  have hm := Int.emod_def u y1
  have hr0 := Int.emod_nonneg u (show y1 ≠ 0 by omega)
  have hr := Int.emod_lt_of_pos u (show 0 < y1 by omega)
  have hc : u / y1 * y1 = u - u % y1 := by rw [Int.mul_comm]; omega
  have hcp : 0 ≤ u / y1 * y1 := Int.mul_nonneg hq0 (by omega)
  refine ⟨u / y1, u % y1, ?_, ?_, by omega, hq0, by omega, hr0, by omega, ?_⟩
  · rw [Int.tdiv_eq_ediv_of_nonneg hu0, u64_eq hq0 (by omega)]
  · rw [hc, u64_eq (x := u - u % y1) (by omega) (by omega), show u - (u - u % y1) = u % y1 by omega, u64_eq (by omega) (by omega)]
  · have hlt : Q < u / y1 + 1 := by
      rw [hQ, Int.ediv_lt_iff_lt_mul (by omega), hY, Int.mul_add, ← Int.mul_assoc, Int.add_mul, hc, Int.one_mul]
      have : 0 ≤ (u / y1 + 1) * y0 := Int.mul_nonneg (by omega) h0
      omega
    omega

theorem shl_at {x y s : Int} {n : Nat} (hs : s = (n : Int)) (hn : n ≤ 64) (h : x * 2 ^ n = y) (h0 : 0 ≤ y) (h1 : y < 18446744073709551616) : shl .u64 x s = y := by
  unfold shl
  rw [hs, Int.toNat_natCast, Nat.min_eq_left (by simpa [IntKind.bits] using hn), h, u64_eq h0 h1]
theorem and32' {x : Int} (h0 : 0 ≤ x) (h1 : x < 18446744073709551616) : Go.bits .and .u64 x 4294967295 = x % 4294967296 :=
  Go.bits_mask .u64 64 (by decide) (fun n h0 h1 => u64_eq h0 h1) 32 (by decide) x h0 h1
theorem div64_f {a b c : Int} (ha0 : 0 ≤ a) (ha : a < c) (hb0 : 0 ≤ b) (hb : b < 18446744073709551616) (hc : c < 18446744073709551616) :
    Ev (fun k => bits_Div64.f k a b c) ((a * 18446744073709551616 + b) / c, (a * 18446744073709551616 + b) % c) := by
  have hc0 : 0 < c := by omega
  unfold bits_Div64.f
  refine Ev.neg (by omega) (Ev.neg (by omega) ?_)
  by_cases hz : a = 0
  · refine Ev.pos hz (Ev.ok ?_)
    subst hz
    rw [Int.zero_mul, Int.zero_add, Int.tdiv_eq_ediv_of_nonneg hb0, Int.tmod_eq_emod_of_nonneg hb0]
    have h1 := Int.ediv_nonneg hb0 (show 0 ≤ c by omega)
    have h2 := Int.ediv_le_self c hb0
    rw [u64_eq h1 (by omega)]
  refine Ev.neg hz ?_
  obtain ⟨n, hev, hn1, hn2, hlo, hhi⟩ := len64_f hc0 hc
  -- the shift
  obtain ⟨s, hs⟩ : ∃ s : Nat, s = 64 - n := ⟨_, rfl⟩
  have hsn : s + n = 64 := by omega
  have hs63 : s ≤ 63 := by omega
  obtain ⟨p, hp⟩ : ∃ p : Int, p = 2 ^ s := ⟨_, rfl⟩
  obtain ⟨r, hr⟩ : ∃ r : Int, r = 2 ^ n := ⟨_, rfl⟩
  have hp0 : 0 < p := by rw [hp]; exact Int.pow_pos (by decide)
  have hr0 : 0 < r := by rw [hr]; exact Int.pow_pos (by decide)
  have hpr : p * r = 18446744073709551616 := by rw [hp, hr, ← Int.pow_add, hsn]; decide
  have hY1 : c * p < 18446744073709551616 := by
    rw [← hpr, Int.mul_comm p r]
    exact Int.mul_lt_mul_of_pos_right (by rw [hr]; exact hhi) hp0
  have hY0 : 9223372036854775808 ≤ c * p := by
    have h1 : (2 : Int) ^ (n - 1) * p ≤ c * p := Int.mul_le_mul_of_nonneg_right hlo (by omega)
    have h2 : (2 : Int) ^ (n - 1) * p = 9223372036854775808 := by
      rw [hp, ← Int.pow_add, show n - 1 + s = 63 by omega]; decide
    omega
  obtain ⟨Y, hY⟩ : ∃ Y, Y = c * p := ⟨_, rfl⟩
  rw [← hY] at hY0 hY1
  have haY : a * p < Y := by rw [hY]; exact Int.mul_lt_mul_of_pos_right ha hp0
  have hap0 : 0 ≤ a * p := Int.mul_nonneg ha0 (by omega)
  have hbr0 : 0 ≤ b / r := Int.ediv_nonneg hb0 (by omega)
  have hbr : b / r < p := by rw [Int.ediv_lt_iff_lt_mul hr0, hpr]; exact hb
  -- the words, shifted
  have eY : shl .u64 c (s : Int) = Y := shl_at rfl (by omega) (by rw [hY, hp]) (by omega) hY1
  have ea : shl .u64 a (s : Int) = a * p := shl_at rfl (by omega) (by rw [hp]) hap0 (by omega)
  have eb : shr .u64 b (n : Int) = b / r := by
    unfold shr
    rw [Int.toNat_natCast, Nat.min_eq_left (by simpa [IntKind.bits] using hn2), hr]
  have eb2 : shl .u64 b (s : Int) = (b * p) % 18446744073709551616 := by
    unfold shl
    rw [Int.toNat_natCast, Nat.min_eq_left (by simp [IntKind.bits]; omega), u64_mod, hp]
  have hor : Go.bits .or .u64 (a * p) (b / r) = a * p + b / r := by
    refine Go.bits_join .u64 64 (by decide) (fun n h0 h1 => u64_eq h0 h1) s (a * p) (b / r) hap0 ?_ ?_ hbr0 ?_ ?_
    · rw [hp]; exact Int.mul_emod_left _ _
    · exact Int.lt_trans haY hY1
    · rw [← hp]; exact hbr
    · have : p ≤ 18446744073709551616 := by
        rw [← hpr]
        have := Int.mul_le_mul_of_nonneg_left (show (1 : Int) ≤ r by omega) (show 0 ≤ p by omega)
        omega
      exact Int.lt_of_lt_of_le hbr this
  obtain ⟨u, hu⟩ : ∃ u, u = a * p + b / r := ⟨_, rfl⟩
  rw [← hu] at hor
  have huY : u < Y := by
    have h1 : (a + 1) * p ≤ c * p := Int.mul_le_mul_of_nonneg_right (by omega) (by omega)
    rw [Int.add_mul, Int.one_mul, ← hY] at h1
    omega
  have hu0 : 0 ≤ u := by omega
  obtain ⟨v, hv⟩ : ∃ v, v = (b * p) % 18446744073709551616 := ⟨_, rfl⟩
  rw [← hv] at eb2
  have hv0 : 0 ≤ v := by omega
  have hv1 : v < 18446744073709551616 := by omega
  have hbp : b * p = (b / r) * 18446744073709551616 + v := by
    have h1 : b * p / 18446744073709551616 = b / r := by
      rw [← hpr, Int.mul_comm p r]
      exact Int.mul_ediv_mul_of_pos_left b r hp0
    have h2 := Int.mul_ediv_add_emod (b * p) 18446744073709551616
    rw [h1, ← hv] at h2
    omega
  have hN : (a * 18446744073709551616 + b) * p = u * 18446744073709551616 + v := by
    rw [Int.add_mul, hbp, hu, Int.add_mul, Int.mul_right_comm]
    omega
  have ew : IntKind.u64.wrap (wrap64 (64 - (n : Int))) = (s : Int) := by
    rw [wrap_eq (by omega) (by omega), u64_eq (by omega) (by omega)]; omega
  have ew2 : IntKind.u64.wrap (64 - (s : Int)) = (n : Int) := by rw [u64_eq (by omega) (by omega)]; omega
  have hlz : Ev (fun k => bits_LeadingZeros64.f k c) (wrap64 (64 - (n : Int))) := by
    unfold bits_LeadingZeros64.f
    exact Ev.bind hev (Ev.ok rfl)
  refine Ev.bind hlz ?_
  simp only [ew, ew2, eY, ea, eb, eb2, hor]
  have D : Div1 Y (Y / 4294967296) (Go.bits .and .u64 Y 4294967295) := by
    rw [and32' (by omega) hY1]
    exact ⟨by omega, by omega, by omega, by omega, by omega⟩
  rw [and32' hv0 hv1]
  refine Ev.pos (by omega) (Ev.pos (by omega) (Ev.neg (by have := D.lo; omega) ?_))
  obtain ⟨y1, hy1⟩ : ∃ x, x = Y / 4294967296 := ⟨_, rfl⟩
  obtain ⟨y0, hy0⟩ : ∃ x, x = Go.bits .and .u64 Y 4294967295 := ⟨_, rfl⟩
  rw [← hy1, ← hy0] at D ⊢
  obtain ⟨d1, hd1⟩ : ∃ x, x = v / 4294967296 := ⟨_, rfl⟩
  obtain ⟨d0, hd0⟩ : ∃ x, x = v % 4294967296 := ⟨_, rfl⟩
  rw [← hd1, ← hd0]
  obtain ⟨U1, hU1⟩ : ∃ x, x = u * 4294967296 + d1 := ⟨_, rfl⟩
  obtain ⟨Q1, hQ1⟩ : ∃ x, x = U1 / Y := ⟨_, rfl⟩
  obtain ⟨R1, hR1⟩ : ∃ x, x = U1 % Y := ⟨_, rfl⟩
  obtain ⟨U0, hU0⟩ : ∃ x, x = R1 * 4294967296 + d0 := ⟨_, rfl⟩
  obtain ⟨Q0, hQ0⟩ : ∃ x, x = U0 / Y := ⟨_, rfl⟩
  have hYp : 0 < Y := by omega
  have hR10 : 0 ≤ R1 := by rw [hR1]; exact Int.emod_nonneg _ (by omega)
  have hR1Y : R1 < Y := by rw [hR1]; exact Int.emod_lt_of_pos _ hYp
  have e1 : U1 = Q1 * Y + R1 := by rw [hQ1, hR1, Int.mul_comm]; exact (Int.mul_ediv_add_emod U1 Y).symm
  have hQ1lt : Q1 < 4294967296 := by rw [hQ1, Int.ediv_lt_iff_lt_mul hYp]; omega
  have hQ10 : 0 ≤ Q1 := by rw [hQ1]; exact Int.ediv_nonneg (by omega) (by omega)
  have hQ0lt : Q0 < 4294967296 := by rw [hQ0, Int.ediv_lt_iff_lt_mul hYp]; omega
  have hQ00 : 0 ≤ Q0 := by rw [hQ0]; exact Int.ediv_nonneg (by omega) (by omega)
  have hNU : (a * 18446744073709551616 + b) * p = U0 + (Q1 * 4294967296) * Y := by
    rw [hN, hU0, Int.mul_right_comm]
    have : Q1 * Y = U1 - R1 := by omega
    rw [this]
    omega
  have hq : (a * 18446744073709551616 + b) / c = Q1 * 4294967296 + Q0 := by
    rw [← Int.mul_ediv_mul_of_pos_left _ c hp0, ← hY, hNU, Int.add_mul_ediv_right _ _ (by omega), ← hQ0]
    omega
  have hm : (a * 18446744073709551616 + b) % c = (U0 % Y) / p := by
    have h1 : (a * 18446744073709551616 + b) * p % (c * p) = (a * 18446744073709551616 + b) % c * p := by
      rw [Int.mul_comm _ p, Int.mul_comm c p, Int.mul_emod_mul_of_pos _ _ hp0, Int.mul_comm]
    rw [← hY, hNU, Int.add_mul_emod_self_right] at h1
    rw [h1, Int.mul_ediv_cancel _ (by omega)]
  have last : shr .u64 (U0 % Y) (s : Int) = (a * 18446744073709551616 + b) % c := by
    rw [hm, hp]
    unfold shr
    rw [Int.toNat_natCast, Nat.min_eq_left (by simp [IntKind.bits]; omega)]
  have res : (IntKind.u64.wrap (IntKind.u64.wrap (Q1 * 4294967296) + Q0), shr .u64 (U0 % Y) (s : Int)) = ((a * 18446744073709551616 + b) / c, (a * 18446744073709551616 + b) % c) := by
    rw [last, hq, u64_eq (x := Q1 * 4294967296) (by omega) (by omega), u64_eq (by omega) (by omega)]
  rw [← res]
  obtain ⟨q, rr, g1, g2, g3, g4, g5, g6, g7, g8⟩ := guess D hu0 huY (by omega) (by omega) hU1 hQ1
  rw [g1, g2]
  refine div_l0 D hu0 huY (by omega) (by omega) hU1 hQ1 ?_ 2 q rr g3 g4 g5 g6 g7 g8 (by omega)
  refine Ev.step (fun k => by simp only [bits_Div64.j2]; rfl) ?_
  refine Ev.neg (by have := D.lo; omega) ?_
  rw [rest_word hYp hY1 hU1 hQ1, ← hR1]
  obtain ⟨q', r', g1, g2, g3, g4, g5, g6, g7, g8⟩ := guess D hR10 hR1Y (by omega) (by omega) hU0 hQ0
  rw [g1, g2]
  exact div_l1 D hR10 hR1Y (by omega) (by omega) (by omega) hU0 hQ0 2 q' r' g3 g4 g5 g6 g7 g8 (by omega)
end Go.Proofs.Ytefhljhpcpajgaa.Q

namespace Go.Proofs.Ytefhljhpcpajgaa.F
open Go.RowKit Go.Proofs.YtefhljhpcpajgaaX Go.Proofs.YtefhljhpcpajgaaW.PrintWords Go.Proofs.YtefhljhpcpajgaaW.PrintLast Go.Proofs.YtefhljhpcpajgaaW.PrintMore
attribute [local go_sem] max2_int min2_int max_two min_two max_three min_three max_four min_four   -- for this text's walks alone
set_option linter.unusedVariables false
set_option linter.unusedSimpArgs false

/-! ### cents_Floor: function 33 -/
def cents_Floor.f (k : Nat) (a0 : Int) (a1 : Int) (a2 : Int) : Option (Int × Int) := (cents_divided.f k a0 a1 a2).bind fun bt127 => (if bt127.2.2 = 0 then ((cents_told.f bt127.1).bind fun bt130 => (some (bt130.1, bt130.2))) else (some (0, bt127.2.2)))
theorem cents_Floor.mono : ∀ a0 a1 a2 k, LeO (cents_Floor.f k a0 a1 a2) (cents_Floor.f (k + 1) a0 a1 a2) := by
  intro a0 a1 a2 k
  unfold cents_Floor.f
  repeat' first
      | (with_reducible exact cents_divided.mono _ _ _ _)
      | (with_reducible exact LeO.refl _)
      | (with_reducible exact LeO.none _)
      | (with_reducible refine LeO.ite ?_ ?_)
      | (with_reducible refine LeO.bind ?_ (fun _ => ?_))
      | exact cents_divided.mono _ _ _ _
      | exact LeO.none _
      | refine LeO.ite ?_ ?_
      | refine LeO.bind ?_ (fun _ => ?_)
set_option maxHeartbeats 8000000 in
set_option maxRecDepth 100000 in
theorem cents_Floor.calls (k : Nat) (a0 : Int) (a1 : Int) (a2 : Int) (r1 : Int) (r2 : Int) (w : World) (h : cents_Floor.f k a0 a1 a2 = some (r1, r2)) :
    Calls Try.prog 33 #[.int .i64 a0, .int .i64 a1, .int .i64 a2] w fun e w' => e = .returned (.tuple #[.int .i64 r1, .int .i64 r2]) ∧ Below w.heap.size w w' := by
  have HB := Aside0.mk (Below.refl w.heap.size w)
  have H : ((cents_divided.f k a0 a1 a2).bind fun bt127 => (if bt127.2.2 = 0 then ((cents_told.f bt127.1).bind fun bt130 => (some (bt130.1, bt130.2))) else (some (0, bt127.2.2)))) = some (r1, r2) := h
  clear h
  replace H := Option.bind_eq_some_iff.mp H
  obtain ⟨⟨t127, t128, t129⟩, A40, H⟩ := H
  replace H : (if t129 = 0 then ((cents_told.f t127).bind fun bt130 => (some (bt130.1, bt130.2))) else (some (0, t129))) = some (r1, r2) := H
  have A4 := Aside0.mk A40
  clear A40
  by_cases c5 : t129 = 0
  · rw [if_pos c5] at H
    have c5b0 : (t129 == 0) = true := beq_iff_eq.mpr c5
    have c5b1 : (t129 != 0) = false := bne_eq_false_iff_eq.mpr c5
    clear c5
    replace H := Option.bind_eq_some_iff.mp H
    obtain ⟨⟨t130, t131⟩, A60, H⟩ := H
    replace H : (some (t130, t131)) = some (r1, r2) := H
    have A6 := Aside0.mk A60
    clear A60
    simp only [Option.some.injEq, Prod.mk.injEq] at H
    obtain ⟨rfl, rfl⟩ := H
    go_enter Try.func33, Try.ntmps33
    go_wp2_with (first | ((with_reducible refine gate_callee (f := 100) rfl ?_); refine goesL_ (some 15) rfl rfl Try.func100 (by kernel_rfl) rfl #[.int .i64 a0, .int .i64 a1, .int .i64 a2] rfl (by (try simp only [List.map_toArray, List.map_cons, List.map_nil]); first | done | rfl | (simp only [List.length_drop, List.length_take]; rfl)) ?_; (with_reducible refine (cents_divided.calls k a0 a1 a2 t127 t128 t129 _ A4.out).mono ?_); rintro e w7 ⟨rfl, hb⟩; refine ⟨_, rfl, ?_⟩; have n0_ := Aside0.mk (below_step (by repeat (first | (with_reducible first | exact HB.out | apply below_alloc | apply pw_below_drewN | apply below_drew1) | exact HB.out)) hb); clear HB; have HB := n0_; clear n0_; (try clear hb); (try clear hb2); (try clear hk); (try clear hi)) | ((with_reducible refine gate_callee (f := 96) rfl ?_); refine goesL_ (some 23) rfl rfl Try.func96 (by kernel_rfl) rfl #[.int .i64 t127] rfl (by (try simp only [List.map_toArray, List.map_cons, List.map_nil]); first | done | rfl | (simp only [List.length_drop, List.length_take]; rfl)) ?_; (with_reducible refine (cents_told.calls t127 t130 t131 _ A6.out).mono ?_); rintro e w' ⟨rfl, ⟨nd, rfl⟩⟩; refine ⟨_, rfl, ?_⟩))
    go_ret2
    exact ⟨by first | rfl | (simp [errW_none, errW_some] <;> rfl) | (simp [*, errW_none, errW_some] <;> rfl), by repeat (first | (with_reducible first | exact HB.out | apply below_alloc | apply pw_below_drewN | apply below_drew1) | exact HB.out)⟩
  · rw [if_neg c5] at H
    have c5b0 : (t129 == 0) = false := beq_eq_false_iff_ne.mpr c5
    have c5b1 : (t129 != 0) = true := bne_iff_ne.mpr c5
    simp only [Option.some.injEq, Prod.mk.injEq] at H
    obtain ⟨rfl, rfl⟩ := H
    go_enter Try.func33, Try.ntmps33
    go_wp2_with (first | ((with_reducible refine gate_callee (f := 100) rfl ?_); refine goesL_ (some 15) rfl rfl Try.func100 (by kernel_rfl) rfl #[.int .i64 a0, .int .i64 a1, .int .i64 a2] rfl (by (try simp only [List.map_toArray, List.map_cons, List.map_nil]); first | done | rfl | (simp only [List.length_drop, List.length_take]; rfl)) ?_; (with_reducible refine (cents_divided.calls k a0 a1 a2 t127 t128 t129 _ A4.out).mono ?_); rintro e w8 ⟨rfl, hb⟩; refine ⟨_, rfl, ?_⟩; have n0_ := Aside0.mk (below_step (by repeat (first | (with_reducible first | exact HB.out | apply below_alloc | apply pw_below_drewN | apply below_drew1) | exact HB.out)) hb); clear HB; have HB := n0_; clear n0_; (try clear hb); (try clear hb2); (try clear hk); (try clear hi)))
    go_ret2
    exact ⟨by first | rfl | (simp [errW_none, errW_some] <;> rfl) | (simp [*, errW_none, errW_some] <;> rfl), by repeat (first | (with_reducible first | exact HB.out | apply below_alloc | apply pw_below_drewN | apply below_drew1) | exact HB.out)⟩

end Go.Proofs.Ytefhljhpcpajgaa.F

namespace Go.Proofs.Ytefhljhpcpajgaa.F
open Go.RowKit Go.Proofs.YtefhljhpcpajgaaX Go.Proofs.YtefhljhpcpajgaaW.PrintWords Go.Proofs.YtefhljhpcpajgaaW.PrintLast Go.Proofs.YtefhljhpcpajgaaW.PrintMore
attribute [local go_sem] max2_int min2_int max_two min_two max_three min_three max_four min_four   -- for this text's walks alone
set_option linter.unusedVariables false
set_option linter.unusedSimpArgs false

/-! ### cents_Rest: function 37 -/
def cents_Rest.f (k : Nat) (a0 : Int) (a1 : Int) (a2 : Int) : Option (Int × Int) := (cents_divided.f k a0 a1 a2).bind fun bt139 => (if bt139.2.2 = 0 then ((cents_told.f bt139.1).bind fun bt142 => (if bt142.2 = 0 then (some (bt139.2.1, 0)) else (some (0, bt142.2)))) else (some (0, bt139.2.2)))
theorem cents_Rest.mono : ∀ a0 a1 a2 k, LeO (cents_Rest.f k a0 a1 a2) (cents_Rest.f (k + 1) a0 a1 a2) := by
  intro a0 a1 a2 k
  unfold cents_Rest.f
  repeat' first
      | (with_reducible exact cents_divided.mono _ _ _ _)
      | (with_reducible exact LeO.refl _)
      | (with_reducible exact LeO.none _)
      | (with_reducible refine LeO.ite ?_ ?_)
      | (with_reducible refine LeO.bind ?_ (fun _ => ?_))
      | exact cents_divided.mono _ _ _ _
      | exact LeO.none _
      | refine LeO.ite ?_ ?_
      | refine LeO.bind ?_ (fun _ => ?_)
set_option maxHeartbeats 8000000 in
set_option maxRecDepth 100000 in
theorem cents_Rest.calls (k : Nat) (a0 : Int) (a1 : Int) (a2 : Int) (r1 : Int) (r2 : Int) (w : World) (h : cents_Rest.f k a0 a1 a2 = some (r1, r2)) :
    Calls Try.prog 37 #[.int .i64 a0, .int .i64 a1, .int .i64 a2] w fun e w' => e = .returned (.tuple #[.int .i64 r1, .int .i64 r2]) ∧ Below w.heap.size w w' := by
  have HB := Aside0.mk (Below.refl w.heap.size w)
  have H : ((cents_divided.f k a0 a1 a2).bind fun bt139 => (if bt139.2.2 = 0 then ((cents_told.f bt139.1).bind fun bt142 => (if bt142.2 = 0 then (some (bt139.2.1, 0)) else (some (0, bt142.2)))) else (some (0, bt139.2.2)))) = some (r1, r2) := h
  clear h
  replace H := Option.bind_eq_some_iff.mp H
  obtain ⟨⟨t139, t140, t141⟩, A40, H⟩ := H
  replace H : (if t141 = 0 then ((cents_told.f t139).bind fun bt142 => (if bt142.2 = 0 then (some (t140, 0)) else (some (0, bt142.2)))) else (some (0, t141))) = some (r1, r2) := H
  have A4 := Aside0.mk A40
  clear A40
  by_cases c5 : t141 = 0
  · rw [if_pos c5] at H
    have c5b0 : (t141 == 0) = true := beq_iff_eq.mpr c5
    have c5b1 : (t141 != 0) = false := bne_eq_false_iff_eq.mpr c5
    clear c5
    replace H := Option.bind_eq_some_iff.mp H
    obtain ⟨⟨t142, t143⟩, A60, H⟩ := H
    replace H : (if t143 = 0 then (some (t140, 0)) else (some (0, t143))) = some (r1, r2) := H
    have A6 := Aside0.mk A60
    clear A60
    by_cases c7 : t143 = 0
    · rw [if_pos c7] at H
      have c7b0 : (t143 == 0) = true := beq_iff_eq.mpr c7
      have c7b1 : (t143 != 0) = false := bne_eq_false_iff_eq.mpr c7
      clear c7
      simp only [Option.some.injEq, Prod.mk.injEq] at H
      obtain ⟨rfl, rfl⟩ := H
      go_enter Try.func37, Try.ntmps37
      go_wp2_with (first | ((with_reducible refine gate_callee (f := 100) rfl ?_); refine goesL_ (some 17) rfl rfl Try.func100 (by kernel_rfl) rfl #[.int .i64 a0, .int .i64 a1, .int .i64 a2] rfl (by (try simp only [List.map_toArray, List.map_cons, List.map_nil]); first | done | rfl | (simp only [List.length_drop, List.length_take]; rfl)) ?_; (with_reducible refine (cents_divided.calls k a0 a1 a2 t139 t140 t141 _ A4.out).mono ?_); rintro e w8 ⟨rfl, hb⟩; refine ⟨_, rfl, ?_⟩; have n0_ := Aside0.mk (below_step (by repeat (first | (with_reducible first | exact HB.out | apply below_alloc | apply pw_below_drewN | apply below_drew1) | exact HB.out)) hb); clear HB; have HB := n0_; clear n0_; (try clear hb); (try clear hb2); (try clear hk); (try clear hi)) | ((with_reducible refine gate_callee (f := 96) rfl ?_); refine goesL_ (some 26) rfl rfl Try.func96 (by kernel_rfl) rfl #[.int .i64 t139] rfl (by (try simp only [List.map_toArray, List.map_cons, List.map_nil]); first | done | rfl | (simp only [List.length_drop, List.length_take]; rfl)) ?_; (with_reducible refine (cents_told.calls t139 t142 t143 _ A6.out).mono ?_); rintro e w' ⟨rfl, ⟨nd, rfl⟩⟩; refine ⟨_, rfl, ?_⟩))
      go_ret2
      exact ⟨by first | rfl | (simp [errW_none, errW_some] <;> rfl) | (simp [*, errW_none, errW_some] <;> rfl), by repeat (first | (with_reducible first | exact HB.out | apply below_alloc | apply pw_below_drewN | apply below_drew1) | exact HB.out)⟩
    · rw [if_neg c7] at H
      have c7b0 : (t143 == 0) = false := beq_eq_false_iff_ne.mpr c7
      have c7b1 : (t143 != 0) = true := bne_iff_ne.mpr c7
      simp only [Option.some.injEq, Prod.mk.injEq] at H
      obtain ⟨rfl, rfl⟩ := H
      go_enter Try.func37, Try.ntmps37
      go_wp2_with (first | ((with_reducible refine gate_callee (f := 100) rfl ?_); refine goesL_ (some 17) rfl rfl Try.func100 (by kernel_rfl) rfl #[.int .i64 a0, .int .i64 a1, .int .i64 a2] rfl (by (try simp only [List.map_toArray, List.map_cons, List.map_nil]); first | done | rfl | (simp only [List.length_drop, List.length_take]; rfl)) ?_; (with_reducible refine (cents_divided.calls k a0 a1 a2 t139 t140 t141 _ A4.out).mono ?_); rintro e w9 ⟨rfl, hb⟩; refine ⟨_, rfl, ?_⟩; have n0_ := Aside0.mk (below_step (by repeat (first | (with_reducible first | exact HB.out | apply below_alloc | apply pw_below_drewN | apply below_drew1) | exact HB.out)) hb); clear HB; have HB := n0_; clear n0_; (try clear hb); (try clear hb2); (try clear hk); (try clear hi)) | ((with_reducible refine gate_callee (f := 96) rfl ?_); refine goesL_ (some 26) rfl rfl Try.func96 (by kernel_rfl) rfl #[.int .i64 t139] rfl (by (try simp only [List.map_toArray, List.map_cons, List.map_nil]); first | done | rfl | (simp only [List.length_drop, List.length_take]; rfl)) ?_; (with_reducible refine (cents_told.calls t139 t142 t143 _ A6.out).mono ?_); rintro e w' ⟨rfl, ⟨nd, rfl⟩⟩; refine ⟨_, rfl, ?_⟩))
      go_ret2
      exact ⟨by first | rfl | (simp [errW_none, errW_some] <;> rfl) | (simp [*, errW_none, errW_some] <;> rfl), by repeat (first | (with_reducible first | exact HB.out | apply below_alloc | apply pw_below_drewN | apply below_drew1) | exact HB.out)⟩
  · rw [if_neg c5] at H
    have c5b0 : (t141 == 0) = false := beq_eq_false_iff_ne.mpr c5
    have c5b1 : (t141 != 0) = true := bne_iff_ne.mpr c5
    simp only [Option.some.injEq, Prod.mk.injEq] at H
    obtain ⟨rfl, rfl⟩ := H
    go_enter Try.func37, Try.ntmps37
    go_wp2_with (first | ((with_reducible refine gate_callee (f := 100) rfl ?_); refine goesL_ (some 17) rfl rfl Try.func100 (by kernel_rfl) rfl #[.int .i64 a0, .int .i64 a1, .int .i64 a2] rfl (by (try simp only [List.map_toArray, List.map_cons, List.map_nil]); first | done | rfl | (simp only [List.length_drop, List.length_take]; rfl)) ?_; (with_reducible refine (cents_divided.calls k a0 a1 a2 t139 t140 t141 _ A4.out).mono ?_); rintro e w10 ⟨rfl, hb⟩; refine ⟨_, rfl, ?_⟩; have n0_ := Aside0.mk (below_step (by repeat (first | (with_reducible first | exact HB.out | apply below_alloc | apply pw_below_drewN | apply below_drew1) | exact HB.out)) hb); clear HB; have HB := n0_; clear n0_; (try clear hb); (try clear hb2); (try clear hk); (try clear hi)))
    go_ret2
    exact ⟨by first | rfl | (simp [errW_none, errW_some] <;> rfl) | (simp [*, errW_none, errW_some] <;> rfl), by repeat (first | (with_reducible first | exact HB.out | apply below_alloc | apply pw_below_drewN | apply below_drew1) | exact HB.out)⟩

end Go.Proofs.Ytefhljhpcpajgaa.F

namespace Go.Proofs.Ytefhljhpcpajgaa.F
open Go.RowKit Go.Proofs.YtefhljhpcpajgaaX Go.Proofs.YtefhljhpcpajgaaW.PrintWords Go.Proofs.YtefhljhpcpajgaaW.PrintLast Go.Proofs.YtefhljhpcpajgaaW.PrintMore
attribute [local go_sem] max2_int min2_int max_two min_two max_three min_three max_four min_four   -- for this text's walks alone
set_option linter.unusedVariables false
set_option linter.unusedSimpArgs false

/-! ### backhaulref02_may: function 101 -/
def backhaulref02_may.f (a0 : Int) (a1 : Int) (a2 : Int) : Option (Int) := if a2 < 1 then (some 2) else (if a0 < 0 then (some 8) else (if a1 < 0 then (some 8) else (if a0 > 1000000000000 then (some 8) else (if a1 > 1000000000000 then (some 8) else (if a2 > 1000000000000 then (some 8) else (some 0))))))
set_option maxHeartbeats 8000000 in
set_option maxRecDepth 100000 in
theorem backhaulref02_may.calls (a0 : Int) (a1 : Int) (a2 : Int) (r : Int) (w : World) (h : backhaulref02_may.f a0 a1 a2 = some r) :
    Calls Try.prog 101 #[.int .i64 a0, .int .i64 a1, .int .i64 a2] w fun e w' => e = .returned (.int .i64 r) ∧ Drawn0 w w' := by
  have H : (if a2 < 1 then (some 2) else (if a0 < 0 then (some 8) else (if a1 < 0 then (some 8) else (if a0 > 1000000000000 then (some 8) else (if a1 > 1000000000000 then (some 8) else (if a2 > 1000000000000 then (some 8) else (some 0))))))) = some r := h
  clear h
  by_cases c4 : a2 < 1
  · rw [if_pos c4] at H
    have c4b0 : decide (a2 < 1) = true := decide_eq_true c4
    clear c4
    obtain rfl := Option.some.inj H
    go_enter Try.func101, Try.ntmps101
    go_wp2
    go_ret
    exact ⟨by first | rfl | (simp; done) | (simp [*]; done), by repeat (first | exact Drawn0.refl _ | apply Drawn0.step)⟩
  · rw [if_neg c4] at H
    have c4b0 : decide (a2 < 1) = false := decide_eq_false c4
    clear c4
    by_cases c5 : a0 < 0
    · rw [if_pos c5] at H
      have c5b0 : decide (a0 < 0) = true := decide_eq_true c5
      clear c5
      obtain rfl := Option.some.inj H
      go_enter Try.func101, Try.ntmps101
      go_wp2
      go_ret
      exact ⟨by first | rfl | (simp; done) | (simp [*]; done), by repeat (first | exact Drawn0.refl _ | apply Drawn0.step)⟩
    · rw [if_neg c5] at H
      have c5b0 : decide (a0 < 0) = false := decide_eq_false c5
      clear c5
      by_cases c6 : a1 < 0
      · rw [if_pos c6] at H
        have c6b0 : decide (a1 < 0) = true := decide_eq_true c6
        clear c6
        obtain rfl := Option.some.inj H
        go_enter Try.func101, Try.ntmps101
        go_wp2
        go_ret
        exact ⟨by first | rfl | (simp; done) | (simp [*]; done), by repeat (first | exact Drawn0.refl _ | apply Drawn0.step)⟩
      · rw [if_neg c6] at H
        have c6b0 : decide (a1 < 0) = false := decide_eq_false c6
        clear c6
        by_cases c7 : a0 > 1000000000000
        · rw [if_pos c7] at H
          have c7b0 : decide (1000000000000 < a0) = true := decide_eq_true c7
          clear c7
          obtain rfl := Option.some.inj H
          go_enter Try.func101, Try.ntmps101
          go_wp2
          go_ret
          exact ⟨by first | rfl | (simp; done) | (simp [*]; done), by repeat (first | exact Drawn0.refl _ | apply Drawn0.step)⟩
        · rw [if_neg c7] at H
          have c7b0 : decide (1000000000000 < a0) = false := decide_eq_false c7
          clear c7
          by_cases c8 : a1 > 1000000000000
          · rw [if_pos c8] at H
            have c8b0 : decide (1000000000000 < a1) = true := decide_eq_true c8
            clear c8
            obtain rfl := Option.some.inj H
            go_enter Try.func101, Try.ntmps101
            go_wp2
            go_ret
            exact ⟨by first | rfl | (simp; done) | (simp [*]; done), by repeat (first | exact Drawn0.refl _ | apply Drawn0.step)⟩
          · rw [if_neg c8] at H
            have c8b0 : decide (1000000000000 < a1) = false := decide_eq_false c8
            clear c8
            by_cases c9 : a2 > 1000000000000
            · rw [if_pos c9] at H
              have c9b0 : decide (1000000000000 < a2) = true := decide_eq_true c9
              clear c9
              obtain rfl := Option.some.inj H
              go_enter Try.func101, Try.ntmps101
              go_wp2
              go_ret
              exact ⟨by first | rfl | (simp; done) | (simp [*]; done), by repeat (first | exact Drawn0.refl _ | apply Drawn0.step)⟩
            · rw [if_neg c9] at H
              have c9b0 : decide (1000000000000 < a2) = false := decide_eq_false c9
              clear c9
              obtain rfl := Option.some.inj H
              go_enter Try.func101, Try.ntmps101
              go_wp2
              go_ret
              exact ⟨by first | rfl | (simp; done) | (simp [*]; done), by repeat (first | exact Drawn0.refl _ | apply Drawn0.step)⟩

end Go.Proofs.Ytefhljhpcpajgaa.F

