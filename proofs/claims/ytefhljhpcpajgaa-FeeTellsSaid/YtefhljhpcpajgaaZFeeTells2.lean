-- merged by merge.py (the session's own program)
import Derived.Deep.Slices
import Derived.ChangeArms
import Derived.WideShapes
import Derived.OpenShut
import Derived.Test.YtefhljhpcpajgaaRows
import Derived.WalkKit
import Derived.ProofKit
import Derived.WideLaws
import Derived.ShutString
import Derived.ChangeOld
import Derived.Below
import Derived.SizedLaws
import Derived.Carry
import Derived.Test.YtefhljhpcpajgaaZFeeTells1
namespace Go.Proofs.Ytefhljhpcpajgaa.F
open Go.RowKit Go.Proofs.YtefhljhpcpajgaaX Go.Proofs.YtefhljhpcpajgaaW.PrintWords Go.Proofs.YtefhljhpcpajgaaW.PrintLast Go.Proofs.YtefhljhpcpajgaaW.PrintMore
attribute [local go_sem] max2_int min2_int max_two min_two max_three min_three max_four min_four   -- for this text's walks alone
set_option linter.unusedVariables false
set_option linter.unusedSimpArgs false

/-! ### backhaulref02_Times: function 30 -/
mutual
def backhaulref02_Times.j0 : Nat → Int → Int → Bool → Option (Int × Int)
  | 0, _, _, _ => none
  | k + 1, x0, x1, x15 => if x15 = true then (some (0, 8)) else (if x0 < 0 then (backhaulref02_Times.j1 k x0 x1 (wrap64 (-x0)) x1) else (backhaulref02_Times.j1 k x0 x1 x0 x1))
def backhaulref02_Times.j1 : Nat → Int → Int → Int → Int → Option (Int × Int)
  | 0, _, _, _, _ => none
  | k + 1, x0, x1, x6, x7 => if x7 < 0 then (if (wrap64 (-x7)) > 0 then (if (wrap64 (-x7)) = 0 then (none) else (if x6 > (wrap64 (Int.tdiv (1000000000000 : Int) (wrap64 (-x7)))) then (some (0, 8)) else (some (wrap64 (x0 * x1), 0)))) else (some (wrap64 (x0 * x1), 0))) else (if x7 > 0 then (if x7 = 0 then (none) else (if x6 > (wrap64 (Int.tdiv (1000000000000 : Int) x7)) then (some (0, 8)) else (some (wrap64 (x0 * x1), 0)))) else (some (wrap64 (x0 * x1), 0)))
end
def backhaulref02_Times.f (k : Nat) (a0 : Int) (a1 : Int) : Option (Int × Int) := (backhaulref02_In.f a0).bind fun t174 => (if t174 = true then ((backhaulref02_In.f a1).bind fun t175 => (backhaulref02_Times.j0 k a0 a1 (!t175))) else (backhaulref02_Times.j0 k a0 a1 true))
theorem backhaulref02_Times.mono_l : ∀ k, (∀ y0 y1 y2, LeO (backhaulref02_Times.j0 k y0 y1 y2) (backhaulref02_Times.j0 (k + 1) y0 y1 y2)) ∧ (∀ y0 y1 y2 y3, LeO (backhaulref02_Times.j1 k y0 y1 y2 y3) (backhaulref02_Times.j1 (k + 1) y0 y1 y2 y3))
  | 0 => ⟨fun _ _ _ r h => by simp [backhaulref02_Times.j0] at h, fun _ _ _ _ r h => by simp [backhaulref02_Times.j1] at h⟩
  | k + 1 => by
    obtain ⟨ih0, ih1⟩ := backhaulref02_Times.mono_l k
    refine ⟨?_, ?_⟩
    · intro y0 y1 y2
      unfold backhaulref02_Times.j0
      repeat' first
      | (with_reducible exact ih0 _ _ _)
      | (with_reducible exact ih1 _ _ _ _)
      | (with_reducible exact LeO.refl _)
      | (with_reducible exact LeO.none _)
      | (with_reducible refine LeO.ite ?_ ?_)
      | (with_reducible refine LeO.bind ?_ (fun _ => ?_))
      | exact ih0 _ _ _
      | exact ih1 _ _ _ _
      | exact LeO.none _
      | refine LeO.ite ?_ ?_
      | refine LeO.bind ?_ (fun _ => ?_)
    · intro y0 y1 y2 y3
      unfold backhaulref02_Times.j1
      repeat' first
      | (with_reducible exact ih0 _ _ _)
      | (with_reducible exact ih1 _ _ _ _)
      | (with_reducible exact LeO.refl _)
      | (with_reducible exact LeO.none _)
      | (with_reducible refine LeO.ite ?_ ?_)
      | (with_reducible refine LeO.bind ?_ (fun _ => ?_))
      | exact ih0 _ _ _
      | exact ih1 _ _ _ _
      | exact LeO.none _
      | refine LeO.ite ?_ ?_
      | refine LeO.bind ?_ (fun _ => ?_)
theorem backhaulref02_Times.mono : ∀ a0 a1 k, LeO (backhaulref02_Times.f k a0 a1) (backhaulref02_Times.f (k + 1) a0 a1) := by
  intro a0 a1 k
  obtain ⟨ih0, ih1⟩ := backhaulref02_Times.mono_l k
  unfold backhaulref02_Times.f
  repeat' first
      | (with_reducible exact ih0 _ _ _)
      | (with_reducible exact ih1 _ _ _ _)
      | (with_reducible exact LeO.refl _)
      | (with_reducible exact LeO.none _)
      | (with_reducible refine LeO.ite ?_ ?_)
      | (with_reducible refine LeO.bind ?_ (fun _ => ?_))
      | exact ih0 _ _ _
      | exact ih1 _ _ _ _
      | exact LeO.none _
      | refine LeO.ite ?_ ?_
      | refine LeO.bind ?_ (fun _ => ?_)
set_option maxHeartbeats 8000000 in
set_option maxRecDepth 100000 in
theorem backhaulref02_Times.calls (k : Nat) (a0 : Int) (a1 : Int) (r1 : Int) (r2 : Int) (w : World) (h : backhaulref02_Times.f k a0 a1 = some (r1, r2)) :
    Calls Try.prog 30 #[.int .i64 a0, .int .i64 a1] w fun e w' => e = .returned (.tuple #[.int .i64 r1, .int .i64 r2]) ∧ Drawn0 w w' := by
  have H : ((backhaulref02_In.f a0).bind fun t174 => (if t174 = true then ((backhaulref02_In.f a1).bind fun t175 => (backhaulref02_Times.j0 k a0 a1 (!t175))) else (backhaulref02_Times.j0 k a0 a1 true))) = some (r1, r2) := h
  clear h
  have HC3 := Aside0.mk H
  clear H
  go_enter Try.func30, Try.ntmps30
  go_upto_region 1 with (fail)
  go_cut [15] (fun v15 wc => ∃ (kq : Nat) (x15_2 : Bool), v15 = .bool x15_2 ∧ Aside0 (backhaulref02_Times.j0 kq a0 a1 x15_2 = some (r1, r2)) ∧ Aside0 (kq ≤ k) ∧ Drawn0 w wc)
  case first =>
    have H := HC3.out
    clear HC3
    replace H := Option.bind_eq_some_iff.mp H
    obtain ⟨t174, A40, H⟩ := H
    replace H : (if t174 = true then ((backhaulref02_In.f a1).bind fun t175 => (backhaulref02_Times.j0 k a0 a1 (!t175))) else (backhaulref02_Times.j0 k a0 a1 true)) = some (r1, r2) := H
    have A4 := Aside0.mk A40
    clear A40
    by_cases c5 : t174 = true
    · subst c5
      have H1 : ((backhaulref02_In.f a1).bind fun t175 => (backhaulref02_Times.j0 k a0 a1 (!t175))) = some (r1, r2) := by first | (rw [if_pos rfl] at H; exact H) | rfl
      clear H
      have H := H1
      clear H1
      replace H := Option.bind_eq_some_iff.mp H
      obtain ⟨t175, A60, H⟩ := H
      replace H : (backhaulref02_Times.j0 k a0 a1 (!t175)) = some (r1, r2) := H
      have A6 := Aside0.mk A60
      clear A60
      have H' := Aside0.mk H
      clear H
      go_wp2_with (first | ((with_reducible refine gate_callee (f := 32) rfl ?_); refine goesL_ (some 9) rfl rfl Try.func32 (by kernel_rfl) rfl #[.int .i64 a0] rfl (by (try simp only [List.map_toArray, List.map_cons, List.map_nil]); first | done | rfl | (simp only [List.length_drop, List.length_take]; rfl)) ?_; (with_reducible refine (backhaulref02_In.calls a0 true _ A4.out).mono ?_); rintro e w' ⟨rfl, ⟨nd, rfl⟩⟩; refine ⟨_, rfl, ?_⟩) | (go_at_call 32; (with_reducible refine (backhaulref02_In.calls a1 t175 _ A6.out).mono ?_); rintro e w' ⟨rfl, ⟨nd, rfl⟩⟩))
      go_meet
      case rel => exact ⟨_, (!t175), (by first | rfl | (simp; done) | (simp [*]; done)), H', ⟨by first | omega | exact Nat.le_refl _⟩, by repeat (first | exact Drawn0.refl _ | apply Drawn0.step)⟩
    · replace c5 := Bool.eq_false_iff.mpr c5
      subst c5
      have H1 : (backhaulref02_Times.j0 k a0 a1 true) = some (r1, r2) := by first | (rw [if_neg (show ¬ (false = true) by decide)] at H; exact H) | rfl
      clear H
      have H := H1
      clear H1
      have H' := Aside0.mk H
      clear H
      go_wp2_with (first | ((with_reducible refine gate_callee (f := 32) rfl ?_); refine goesL_ (some 9) rfl rfl Try.func32 (by kernel_rfl) rfl #[.int .i64 a0] rfl (by (try simp only [List.map_toArray, List.map_cons, List.map_nil]); first | done | rfl | (simp only [List.length_drop, List.length_take]; rfl)) ?_; (with_reducible refine (backhaulref02_In.calls a0 false _ A4.out).mono ?_); rintro e w' ⟨rfl, ⟨nd, rfl⟩⟩; refine ⟨_, rfl, ?_⟩))
      go_meet
      case rel => exact ⟨_, (true), (by first | rfl | (simp; done) | (simp [*]; done)), H', ⟨by first | omega | exact Nat.le_refl _⟩, by repeat (first | exact Drawn0.refl _ | apply Drawn0.step)⟩
  case rest =>
    clear HC3
    try clear p2
    try clear c3
    try clear c5
    obtain ⟨kq, x15_2, rfl, HA, HJ2, ⟨mc2, rfl⟩⟩ := hcut
    cases kq with
    | zero => exact absurd HA.out (by simp [backhaulref02_Times.j0])
    | succ kj2 =>
      have H := HA.out
      clear HA
      simp only [backhaulref02_Times.j0] at H
      by_cases c7 : x15_2 = true
      · subst c7
        have H1 : (some (0, 8)) = some (r1, r2) := by first | (rw [if_pos rfl] at H; exact H) | rfl
        clear H
        have H := H1
        clear H1
        simp only [Option.some.injEq, Prod.mk.injEq] at H
        obtain ⟨rfl, rfl⟩ := H
        go_wp2
        go_ret2
        exact ⟨by first | rfl | (simp; done) | (simp [*]; done), by repeat (first | exact Drawn0.refl _ | apply Drawn0.step)⟩
      · replace c7 := Bool.eq_false_iff.mpr c7
        subst c7
        have H1 : (if a0 < 0 then (backhaulref02_Times.j1 kj2 a0 a1 (wrap64 (-a0)) a1) else (backhaulref02_Times.j1 kj2 a0 a1 a0 a1)) = some (r1, r2) := by first | (rw [if_neg (show ¬ (false = true) by decide)] at H; exact H) | rfl
        clear H
        have H := H1
        clear H1
        have HC8 := Aside0.mk H
        clear H
        go_upto_if 19 with (fail)
        go_cut [6] (fun v6 wc => ∃ (kq : Nat) (x6_7 : Int), v6 = .int .i64 x6_7 ∧ Aside0 (backhaulref02_Times.j1 kq a0 a1 x6_7 a1 = some (r1, r2)) ∧ Aside0 (kq ≤ kj2) ∧ Drawn0 w wc)
        case first =>
          have H := HC8.out
          clear HC8
          by_cases c9 : a0 < 0
          · rw [if_pos c9] at H
            have c9b0 : decide (a0 < 0) = true := decide_eq_true c9
            clear c9
            (first | rw [c9b0] | (simp only [i64_w, i32_w]; rw [c9b0]) | skip)
            have H' := Aside0.mk H
            clear H
            go_wp2
            go_meet
            case rel => exact ⟨_, (wrap64 (-a0)), (by first | rfl | (simp; done) | (simp [*]; done)), H', ⟨by have := HJ2.out; first | omega | exact Nat.le_refl _⟩, by repeat (first | exact Drawn0.refl _ | apply Drawn0.step)⟩
          · rw [if_neg c9] at H
            have c9b0 : decide (a0 < 0) = false := decide_eq_false c9
            clear c9
            (first | rw [c9b0] | (simp only [i64_w, i32_w]; rw [c9b0]) | skip)
            have H' := Aside0.mk H
            clear H
            go_wp2
            go_meet
            case rel => exact ⟨_, (a0), (by first | rfl | (simp; done) | (simp [*]; done)), H', ⟨by have := HJ2.out; first | omega | exact Nat.le_refl _⟩, by repeat (first | exact Drawn0.refl _ | apply Drawn0.step)⟩
        case rest =>
          clear HC8
          try clear c2
          try clear p2
          try clear c3
          try clear c5
          try clear p6
          try clear c7
          try clear c9
          try clear c9b0
          try clear p2
          obtain ⟨kq, x6_7, rfl, HA, HJ7, ⟨mc7, rfl⟩⟩ := hcut
          cases kq with
          | zero => exact absurd HA.out (by simp [backhaulref02_Times.j1])
          | succ kj7 =>
            have H := HA.out
            clear HA
            simp only [backhaulref02_Times.j1] at H
            by_cases c10 : a1 < 0
            · rw [if_pos c10] at H
              have c10b0 : decide (a1 < 0) = true := decide_eq_true c10
              clear c10
              by_cases c11 : (wrap64 (-a1)) > 0
              · rw [if_pos c11] at H
                have c11b0 : decide (0 < (wrap64 (-a1))) = true := decide_eq_true c11
                clear c11
                by_cases c12 : (wrap64 (-a1)) = 0
                · rw [if_pos c12] at H
                  exact absurd H (by simp)
                · rw [if_neg c12] at H
                  have c12b0 : ((wrap64 (-a1)) == 0) = false := beq_eq_false_iff_ne.mpr c12
                  have c12b1 : ((wrap64 (-a1)) != 0) = true := bne_iff_ne.mpr c12
                  by_cases c13 : x6_7 > (wrap64 (Int.tdiv (1000000000000 : Int) (wrap64 (-a1))))
                  · rw [if_pos c13] at H
                    have c13b0 : decide ((wrap64 (Int.tdiv (1000000000000 : Int) (wrap64 (-a1)))) < x6_7) = true := decide_eq_true c13
                    clear c13
                    simp only [Option.some.injEq, Prod.mk.injEq] at H
                    obtain ⟨rfl, rfl⟩ := H
                    go_wp2
                    go_ret2
                    exact ⟨by first | rfl | (simp; done) | (simp [*]; done), by repeat (first | exact Drawn0.refl _ | apply Drawn0.step)⟩
                  · rw [if_neg c13] at H
                    have c13b0 : decide ((wrap64 (Int.tdiv (1000000000000 : Int) (wrap64 (-a1)))) < x6_7) = false := decide_eq_false c13
                    clear c13
                    simp only [Option.some.injEq, Prod.mk.injEq] at H
                    obtain ⟨rfl, rfl⟩ := H
                    go_wp2
                    go_ret2
                    exact ⟨by first | rfl | (simp; done) | (simp [*]; done), by repeat (first | exact Drawn0.refl _ | apply Drawn0.step)⟩
              · rw [if_neg c11] at H
                have c11b0 : decide (0 < (wrap64 (-a1))) = false := decide_eq_false c11
                clear c11
                simp only [Option.some.injEq, Prod.mk.injEq] at H
                obtain ⟨rfl, rfl⟩ := H
                go_wp2
                go_ret2
                exact ⟨by first | rfl | (simp; done) | (simp [*]; done), by repeat (first | exact Drawn0.refl _ | apply Drawn0.step)⟩
            · rw [if_neg c10] at H
              have c10b0 : decide (a1 < 0) = false := decide_eq_false c10
              clear c10
              by_cases c14 : a1 > 0
              · rw [if_pos c14] at H
                have c14b0 : decide (0 < a1) = true := decide_eq_true c14
                clear c14
                by_cases c15 : a1 = 0
                · rw [if_pos c15] at H
                  exact absurd H (by simp)
                · rw [if_neg c15] at H
                  have c15b0 : (a1 == 0) = false := beq_eq_false_iff_ne.mpr c15
                  have c15b1 : (a1 != 0) = true := bne_iff_ne.mpr c15
                  by_cases c16 : x6_7 > (wrap64 (Int.tdiv (1000000000000 : Int) a1))
                  · rw [if_pos c16] at H
                    have c16b0 : decide ((wrap64 (Int.tdiv (1000000000000 : Int) a1)) < x6_7) = true := decide_eq_true c16
                    clear c16
                    simp only [Option.some.injEq, Prod.mk.injEq] at H
                    obtain ⟨rfl, rfl⟩ := H
                    go_wp2
                    go_ret2
                    exact ⟨by first | rfl | (simp; done) | (simp [*]; done), by repeat (first | exact Drawn0.refl _ | apply Drawn0.step)⟩
                  · rw [if_neg c16] at H
                    have c16b0 : decide ((wrap64 (Int.tdiv (1000000000000 : Int) a1)) < x6_7) = false := decide_eq_false c16
                    clear c16
                    simp only [Option.some.injEq, Prod.mk.injEq] at H
                    obtain ⟨rfl, rfl⟩ := H
                    go_wp2
                    go_ret2
                    exact ⟨by first | rfl | (simp; done) | (simp [*]; done), by repeat (first | exact Drawn0.refl _ | apply Drawn0.step)⟩
              · rw [if_neg c14] at H
                have c14b0 : decide (0 < a1) = false := decide_eq_false c14
                clear c14
                simp only [Option.some.injEq, Prod.mk.injEq] at H
                obtain ⟨rfl, rfl⟩ := H
                go_wp2
                go_ret2
                exact ⟨by first | rfl | (simp; done) | (simp [*]; done), by repeat (first | exact Drawn0.refl _ | apply Drawn0.step)⟩

end Go.Proofs.Ytefhljhpcpajgaa.F

/- What the functions of cents (and the document's) come to: sums, differences, products; no condition but the bounds of an int. -/
set_option linter.unusedVariables false
namespace Go.Proofs.Ytefhljhpcpajgaa.Q
open Go.RowKit Go.Proofs.Ytefhljhpcpajgaa.F Go.Proofs.YtefhljhpcpajgaaW.PrintWords Go.Proofs.YtefhljhpcpajgaaW.PrintLast Go.Proofs.YtefhljhpcpajgaaW.PrintMore

/-- An amount. -/
def amt (n : Int) : Prop := -1000000000000 ≤ n ∧ n ≤ 1000000000000
instance (n : Int) : Decidable (amt n) := by unfold amt; infer_instance
def toldS (n : Int) : Int × Int := if amt n then (n, 0) else (0, 8)
def sumS : Int → List Int → Int × Int
  | n, [] => (n, 0)
  | n, x :: xs => if amt x ∧ amt (n + x) then sumS (n + x) xs else (0, 8)
def subS (a b : Int) : Int × Int := if amt a ∧ amt b ∧ amt (a - b) then (a - b, 0) else (0, 8)
def timesS (a b : Int) : Int × Int := if amt a ∧ amt b ∧ amt (a * b) then (a * b, 0) else (0, 8)

theorem in_f (n : Int) : cents_In.f n = some (decide (amt n)) := by
  unfold cents_In.f amt
  by_cases h : n ≥ -1000000000000
  · rw [if_pos h]; congr 1; exact decide_eq_decide.2 ⟨fun a => ⟨h, a⟩, fun a => a.2⟩
  · rw [if_neg h]; congr 1; exact (decide_eq_false (fun a => h a.1)).symm
theorem ref_in_f (n : Int) : backhaulref02_In.f n = some (decide (amt n)) := by
  unfold backhaulref02_In.f amt
  by_cases h : n ≥ -1000000000000
  · rw [if_pos h]; congr 1; exact decide_eq_decide.2 ⟨fun a => ⟨h, a⟩, fun a => a.2⟩
  · rw [if_neg h]; congr 1; exact (decide_eq_false (fun a => h a.1)).symm
theorem told_f (n : Int) : cents_told.f n = some (toldS n) := by
  unfold cents_told.f toldS
  rw [in_f]
  by_cases h : amt n
  · simp [h]
  · simp [h]
theorem cents_Add_l0 {l : List Int} (hl : l.length < 9223372036854775807) (d : Nat) : ∀ (i : Nat) (n : Int), l.length - i = d → i ≤ l.length → amt n →
    Ev (fun k => cents_Add.l0 k n l (l.length : Int) (i : Int)) (sumS n (l.drop i)) := by
  induction d with
  | zero =>
    intro i n hd hi hn
    refine Ev.step (fun k => by simp only [cents_Add.l0]; rfl) ?_
    refine Ev.neg (by omega) (Ev.ok ?_)
    rw [List.drop_eq_nil_of_le (by omega)]; rfl
  | succ d ih =>
    intro i n hd hi hn
    have h : i < l.length := by omega
    refine Ev.step (fun k => by simp only [cents_Add.l0]; rfl) ?_
    refine Ev.pos (by omega) (Ev.pos (by omega) (Ev.pos (by omega) ?_))
    rw [drop_cons h, rd_nat h]
    refine Q.Ev.bindc (in_f _) ?_
    by_cases h1 : amt l[i]
    · refine Ev.pos (decide_eq_true h1) ?_
      have hw : wrap64 (n + l[i]) = n + l[i] := by unfold amt at hn h1; exact wrap_eq (by omega) (by omega)
      rw [hw]
      refine Q.Ev.bindc (in_f _) ?_
      by_cases h2 : amt (n + l[i])
      · refine Ev.pos (decide_eq_true h2) ?_
        simp only [sumS]
        rw [if_pos ⟨h1, h2⟩, wrap_eq (by omega) (by omega)]
        exact ih (i + 1) _ (by omega) (by omega) h2
      · refine Ev.neg (by simp [h2]) (Ev.ok ?_)
        simp only [sumS]; rw [if_neg (fun a => h2 a.2)]
    · refine Ev.neg (by simp [h1]) (Ev.ok ?_)
      simp only [sumS]; rw [if_neg (fun a => h1 a.1)]
theorem amt0 : amt 0 := by unfold amt; omega
theorem cents_Add_f {l : List Int} (hl : l.length < 9223372036854775807) : Ev (fun k => cents_Add.f k l) (sumS 0 l) := by
  unfold cents_Add.f
  exact cents_Add_l0 hl l.length 0 0 (by omega) (by omega) amt0
theorem ref_Add_l0 {l : List Int} (hl : l.length < 9223372036854775807) (d : Nat) : ∀ (i : Nat) (n : Int), l.length - i = d → i ≤ l.length → amt n →
    Ev (fun k => backhaulref02_Add.l0 k l n (i : Int)) (sumS n (l.drop i)) := by
  induction d with
  | zero =>
    intro i n hd hi hn
    refine Ev.step (fun k => by simp only [backhaulref02_Add.l0]; rfl) ?_
    refine Ev.neg (by omega) (Ev.ok ?_)
    rw [List.drop_eq_nil_of_le (by omega)]; rfl
  | succ d ih =>
    intro i n hd hi hn
    have h : i < l.length := by omega
    refine Ev.step (fun k => by simp only [backhaulref02_Add.l0]; rfl) ?_
    refine Ev.pos (by omega) (Ev.pos (by omega) ?_)
    rw [drop_cons h, rd_nat h]
    refine Q.Ev.bindc (ref_in_f _) ?_
    by_cases h1 : amt l[i]
    · refine Ev.pos (decide_eq_true h1) ?_
      have hw : wrap64 (n + l[i]) = n + l[i] := by unfold amt at hn h1; exact wrap_eq (by omega) (by omega)
      rw [hw]
      refine Q.Ev.bindc (ref_in_f _) ?_
      by_cases h2 : amt (n + l[i])
      · refine Ev.pos (decide_eq_true h2) ?_
        simp only [sumS]
        rw [if_pos ⟨h1, h2⟩, wrap_eq (by omega) (by omega)]
        exact ih (i + 1) _ (by omega) (by omega) h2
      · refine Ev.neg (by simp [h2]) (Ev.ok ?_)
        simp only [sumS]; rw [if_neg (fun a => h2 a.2)]
    · refine Ev.neg (by simp [h1]) (Ev.ok ?_)
      simp only [sumS]; rw [if_neg (fun a => h1 a.1)]
theorem ref_Add_f {l : List Int} (hl : l.length < 9223372036854775807) : Ev (fun k => backhaulref02_Add.f k l) (sumS 0 l) := by
  unfold backhaulref02_Add.f
  exact ref_Add_l0 hl l.length 0 0 (by omega) (by omega) amt0
theorem sub_f (a b : Int) : cents_Sub.f a b = some (subS a b) := by
  unfold cents_Sub.f subS
  simp only [in_f, Option.bind_some, told_f]
  by_cases h1 : amt a
  · by_cases h2 : amt b
    · rw [wrap_eq (by unfold amt at h1 h2; omega) (by unfold amt at h1 h2; omega)]
      simp [h1, h2, toldS]
      try (split <;> rfl)
    · simp [h1, h2]
  · simp [h1]
theorem ref_sub_f (a b : Int) : backhaulref02_Sub.f a b = some (subS a b) := by
  unfold backhaulref02_Sub.f subS
  simp only [ref_in_f, Option.bind_some]
  by_cases h1 : amt a
  · by_cases h2 : amt b
    · rw [wrap_eq (by unfold amt at h1 h2; omega) (by unfold amt at h1 h2; omega)]
      simp [h1, h2]
      try (split <;> rfl)
    · simp [h1, h2]
  · simp [h1]

theorem and32 {x : Int} (h0 : 0 ≤ x) (h1 : x < 18446744073709551616) : Go.bits .and .u64 x 4294967295 = x % 4294967296 :=
  Go.bits_mask .u64 64 (by decide) (fun n h0 h1 => u64_eq h0 h1) 32 (by decide) x h0 h1
theorem mul64_f {a b : Int} (ha0 : 0 ≤ a) (ha : a < 18446744073709551616) (hb0 : 0 ≤ b) (hb : b < 18446744073709551616) :
    bits_Mul64.f a b = some (a * b / 18446744073709551616, a * b % 18446744073709551616) := by
  unfold bits_Mul64.f
  rw [and32 ha0 ha, and32 hb0 hb]
  obtain ⟨ah, hah⟩ : ∃ x, x = a / 4294967296 := ⟨_, rfl⟩
  obtain ⟨al, hal⟩ : ∃ x, x = a % 4294967296 := ⟨_, rfl⟩
  obtain ⟨bh, hbh⟩ : ∃ x, x = b / 4294967296 := ⟨_, rfl⟩
  obtain ⟨bl, hbl⟩ : ∃ x, x = b % 4294967296 := ⟨_, rfl⟩
  rw [← hah, ← hal, ← hbh, ← hbl]
  have ea : a = ah * 4294967296 + al := by omega
  have eb : b = bh * 4294967296 + bl := by omega
  have bnd : ∀ x y : Int, 0 ≤ x → x ≤ 4294967295 → 0 ≤ y → y ≤ 4294967295 → 0 ≤ x * y ∧ x * y ≤ 18446744065119617025 := by
    intro x y hx0 hx hy0 hy
    refine ⟨Int.mul_nonneg hx0 hy0, ?_⟩
    have := Int.mul_le_mul hx hy hy0 (by omega)
    omega
  obtain ⟨p, hp⟩ : ∃ x, x = ah * bh := ⟨_, rfl⟩
  obtain ⟨q, hq⟩ : ∃ x, x = ah * bl := ⟨_, rfl⟩
  obtain ⟨r, hr⟩ : ∃ x, x = al * bh := ⟨_, rfl⟩
  obtain ⟨s, hs⟩ : ∃ x, x = al * bl := ⟨_, rfl⟩
  have bp := bnd ah bh (by omega) (by omega) (by omega) (by omega)
  have bq := bnd ah bl (by omega) (by omega) (by omega) (by omega)
  have br := bnd al bh (by omega) (by omega) (by omega) (by omega)
  have bs := bnd al bl (by omega) (by omega) (by omega) (by omega)
  have e : a * b = p * 18446744073709551616 + (q + r) * 4294967296 + s := by
    rw [ea, eb, hp, hq, hr, hs]
    simp only [Int.add_mul, Int.mul_add]
    rw [show ah * 4294967296 * (bh * 4294967296) = ah * bh * 18446744073709551616 by rw [Int.mul_assoc, Int.mul_left_comm 4294967296 bh, Int.mul_assoc ah bh]; rfl, show ah * 4294967296 * bl = ah * bl * 4294967296 by rw [Int.mul_right_comm], show al * (bh * 4294967296) = al * bh * 4294967296 by rw [Int.mul_assoc]]
    omega
  rw [← hp] at bp
  rw [← hq] at bq
  rw [← hr] at br
  rw [← hs] at bs
  rw [← hp, ← hq, ← hr, ← hs, e]
  clear e hp hq hr hs ea eb hah hal hbh hbl
  rw [u64_eq (x := p) (by omega) (by omega), u64_eq (x := q) (by omega) (by omega), u64_eq (x := r) (by omega) (by omega), u64_eq (x := s) (by omega) (by omega)]
  rw [u64_eq (x := q + s / 4294967296) (by omega) (by omega)]
  rw [u64_eq (x := p + (q + s / 4294967296) / 4294967296) (by omega) (by omega)]
  rw [and32 (x := q + s / 4294967296) (by omega) (by omega)]
  rw [u64_eq (x := (q + s / 4294967296) % 4294967296 + r) (by omega) (by omega)]
  rw [u64_eq (x := p + (q + s / 4294967296) / 4294967296 + ((q + s / 4294967296) % 4294967296 + r) / 4294967296) (by omega) (by omega)]
  have hw : IntKind.u64.wrap (p * 18446744073709551616 + (q + r) * 4294967296 + s) = (p * 18446744073709551616 + (q + r) * 4294967296 + s) % 18446744073709551616 := by simp [IntKind.wrap, IntKind.signed, IntKind.bits]
  rw [hw]
  congr 2
  omega
theorem product_f {a b : Int} (ha0 : 0 ≤ a) (ha : a < 18446744073709551616) (hb0 : 0 ≤ b) (hb : b < 18446744073709551616) :
    cents_product.f a b = some (a * b / 18446744073709551616, a * b % 18446744073709551616) := by
  unfold cents_product.f
  rw [mul64_f ha0 ha hb0 hb]
  rfl
theorem above_f {x y : Int} (hx0 : 0 ≤ x) (hy0 : 0 ≤ y) : cents_wide_above.f (x / 18446744073709551616) (x % 18446744073709551616) (y / 18446744073709551616) (y % 18446744073709551616) = some (decide (x > y)) := by
  unfold cents_wide_above.f
  split
  · exact congrArg some (decide_eq_true (by omega)).symm
  · split
    · exact congrArg some (decide_eq_decide.2 (by omega))
    · exact congrArg some (decide_eq_false (by omega)).symm
theorem size_f {a : Int} (h : amt a) : cents_size.f a = some (a.natAbs : Int) := by
  unfold amt at h
  unfold cents_size.f
  split
  · rw [wrap_eq (by omega) (by omega), u64_eq (by omega) (by omega)]; congr 1; omega
  · rw [u64_eq (by omega) (by omega)]; congr 1; omega
theorem natAbs_amt {a b : Int} : (a.natAbs : Int) * (b.natAbs : Int) ≤ 1000000000000 ↔ amt (a * b) := by
  have h : (a.natAbs : Int) * (b.natAbs : Int) = ((a * b).natAbs : Int) := by rw [Int.natAbs_mul]; rfl
  rw [h]
  unfold amt
  omega
theorem times_f (a b : Int) : cents_Times.f a b = some (timesS a b) := by
  unfold cents_Times.f timesS
  simp only [in_f, Option.bind_some]
  by_cases h1 : amt a
  · by_cases h2 : amt b
    · simp only [h1, h2, decide_true, if_true, size_f h1, size_f h2, Option.bind_some, true_and]
      have h3 := h1; have h4 := h2
      unfold amt at h3 h4
      rw [product_f (by omega) (by omega) (by omega) (by omega)]
      simp only [Option.bind_some]
      have hab := above_f (x := (a.natAbs : Int) * (b.natAbs : Int)) (y := 1000000000000) (Int.mul_nonneg (by omega) (by omega)) (by omega)
      rw [show (1000000000000 : Int) / 18446744073709551616 = 0 from by decide, show (1000000000000 : Int) % 18446744073709551616 = 1000000000000 from by decide] at hab
      rw [hab]
      simp only [Option.bind_some]
      by_cases h5 : amt (a * b)
      · have := natAbs_amt.2 h5
        have h6 := h5
        unfold amt at h6
        rw [if_pos h5, if_neg (by simp; omega), wrap_eq (by omega) (by omega)]
      · have : ¬ _ := fun x => h5 (natAbs_amt.1 x)
        rw [if_neg h5, if_pos (by simp; omega)]
    · simp [h1, h2]
  · simp [h1]
theorem ref_times_j1 {a b : Int} (h1 : amt a) (h2 : amt b) : Ev (fun k => backhaulref02_Times.j1 k a b (a.natAbs : Int) b) (timesS a b) := by
  have h3 := h1; have h4 := h2
  unfold amt at h3 h4
  have hz : timesS a b = if amt (a * b) then (a * b, 0) else (0, 8) := by unfold timesS; simp [h1, h2]
  have key : ∀ y : Int, 0 < y → y = (b.natAbs : Int) → (((a.natAbs : Int) > wrap64 (Int.tdiv 1000000000000 y)) ↔ ¬ amt (a * b)) := by
    intro y hy e
    rw [Int.tdiv_eq_ediv_of_nonneg (by decide)]
    have hb := Int.ediv_le_self y (show (0 : Int) ≤ 1000000000000 by decide)
    have hb0 := Int.ediv_nonneg (show (0 : Int) ≤ 1000000000000 by decide) (show 0 ≤ y by omega)
    rw [wrap_eq (by omega) (by omega), ← natAbs_amt, ← e, ← Int.le_ediv_iff_mul_le hy]
    omega
  have fin : ∀ c : Prop, [Decidable c] → (c ↔ ¬ amt (a * b)) → Ev (fun k => if c then some ((0 : Int), (8 : Int)) else some (wrap64 (a * b), 0)) (timesS a b) := by
    intro c _ hc
    rw [hz]
    refine Ev.ite (fun h => Ev.ok ?_) (fun h => Ev.ok ?_)
    · rw [if_neg (hc.1 h)]
    · have h5 : amt (a * b) := Decidable.not_not.1 (fun x => h (hc.2 x))
      rw [if_pos h5]
      unfold amt at h5
      rw [wrap_eq (by omega) (by omega)]
  have zero : b = 0 → Ev (fun k => some (wrap64 (a * b), (0 : Int))) (timesS a b) := by
    intro e
    subst e
    rw [hz, Int.mul_zero, if_pos amt0]
    exact Ev.ok (by rw [wrap_eq (by decide) (by decide)])
  refine Ev.step (fun k => by simp only [backhaulref02_Times.j1]; rfl) ?_
  refine Ev.ite (fun h => ?_) (fun h => ?_)
  · rw [wrap_eq (by omega) (by omega)]
    exact Ev.pos (by omega) (Ev.neg (by omega) (fin _ (key _ (by omega) (by omega))))
  · refine Ev.ite (fun h5 => Ev.neg (by omega) (fin _ (key _ (by omega) (by omega)))) (fun h5 => zero (by omega))
theorem ref_times_f (a b : Int) : Ev (fun k => backhaulref02_Times.f k a b) (timesS a b) := by
  unfold backhaulref02_Times.f
  have bad : ¬ (amt a ∧ amt b) → Ev (fun k => backhaulref02_Times.j0 k a b true) (timesS a b) := by
    intro h
    refine Ev.step (fun k => by simp only [backhaulref02_Times.j0]; rfl) ?_
    refine Ev.pos (by first | trivial | rfl) (Ev.ok ?_)
    unfold timesS; rw [if_neg (fun x => h ⟨x.1, x.2.1⟩)]
  refine Q.Ev.bindc (ref_in_f _) ?_
  refine Ev.ite (fun h => ?_) (fun h => bad (fun x => h (by simpa using x.1)))
  refine Q.Ev.bindc (ref_in_f _) ?_
  have h1 : amt a := of_decide_eq_true h
  by_cases h2 : amt b
  · rw [decide_eq_true h2]
    refine Ev.step (fun k => by simp only [backhaulref02_Times.j0]; rfl) ?_
    refine Ev.neg (by decide) ?_
    have h3 := h1
    unfold amt at h3
    refine Ev.ite (fun h => ?_) (fun h => ?_)
    · have := ref_times_j1 h1 h2
      rw [wrap_eq (by omega) (by omega), show -a = (a.natAbs : Int) by omega]
      exact this
    · have := ref_times_j1 h1 h2
      rw [show (a.natAbs : Int) = a by omega] at this
      exact this
  · rw [decide_eq_false h2]
    exact bad (fun x => h2 x.2)
end Go.Proofs.Ytefhljhpcpajgaa.Q

/- What math/bits.Div64 comes to: quotient and rest of a number of two words, if its upper word is below the divisor. -/
set_option linter.unusedVariables false
set_option maxRecDepth 4000
namespace Go.Proofs.Ytefhljhpcpajgaa.Q
open Go.RowKit Go.Proofs.Ytefhljhpcpajgaa.F Go.Proofs.YtefhljhpcpajgaaW.PrintWords Go.Proofs.YtefhljhpcpajgaaW.PrintLast Go.Proofs.YtefhljhpcpajgaaW.PrintMore

abbrev tab8 : ByteArray := (⟨#[0, 1, 2, 2, 3, 3, 3, 3, 4, 4, 4, 4, 4, 4, 4, 4, 5, 5, 5, 5, 5, 5, 5, 5, 5, 5, 5, 5, 5, 5, 5, 5, 6, 6, 6, 6, 6, 6, 6, 6, 6, 6, 6, 6, 6, 6, 6, 6, 6, 6, 6, 6, 6, 6, 6, 6, 6, 6, 6, 6, 6, 6, 6, 6, 7, 7, 7, 7, 7, 7, 7, 7, 7, 7, 7, 7, 7, 7, 7, 7, 7, 7, 7, 7, 7, 7, 7, 7, 7, 7, 7, 7, 7, 7, 7, 7, 7, 7, 7, 7, 7, 7, 7, 7, 7, 7, 7, 7, 7, 7, 7, 7, 7, 7, 7, 7, 7, 7, 7, 7, 7, 7, 7, 7, 7, 7, 7, 7, 8, 8, 8, 8, 8, 8, 8, 8, 8, 8, 8, 8, 8, 8, 8, 8, 8, 8, 8, 8, 8, 8, 8, 8, 8, 8, 8, 8, 8, 8, 8, 8, 8, 8, 8, 8, 8, 8, 8, 8, 8, 8, 8, 8, 8, 8, 8, 8, 8, 8, 8, 8, 8, 8, 8, 8, 8, 8, 8, 8, 8, 8, 8, 8, 8, 8, 8, 8, 8, 8, 8, 8, 8, 8, 8, 8, 8, 8, 8, 8, 8, 8, 8, 8, 8, 8, 8, 8, 8, 8, 8, 8, 8, 8, 8, 8, 8, 8, 8, 8, 8, 8, 8, 8, 8, 8, 8, 8, 8, 8, 8, 8, 8, 8, 8, 8, 8, 8, 8, 8, 8, 8, 8, 8, 8, 8, 8, 8]⟩ : ByteArray)
def len8ok (x : Nat) : Bool := let t := (bt tab8 (x : Int)).toNat; decide (bt tab8 (x : Int) = (t : Int)) && decide (t ≤ 8) && decide (x < 2 ^ t) && (x == 0 || (decide (1 ≤ t) && decide (2 ^ (t - 1) ≤ x)))
theorem len8_all : (List.range 256).all len8ok = true := by decide +kernel
theorem len8 {x : Int} (h0 : 0 ≤ x) (h1 : x < 256) : ∃ t : Nat, bt tab8 x = (t : Int) ∧ t ≤ 8 ∧ x < (2 : Int) ^ t ∧ (0 < x → 1 ≤ t ∧ (2 : Int) ^ (t - 1) ≤ x) := by
  obtain ⟨n, rfl⟩ := Int.eq_ofNat_of_zero_le h0
  have h := List.all_eq_true.1 len8_all n (List.mem_range.2 (by omega))
  unfold len8ok at h
  simp only [Bool.and_eq_true, decide_eq_true_eq, Bool.or_eq_true, beq_iff_eq] at h
  obtain ⟨⟨⟨ha, hb⟩, hc⟩, hd⟩ := h
  refine ⟨_, ha, hb, by exact_mod_cast hc, fun hp => ?_⟩
  rcases hd with hd | hd
  · omega
  · exact ⟨hd.1, by exact_mod_cast hd.2⟩
theorem up_pow {x : Int} {m t : Nat} (hx : 0 ≤ x) (ht : 1 ≤ t) (h1 : (2 : Int) ^ (t - 1) ≤ x / 2 ^ m) (h2 : x / 2 ^ m < (2 : Int) ^ t) : (2 : Int) ^ (m + t - 1) ≤ x ∧ x < (2 : Int) ^ (m + t) := by
  have hp : (0 : Int) < 2 ^ m := Int.pow_pos (by decide)
  constructor
  · rw [show m + t - 1 = (t - 1) + m by omega, Int.pow_add]
    exact (Int.le_ediv_iff_mul_le hp).1 h1
  · rw [Nat.add_comm, Int.pow_add]
    exact (Int.ediv_lt_iff_lt_mul hp).1 h2
theorem len64_j0 {x c : Int} (hx0 : 0 < x) (hx : x < 4294967296) (hc0 : 0 ≤ c) (hc : c ≤ 32) : ∃ n : Nat, Ev (fun k => bits_Len64.j0 k x c) (c + n) ∧ 1 ≤ n ∧ n ≤ 32 ∧ (2 : Int) ^ (n - 1) ≤ x ∧ x < (2 : Int) ^ n := by
  by_cases h1 : x ≥ 65536
  · by_cases h2 : x / 65536 ≥ 256
    · obtain ⟨t, e, ht, hlt, hpos⟩ := len8 (x := x / 65536 / 256 % 256) (by omega) (by omega)
      obtain ⟨h3, h4⟩ := hpos (by omega)
      have e2 : x / 65536 / 256 % 256 = x / 2 ^ 24 := by rw [show (2 : Int) ^ 24 = 16777216 by decide]; omega
      rw [e2] at hlt h4
      obtain ⟨h5, h6⟩ := up_pow (m := 24) (by omega) h3 h4 hlt
      refine ⟨24 + t, Ev.step (fun k => by simp only [bits_Len64.j0]; rfl) ?_, by omega, by omega, h5, h6⟩
      refine Ev.pos h1 (Ev.pos h2 (Ev.pos (by omega) (Ev.pos (by omega) (Ev.ok ?_))))
      rw [e, wrap_eq (x := c + 16) (by omega) (by omega), wrap_eq (x := (t : Int)) (by omega) (by omega), wrap_eq (x := c + 16 + 8) (by omega) (by omega), wrap_eq (by omega) (by omega)]
      omega
    · obtain ⟨t, e, ht, hlt, hpos⟩ := len8 (x := x / 65536 % 256) (by omega) (by omega)
      obtain ⟨h3, h4⟩ := hpos (by omega)
      have e2 : x / 65536 % 256 = x / 2 ^ 16 := by rw [show (2 : Int) ^ 16 = 65536 by decide]; omega
      rw [e2] at hlt h4
      obtain ⟨h5, h6⟩ := up_pow (m := 16) (by omega) h3 h4 hlt
      refine ⟨16 + t, Ev.step (fun k => by simp only [bits_Len64.j0]; rfl) ?_, by omega, by omega, h5, h6⟩
      refine Ev.pos h1 (Ev.neg h2 (Ev.pos (by omega) (Ev.pos (by omega) (Ev.ok ?_))))
      rw [e, wrap_eq (x := c + 16) (by omega) (by omega), wrap_eq (x := (t : Int)) (by omega) (by omega), wrap_eq (by omega) (by omega)]
      omega
  · by_cases h2 : x ≥ 256
    · obtain ⟨t, e, ht, hlt, hpos⟩ := len8 (x := x / 256 % 256) (by omega) (by omega)
      obtain ⟨h3, h4⟩ := hpos (by omega)
      have e2 : x / 256 % 256 = x / 2 ^ 8 := by rw [show (2 : Int) ^ 8 = 256 by decide]; omega
      rw [e2] at hlt h4
      obtain ⟨h5, h6⟩ := up_pow (m := 8) (by omega) h3 h4 hlt
      refine ⟨8 + t, Ev.step (fun k => by simp only [bits_Len64.j0]; rfl) ?_, by omega, by omega, h5, h6⟩
      refine Ev.neg h1 (Ev.pos h2 (Ev.pos (by omega) (Ev.pos (by omega) (Ev.ok ?_))))
      rw [e, wrap_eq (x := c + 8) (by omega) (by omega), wrap_eq (x := (t : Int)) (by omega) (by omega), wrap_eq (by omega) (by omega)]
      omega
    · obtain ⟨t, e, ht, hlt, hpos⟩ := len8 (x := x % 256) (by omega) (by omega)
      obtain ⟨h3, h4⟩ := hpos (by omega)
      have e2 : x % 256 = x := by omega
      rw [e2] at hlt h4
      refine ⟨t, Ev.step (fun k => by simp only [bits_Len64.j0]; rfl) ?_, by omega, by omega, h4, hlt⟩
      refine Ev.neg h1 (Ev.neg h2 (Ev.pos (by omega) (Ev.pos (by omega) (Ev.ok ?_))))
      rw [e, wrap_eq (x := (t : Int)) (by omega) (by omega), wrap_eq (by omega) (by omega)]
theorem len64_f {x : Int} (hx0 : 0 < x) (hx : x < 18446744073709551616) : ∃ n : Nat, Ev (fun k => bits_Len64.f k x) (n : Int) ∧ 1 ≤ n ∧ n ≤ 64 ∧ (2 : Int) ^ (n - 1) ≤ x ∧ x < (2 : Int) ^ n := by
  by_cases h : x ≥ 4294967296
  · obtain ⟨n, h1, h2, h3, h4, h5⟩ := len64_j0 (x := x / 4294967296) (c := 32) (by omega) (by omega) (by omega) (by omega)
    have e2 : (4294967296 : Int) = 2 ^ 32 := by decide
    obtain ⟨h6, h7⟩ := up_pow (m := 32) (x := x) (by omega) h2 (by rw [← e2]; exact h4) (by rw [← e2]; exact h5)
    refine ⟨32 + n, ?_, by omega, by omega, h6, h7⟩
    unfold bits_Len64.f
    refine Ev.pos h ?_
    have := h1
    rwa [show (32 : Int) + n = ((32 + n : Nat) : Int) by omega] at this
  · obtain ⟨n, h1, h2, h3, h4, h5⟩ := len64_j0 (x := x) (c := 0) (by omega) (by omega) (by omega) (by omega)
    refine ⟨n, ?_, by omega, by omega, h4, h5⟩
    unfold bits_Len64.f
    refine Ev.neg h ?_
    rwa [Int.zero_add] at h1
theorem u64_mod (x : Int) : IntKind.u64.wrap x = x % 18446744073709551616 := by simp [IntKind.wrap, IntKind.signed, IntKind.bits]

/-- One digit of the quotient, a round of its correction. -/
theorem digit {Y y1 y0 u d q r U Q : Int} (hY : Y = y1 * 4294967296 + y0) (h1 : 2147483648 ≤ y1) (h0 : 0 ≤ y0) (h0' : y0 < 4294967296) (hu0 : 0 ≤ u) (hu : u < Y) (hd0 : 0 ≤ d) (hd : d < 4294967296)
    (hU : U = u * 4294967296 + d) (hQ : Q = U / Y) (hqr : q * y1 + r = u) (hq0 : 0 ≤ q) (hq : q ≤ 4294967297) (hr0 : 0 ≤ r) (hr : r < 4294967296) (hge : Q ≤ q) :
    ((q ≥ 4294967296 ∨ q < 4294967296 ∧ 4294967296 * r + d < q * y0) ∧ Q ≤ q - 1 ∧ 1 ≤ q ∧ (r + y1 ≥ 4294967296 → q - 1 = Q)) ∨ (q < 4294967296 ∧ ¬ (4294967296 * r + d < q * y0) ∧ q = Q) := by
  have hYp : 0 < Y := by omega
  have eq : q * Y = (u - r) * 4294967296 + q * y0 := by
    rw [hY, Int.mul_add, ← Int.mul_assoc, show q * y1 = u - r by omega]
  have hlt : ∀ z : Int, Q < z ↔ U < z * Y := fun z => by rw [hQ]; exact Int.ediv_lt_iff_lt_mul hYp
  have hQ0 : 0 ≤ Q := by rw [hQ]; exact Int.ediv_nonneg (by omega) (by omega)
  have brk : Q ≤ q - 1 → r + y1 ≥ 4294967296 → q - 1 = Q := by
    intro h2 h3
    have h4 : ¬ (Q < q - 1) := by
      rw [hlt, Int.sub_mul, eq, hY, Int.one_mul]
      have : (q - 1) * y0 ≤ 4294967296 * y0 := Int.mul_le_mul_of_nonneg_right (by omega) h0
      rw [Int.sub_mul, Int.one_mul] at this
      omega
    omega
  by_cases h2 : q ≥ 4294967296
  · have h3 : Q < q := by
      have : Q < 4294967296 := by rw [hlt]; omega
      omega
    exact .inl ⟨.inl h2, by omega, by omega, brk (by omega)⟩
  · by_cases h3 : 4294967296 * r + d < q * y0
    · have h4 : Q < q := by rw [hlt, eq]; omega
      exact .inl ⟨.inr ⟨by omega, h3⟩, by omega, by omega, brk (by omega)⟩
    · have h4 : ¬ Q < q := by rw [hlt, eq]; omega
      exact .inr ⟨by omega, h3, by omega⟩
/-- What is left, in one word. -/
theorem rest_word {Y u d U Q : Int} (hY : 0 < Y) (hY' : Y < 18446744073709551616) (hU : U = u * 4294967296 + d) (hQ : Q = U / Y) : IntKind.u64.wrap (IntKind.u64.wrap (IntKind.u64.wrap (u * 4294967296) + d) - IntKind.u64.wrap (Q * Y)) = U % Y := by
  simp only [u64_mod]
  have h1 := Int.emod_nonneg U (show Y ≠ 0 by omega)
  have h2 := Int.emod_lt_of_pos U hY
  have h3 : U % Y = U - Q * Y := by rw [Int.emod_def, hQ, Int.mul_comm]
  rw [h3] at h1 h2 ⊢
  omega
structure Div1 (Y y1 y0 : Int) : Prop where
  eq : Y = y1 * 4294967296 + y0
  lo : 2147483648 ≤ y1
  hi : y1 < 4294967296
  z0 : 0 ≤ y0
  z1 : y0 < 4294967296
/-- The last digit's loop. -/
theorem div_l1 {Y y1 y0 u d s q1 U Q : Int} (D : Div1 Y y1 y0) (hu0 : 0 ≤ u) (hu : u < Y) (hd0 : 0 ≤ d) (hd : d < 4294967296) (hs : 0 ≤ s) (hU : U = u * 4294967296 + d) (hQ : Q = U / Y) (m : Nat) :
    ∀ q r : Int, q * y1 + r = u → 0 ≤ q → q ≤ 4294967297 → 0 ≤ r → r < 4294967296 → Q ≤ q → 4294967296 ≤ r + m * 2147483648 →
    Ev (fun k => bits_Div64.l1 k Y s y1 y0 d q1 r u q) (IntKind.u64.wrap (IntKind.u64.wrap (q1 * 4294967296) + Q), shr .u64 (U % Y) s) := by
  obtain ⟨hY, h1, h1', h0, h0'⟩ := D
  induction m with
  | zero => intro q r _ _ _ _ _ _ hm; omega
  | succ m ih =>
    intro q r hqr hq0 hq hr0 hr hge hm
    have H := digit hY h1 h0 h0' hu0 hu hd0 hd hU hQ hqr hq0 hq hr0 hr hge
    have rw_ := rest_word (show 0 < Y by omega) (by omega) hU hQ
    have yes : ((q ≥ 4294967296 ∨ q < 4294967296 ∧ 4294967296 * r + d < q * y0) ∧ Q ≤ q - 1 ∧ 1 ≤ q ∧ (r + y1 ≥ 4294967296 → q - 1 = Q)) → Ev (fun k => bits_Div64.j4 k Y s y1 y0 d q1 r u q true) (IntKind.u64.wrap (IntKind.u64.wrap (q1 * 4294967296) + Q), shr .u64 (U % Y) s) := by
      rintro ⟨_, h3, h4, h5⟩
      refine Ev.step (fun k => by simp only [bits_Div64.j4]; rfl) ?_
      refine Ev.pos (by first | trivial | rfl) ?_
      rw [u64_eq (x := r + y1) (by omega) (by omega), u64_eq (x := q - 1) (by omega) (by omega)]
      refine Ev.ite (fun h6 => Ev.pos hs (Ev.ok ?_)) (fun h6 => ?_)
      · rw [h5 h6, rw_]
      · exact ih (q - 1) (r + y1) (by rw [Int.sub_mul]; omega) (by omega) (by omega) (by omega) (by omega) h3 (by omega)
    have no : q = Q → Ev (fun k => bits_Div64.j4 k Y s y1 y0 d q1 r u q false) (IntKind.u64.wrap (IntKind.u64.wrap (q1 * 4294967296) + Q), shr .u64 (U % Y) s) := by
      rintro rfl
      refine Ev.step (fun k => by simp only [bits_Div64.j4]; rfl) ?_
      refine Ev.neg (by decide) (Ev.pos hs (Ev.ok ?_))
      rw [rw_]
    refine Ev.step (fun k => by simp only [bits_Div64.l1]; rfl) ?_
    refine Ev.ite (fun h6 => ?_) (fun h6 => ?_)
    · rcases H with H | H
      · exact yes H
      · omega
    · have hb : q * y0 ≤ 4294967295 * 4294967295 := Int.mul_le_mul (by omega) (by omega) h0 (by decide)
      have hb0 : 0 ≤ q * y0 := Int.mul_nonneg hq0 h0
      rw [u64_eq (x := q * y0) hb0 (by omega), u64_eq (x := 4294967296 * r) (by omega) (by omega), u64_eq (x := 4294967296 * r + d) (by omega) (by omega)]
      rcases H with H | H
      · rw [decide_eq_true (by omega)]; exact yes H
      · rw [decide_eq_false (by omega)]; exact no H.2.2
/-- The first digit's. -/
theorem div_l0 {Y y1 y0 u d d0 s U Q : Int} {R : Int × Int} (D : Div1 Y y1 y0) (hu0 : 0 ≤ u) (hu : u < Y) (hd0 : 0 ≤ d) (hd : d < 4294967296) (hU : U = u * 4294967296 + d) (hQ : Q = U / Y)
    (next : Ev (fun k => bits_Div64.j2 k Y s y1 y0 u d d0 Q) R) (m : Nat) :
    ∀ q r : Int, q * y1 + r = u → 0 ≤ q → q ≤ 4294967297 → 0 ≤ r → r < 4294967296 → Q ≤ q → 4294967296 ≤ r + m * 2147483648 →
    Ev (fun k => bits_Div64.l0 k Y s y1 y0 u d d0 q r) R := by
  obtain ⟨hY, h1, h1', h0, h0'⟩ := D
  induction m with
  | zero => intro q r _ _ _ _ _ _ hm; omega
  | succ m ih =>
    intro q r hqr hq0 hq hr0 hr hge hm
    have H := digit hY h1 h0 h0' hu0 hu hd0 hd hU hQ hqr hq0 hq hr0 hr hge
    have yes : ((q ≥ 4294967296 ∨ q < 4294967296 ∧ 4294967296 * r + d < q * y0) ∧ Q ≤ q - 1 ∧ 1 ≤ q ∧ (r + y1 ≥ 4294967296 → q - 1 = Q)) → Ev (fun k => bits_Div64.j1 k Y s y1 y0 u d d0 q r true) R := by
      rintro ⟨_, h3, h4, h5⟩
      refine Ev.step (fun k => by simp only [bits_Div64.j1]; rfl) ?_
      refine Ev.pos (by first | trivial | rfl) ?_
      rw [u64_eq (x := r + y1) (by omega) (by omega), u64_eq (x := q - 1) (by omega) (by omega)]
      refine Ev.ite (fun h6 => ?_) (fun h6 => ?_)
      · rw [h5 h6]; exact next
      · exact ih (q - 1) (r + y1) (by rw [Int.sub_mul]; omega) (by omega) (by omega) (by omega) (by omega) h3 (by omega)
    have no : q = Q → Ev (fun k => bits_Div64.j1 k Y s y1 y0 u d d0 q r false) R := by
      rintro rfl
      refine Ev.step (fun k => by simp only [bits_Div64.j1]; rfl) ?_
      exact Ev.neg (by decide) next
    refine Ev.step (fun k => by simp only [bits_Div64.l0]; rfl) ?_
    refine Ev.ite (fun h6 => ?_) (fun h6 => ?_)
    · rcases H with H | H
      · exact yes H
      · omega
    · have hb : q * y0 ≤ 4294967295 * 4294967295 := Int.mul_le_mul (by omega) (by omega) h0 (by decide)
      have hb0 : 0 ≤ q * y0 := Int.mul_nonneg hq0 h0
      rw [u64_eq (x := q * y0) hb0 (by omega), u64_eq (x := 4294967296 * r) (by omega) (by omega), u64_eq (x := 4294967296 * r + d) (by omega) (by omega)]
      rcases H with H | H
      · rw [decide_eq_true (by omega)]; exact yes H
      · rw [decide_eq_false (by omega)]; exact no H.2.2
/-- A digit's first guess. -/
theorem guess {Y y1 y0 u d U Q : Int} (D : Div1 Y y1 y0) (hu0 : 0 ≤ u) (hu : u < Y) (hd0 : 0 ≤ d) (hd : d < 4294967296) (hU : U = u * 4294967296 + d) (hQ : Q = U / Y) :
    ∃ q r : Int, IntKind.u64.wrap (Int.tdiv u y1) = q ∧ IntKind.u64.wrap (u - IntKind.u64.wrap (q * y1)) = r ∧ q * y1 + r = u ∧ 0 ≤ q ∧ q ≤ 4294967297 ∧ 0 ≤ r ∧ r < 4294967296 ∧ Q ≤ q := by
  obtain ⟨hY, h1, h1', h0, h0'⟩ := D
  have hq0 : 0 ≤ u / y1 := Int.ediv_nonneg hu0 (by omega)
  have hq : u / y1 < 4294967298 := by rw [Int.ediv_lt_iff_lt_mul (by omega)]; omega
  have hm := Int.emod_def u y1
  have hr0 := Int.emod_nonneg u (show y1 ≠ 0 by omega)
  have hr := Int.emod_lt_of_pos u (show 0 < y1 by omega)
  have hc : u / y1 * y1 = u - u % y1 := by rw [Int.mul_comm]; omega
  have hcp : 0 ≤ u / y1 * y1 := Int.mul_nonneg hq0 (by omega)
  refine ⟨u / y1, u % y1, ?_, ?_, by omega, hq0, by omega, hr0, by omega, ?_⟩
  · rw [Int.tdiv_eq_ediv_of_nonneg hu0, u64_eq hq0 (by omega)]
  · rw [hc, u64_eq (x := u - u % y1) (by omega) (by omega), show u - (u - u % y1) = u % y1 by omega, u64_eq (by omega) (by omega)]
  · have hlt : Q < u / y1 + 1 := by
      rw [hQ, Int.ediv_lt_iff_lt_mul (by omega), hY, Int.mul_add, ← Int.mul_assoc, Int.add_mul, hc, Int.one_mul]
      have : 0 ≤ (u / y1 + 1) * y0 := Int.mul_nonneg (by omega) h0
      omega
    omega

theorem shl_at {x y s : Int} {n : Nat} (hs : s = (n : Int)) (hn : n ≤ 64) (h : x * 2 ^ n = y) (h0 : 0 ≤ y) (h1 : y < 18446744073709551616) : shl .u64 x s = y := by
  unfold shl
  rw [hs, Int.toNat_natCast, Nat.min_eq_left (by simpa [IntKind.bits] using hn), h, u64_eq h0 h1]
theorem and32' {x : Int} (h0 : 0 ≤ x) (h1 : x < 18446744073709551616) : Go.bits .and .u64 x 4294967295 = x % 4294967296 :=
  Go.bits_mask .u64 64 (by decide) (fun n h0 h1 => u64_eq h0 h1) 32 (by decide) x h0 h1
theorem div64_f {a b c : Int} (ha0 : 0 ≤ a) (ha : a < c) (hb0 : 0 ≤ b) (hb : b < 18446744073709551616) (hc : c < 18446744073709551616) :
    Ev (fun k => bits_Div64.f k a b c) ((a * 18446744073709551616 + b) / c, (a * 18446744073709551616 + b) % c) := by
  have hc0 : 0 < c := by omega
  unfold bits_Div64.f
  refine Ev.neg (by omega) (Ev.neg (by omega) ?_)
  by_cases hz : a = 0
  · refine Ev.pos hz (Ev.ok ?_)
    subst hz
    rw [Int.zero_mul, Int.zero_add, Int.tdiv_eq_ediv_of_nonneg hb0, Int.tmod_eq_emod_of_nonneg hb0]
    have h1 := Int.ediv_nonneg hb0 (show 0 ≤ c by omega)
    have h2 := Int.ediv_le_self c hb0
    rw [u64_eq h1 (by omega)]
  refine Ev.neg hz ?_
  obtain ⟨n, hev, hn1, hn2, hlo, hhi⟩ := len64_f hc0 hc
  -- the shift
  obtain ⟨s, hs⟩ : ∃ s : Nat, s = 64 - n := ⟨_, rfl⟩
  have hsn : s + n = 64 := by omega
  have hs63 : s ≤ 63 := by omega
  obtain ⟨p, hp⟩ : ∃ p : Int, p = 2 ^ s := ⟨_, rfl⟩
  obtain ⟨r, hr⟩ : ∃ r : Int, r = 2 ^ n := ⟨_, rfl⟩
  have hp0 : 0 < p := by rw [hp]; exact Int.pow_pos (by decide)
  have hr0 : 0 < r := by rw [hr]; exact Int.pow_pos (by decide)
  have hpr : p * r = 18446744073709551616 := by rw [hp, hr, ← Int.pow_add, hsn]; decide
  have hY1 : c * p < 18446744073709551616 := by
    rw [← hpr, Int.mul_comm p r]
    exact Int.mul_lt_mul_of_pos_right (by rw [hr]; exact hhi) hp0
  have hY0 : 9223372036854775808 ≤ c * p := by
    have h1 : (2 : Int) ^ (n - 1) * p ≤ c * p := Int.mul_le_mul_of_nonneg_right hlo (by omega)
    have h2 : (2 : Int) ^ (n - 1) * p = 9223372036854775808 := by
      rw [hp, ← Int.pow_add, show n - 1 + s = 63 by omega]; decide
    omega
  obtain ⟨Y, hY⟩ : ∃ Y, Y = c * p := ⟨_, rfl⟩
  rw [← hY] at hY0 hY1
  have haY : a * p < Y := by rw [hY]; exact Int.mul_lt_mul_of_pos_right ha hp0
  have hap0 : 0 ≤ a * p := Int.mul_nonneg ha0 (by omega)
  have hbr0 : 0 ≤ b / r := Int.ediv_nonneg hb0 (by omega)
  have hbr : b / r < p := by rw [Int.ediv_lt_iff_lt_mul hr0, hpr]; exact hb
  -- the words, shifted
  have eY : shl .u64 c (s : Int) = Y := shl_at rfl (by omega) (by rw [hY, hp]) (by omega) hY1
  have ea : shl .u64 a (s : Int) = a * p := shl_at rfl (by omega) (by rw [hp]) hap0 (by omega)
  have eb : shr .u64 b (n : Int) = b / r := by
    unfold shr
    rw [Int.toNat_natCast, Nat.min_eq_left (by simpa [IntKind.bits] using hn2), hr]
  have eb2 : shl .u64 b (s : Int) = (b * p) % 18446744073709551616 := by
    unfold shl
    rw [Int.toNat_natCast, Nat.min_eq_left (by simp [IntKind.bits]; omega), u64_mod, hp]
  have hor : Go.bits .or .u64 (a * p) (b / r) = a * p + b / r := by
    refine Go.bits_join .u64 64 (by decide) (fun n h0 h1 => u64_eq h0 h1) s (a * p) (b / r) hap0 ?_ ?_ hbr0 ?_ ?_
    · rw [hp]; exact Int.mul_emod_left _ _
    · exact Int.lt_trans haY hY1
    · rw [← hp]; exact hbr
    · have : p ≤ 18446744073709551616 := by
        rw [← hpr]
        have := Int.mul_le_mul_of_nonneg_left (show (1 : Int) ≤ r by omega) (show 0 ≤ p by omega)
        omega
      exact Int.lt_of_lt_of_le hbr this
  obtain ⟨u, hu⟩ : ∃ u, u = a * p + b / r := ⟨_, rfl⟩
  rw [← hu] at hor
  have huY : u < Y := by
    have h1 : (a + 1) * p ≤ c * p := Int.mul_le_mul_of_nonneg_right (by omega) (by omega)
    rw [Int.add_mul, Int.one_mul, ← hY] at h1
    omega
  have hu0 : 0 ≤ u := by omega
  obtain ⟨v, hv⟩ : ∃ v, v = (b * p) % 18446744073709551616 := ⟨_, rfl⟩
  rw [← hv] at eb2
  have hv0 : 0 ≤ v := by omega
  have hv1 : v < 18446744073709551616 := by omega
  have hbp : b * p = (b / r) * 18446744073709551616 + v := by
    have h1 : b * p / 18446744073709551616 = b / r := by
      rw [← hpr, Int.mul_comm p r]
      exact Int.mul_ediv_mul_of_pos_left b r hp0
    have h2 := Int.mul_ediv_add_emod (b * p) 18446744073709551616
    rw [h1, ← hv] at h2
    omega
  have hN : (a * 18446744073709551616 + b) * p = u * 18446744073709551616 + v := by
    rw [Int.add_mul, hbp, hu, Int.add_mul, Int.mul_right_comm]
    omega
  have ew : IntKind.u64.wrap (wrap64 (64 - (n : Int))) = (s : Int) := by
    rw [wrap_eq (by omega) (by omega), u64_eq (by omega) (by omega)]; omega
  have ew2 : IntKind.u64.wrap (64 - (s : Int)) = (n : Int) := by rw [u64_eq (by omega) (by omega)]; omega
  have hlz : Ev (fun k => bits_LeadingZeros64.f k c) (wrap64 (64 - (n : Int))) := by
    unfold bits_LeadingZeros64.f
    exact Ev.bind hev (Ev.ok rfl)
  refine Ev.bind hlz ?_
  simp only [ew, ew2, eY, ea, eb, eb2, hor]
  have D : Div1 Y (Y / 4294967296) (Go.bits .and .u64 Y 4294967295) := by
    rw [and32' (by omega) hY1]
    exact ⟨by omega, by omega, by omega, by omega, by omega⟩
  rw [and32' hv0 hv1]
  refine Ev.pos (by omega) (Ev.pos (by omega) (Ev.neg (by have := D.lo; omega) ?_))
  obtain ⟨y1, hy1⟩ : ∃ x, x = Y / 4294967296 := ⟨_, rfl⟩
  obtain ⟨y0, hy0⟩ : ∃ x, x = Go.bits .and .u64 Y 4294967295 := ⟨_, rfl⟩
  rw [← hy1, ← hy0] at D ⊢
  obtain ⟨d1, hd1⟩ : ∃ x, x = v / 4294967296 := ⟨_, rfl⟩
  obtain ⟨d0, hd0⟩ : ∃ x, x = v % 4294967296 := ⟨_, rfl⟩
  rw [← hd1, ← hd0]
  obtain ⟨U1, hU1⟩ : ∃ x, x = u * 4294967296 + d1 := ⟨_, rfl⟩
  obtain ⟨Q1, hQ1⟩ : ∃ x, x = U1 / Y := ⟨_, rfl⟩
  obtain ⟨R1, hR1⟩ : ∃ x, x = U1 % Y := ⟨_, rfl⟩
  obtain ⟨U0, hU0⟩ : ∃ x, x = R1 * 4294967296 + d0 := ⟨_, rfl⟩
  obtain ⟨Q0, hQ0⟩ : ∃ x, x = U0 / Y := ⟨_, rfl⟩
  have hYp : 0 < Y := by omega
  have hR10 : 0 ≤ R1 := by rw [hR1]; exact Int.emod_nonneg _ (by omega)
  have hR1Y : R1 < Y := by rw [hR1]; exact Int.emod_lt_of_pos _ hYp
  have e1 : U1 = Q1 * Y + R1 := by rw [hQ1, hR1, Int.mul_comm]; exact (Int.mul_ediv_add_emod U1 Y).symm
  have hQ1lt : Q1 < 4294967296 := by rw [hQ1, Int.ediv_lt_iff_lt_mul hYp]; omega
  have hQ10 : 0 ≤ Q1 := by rw [hQ1]; exact Int.ediv_nonneg (by omega) (by omega)
  have hQ0lt : Q0 < 4294967296 := by rw [hQ0, Int.ediv_lt_iff_lt_mul hYp]; omega
  have hQ00 : 0 ≤ Q0 := by rw [hQ0]; exact Int.ediv_nonneg (by omega) (by omega)
  have hNU : (a * 18446744073709551616 + b) * p = U0 + (Q1 * 4294967296) * Y := by
    rw [hN, hU0, Int.mul_right_comm]
    have : Q1 * Y = U1 - R1 := by omega
    rw [this]
    omega
  have hq : (a * 18446744073709551616 + b) / c = Q1 * 4294967296 + Q0 := by
    rw [← Int.mul_ediv_mul_of_pos_left _ c hp0, ← hY, hNU, Int.add_mul_ediv_right _ _ (by omega), ← hQ0]
    omega
  have hm : (a * 18446744073709551616 + b) % c = (U0 % Y) / p := by
    have h1 : (a * 18446744073709551616 + b) * p % (c * p) = (a * 18446744073709551616 + b) % c * p := by
      rw [Int.mul_comm _ p, Int.mul_comm c p, Int.mul_emod_mul_of_pos _ _ hp0, Int.mul_comm]
    rw [← hY, hNU, Int.add_mul_emod_self_right] at h1
    rw [h1, Int.mul_ediv_cancel _ (by omega)]
  have last : shr .u64 (U0 % Y) (s : Int) = (a * 18446744073709551616 + b) % c := by
    rw [hm, hp]
    unfold shr
    rw [Int.toNat_natCast, Nat.min_eq_left (by simp [IntKind.bits]; omega)]
  have res : (IntKind.u64.wrap (IntKind.u64.wrap (Q1 * 4294967296) + Q0), shr .u64 (U0 % Y) (s : Int)) = ((a * 18446744073709551616 + b) / c, (a * 18446744073709551616 + b) % c) := by
    rw [last, hq, u64_eq (x := Q1 * 4294967296) (by omega) (by omega), u64_eq (by omega) (by omega)]
  rw [← res]
  obtain ⟨q, rr, g1, g2, g3, g4, g5, g6, g7, g8⟩ := guess D hu0 huY (by omega) (by omega) hU1 hQ1
  rw [g1, g2]
  refine div_l0 D hu0 huY (by omega) (by omega) hU1 hQ1 ?_ 2 q rr g3 g4 g5 g6 g7 g8 (by omega)
  refine Ev.step (fun k => by simp only [bits_Div64.j2]; rfl) ?_
  refine Ev.neg (by have := D.lo; omega) ?_
  rw [rest_word hYp hY1 hU1 hQ1, ← hR1]
  obtain ⟨q', r', g1, g2, g3, g4, g5, g6, g7, g8⟩ := guess D hR10 hR1Y (by omega) (by omega) hU0 hQ0
  rw [g1, g2]
  exact div_l1 D hR10 hR1Y (by omega) (by omega) (by omega) hU0 hQ0 2 q' r' g3 g4 g5 g6 g7 g8 (by omega)
end Go.Proofs.Ytefhljhpcpajgaa.Q

namespace Go.Proofs.Ytefhljhpcpajgaa.F
open Go.RowKit Go.Proofs.YtefhljhpcpajgaaX Go.Proofs.YtefhljhpcpajgaaW.PrintWords Go.Proofs.YtefhljhpcpajgaaW.PrintLast Go.Proofs.YtefhljhpcpajgaaW.PrintMore
attribute [local go_sem] max2_int min2_int max_two min_two max_three min_three max_four min_four   -- for this text's walks alone
set_option linter.unusedVariables false
set_option linter.unusedSimpArgs false

/-! ### cents_Floor: function 33 -/
def cents_Floor.f (k : Nat) (a0 : Int) (a1 : Int) (a2 : Int) : Option (Int × Int) := (cents_divided.f k a0 a1 a2).bind fun bt127 => (if bt127.2.2 = 0 then ((cents_told.f bt127.1).bind fun bt130 => (some (bt130.1, bt130.2))) else (some (0, bt127.2.2)))
theorem cents_Floor.mono : ∀ a0 a1 a2 k, LeO (cents_Floor.f k a0 a1 a2) (cents_Floor.f (k + 1) a0 a1 a2) := by
  intro a0 a1 a2 k
  unfold cents_Floor.f
  repeat' first
      | (with_reducible exact cents_divided.mono _ _ _ _)
      | (with_reducible exact LeO.refl _)
      | (with_reducible exact LeO.none _)
      | (with_reducible refine LeO.ite ?_ ?_)
      | (with_reducible refine LeO.bind ?_ (fun _ => ?_))
      | exact cents_divided.mono _ _ _ _
      | exact LeO.none _
      | refine LeO.ite ?_ ?_
      | refine LeO.bind ?_ (fun _ => ?_)
set_option maxHeartbeats 8000000 in
set_option maxRecDepth 100000 in
theorem cents_Floor.calls (k : Nat) (a0 : Int) (a1 : Int) (a2 : Int) (r1 : Int) (r2 : Int) (w : World) (h : cents_Floor.f k a0 a1 a2 = some (r1, r2)) :
    Calls Try.prog 33 #[.int .i64 a0, .int .i64 a1, .int .i64 a2] w fun e w' => e = .returned (.tuple #[.int .i64 r1, .int .i64 r2]) ∧ Below w.heap.size w w' := by
  have HB := Aside0.mk (Below.refl w.heap.size w)
  have H : ((cents_divided.f k a0 a1 a2).bind fun bt127 => (if bt127.2.2 = 0 then ((cents_told.f bt127.1).bind fun bt130 => (some (bt130.1, bt130.2))) else (some (0, bt127.2.2)))) = some (r1, r2) := h
  clear h
  replace H := Option.bind_eq_some_iff.mp H
  obtain ⟨⟨t127, t128, t129⟩, A40, H⟩ := H
  replace H : (if t129 = 0 then ((cents_told.f t127).bind fun bt130 => (some (bt130.1, bt130.2))) else (some (0, t129))) = some (r1, r2) := H
  have A4 := Aside0.mk A40
  clear A40
  by_cases c5 : t129 = 0
  · rw [if_pos c5] at H
    have c5b0 : (t129 == 0) = true := beq_iff_eq.mpr c5
    have c5b1 : (t129 != 0) = false := bne_eq_false_iff_eq.mpr c5
    clear c5
    replace H := Option.bind_eq_some_iff.mp H
    obtain ⟨⟨t130, t131⟩, A60, H⟩ := H
    replace H : (some (t130, t131)) = some (r1, r2) := H
    have A6 := Aside0.mk A60
    clear A60
    simp only [Option.some.injEq, Prod.mk.injEq] at H
    obtain ⟨rfl, rfl⟩ := H
    go_enter Try.func33, Try.ntmps33
    go_wp2_with (first | ((with_reducible refine gate_callee (f := 100) rfl ?_); refine goesL_ (some 15) rfl rfl Try.func100 (by kernel_rfl) rfl #[.int .i64 a0, .int .i64 a1, .int .i64 a2] rfl (by (try simp only [List.map_toArray, List.map_cons, List.map_nil]); first | done | rfl | (simp only [List.length_drop, List.length_take]; rfl)) ?_; (with_reducible refine (cents_divided.calls k a0 a1 a2 t127 t128 t129 _ A4.out).mono ?_); rintro e w7 ⟨rfl, hb⟩; refine ⟨_, rfl, ?_⟩; have n0_ := Aside0.mk (below_step (by repeat (first | (with_reducible first | exact HB.out | apply below_alloc | apply pw_below_drewN | apply below_drew1) | exact HB.out)) hb); clear HB; have HB := n0_; clear n0_; (try clear hb); (try clear hb2); (try clear hk); (try clear hi)) | ((with_reducible refine gate_callee (f := 96) rfl ?_); refine goesL_ (some 23) rfl rfl Try.func96 (by kernel_rfl) rfl #[.int .i64 t127] rfl (by (try simp only [List.map_toArray, List.map_cons, List.map_nil]); first | done | rfl | (simp only [List.length_drop, List.length_take]; rfl)) ?_; (with_reducible refine (cents_told.calls t127 t130 t131 _ A6.out).mono ?_); rintro e w' ⟨rfl, ⟨nd, rfl⟩⟩; refine ⟨_, rfl, ?_⟩))
    go_ret2
    exact ⟨by first | rfl | (simp [errW_none, errW_some] <;> rfl) | (simp [*, errW_none, errW_some] <;> rfl), by repeat (first | (with_reducible first | exact HB.out | apply below_alloc | apply pw_below_drewN | apply below_drew1) | exact HB.out)⟩
  · rw [if_neg c5] at H
    have c5b0 : (t129 == 0) = false := beq_eq_false_iff_ne.mpr c5
    have c5b1 : (t129 != 0) = true := bne_iff_ne.mpr c5
    simp only [Option.some.injEq, Prod.mk.injEq] at H
    obtain ⟨rfl, rfl⟩ := H
    go_enter Try.func33, Try.ntmps33
    go_wp2_with (first | ((with_reducible refine gate_callee (f := 100) rfl ?_); refine goesL_ (some 15) rfl rfl Try.func100 (by kernel_rfl) rfl #[.int .i64 a0, .int .i64 a1, .int .i64 a2] rfl (by (try simp only [List.map_toArray, List.map_cons, List.map_nil]); first | done | rfl | (simp only [List.length_drop, List.length_take]; rfl)) ?_; (with_reducible refine (cents_divided.calls k a0 a1 a2 t127 t128 t129 _ A4.out).mono ?_); rintro e w8 ⟨rfl, hb⟩; refine ⟨_, rfl, ?_⟩; have n0_ := Aside0.mk (below_step (by repeat (first | (with_reducible first | exact HB.out | apply below_alloc | apply pw_below_drewN | apply below_drew1) | exact HB.out)) hb); clear HB; have HB := n0_; clear n0_; (try clear hb); (try clear hb2); (try clear hk); (try clear hi)))
    go_ret2
    exact ⟨by first | rfl | (simp [errW_none, errW_some] <;> rfl) | (simp [*, errW_none, errW_some] <;> rfl), by repeat (first | (with_reducible first | exact HB.out | apply below_alloc | apply pw_below_drewN | apply below_drew1) | exact HB.out)⟩

end Go.Proofs.Ytefhljhpcpajgaa.F

namespace Go.Proofs.Ytefhljhpcpajgaa.F
open Go.RowKit Go.Proofs.YtefhljhpcpajgaaX Go.Proofs.YtefhljhpcpajgaaW.PrintWords Go.Proofs.YtefhljhpcpajgaaW.PrintLast Go.Proofs.YtefhljhpcpajgaaW.PrintMore
attribute [local go_sem] max2_int min2_int max_two min_two max_three min_three max_four min_four   -- for this text's walks alone
set_option linter.unusedVariables false
set_option linter.unusedSimpArgs false

/-! ### cents_Rest: function 37 -/
def cents_Rest.f (k : Nat) (a0 : Int) (a1 : Int) (a2 : Int) : Option (Int × Int) := (cents_divided.f k a0 a1 a2).bind fun bt139 => (if bt139.2.2 = 0 then ((cents_told.f bt139.1).bind fun bt142 => (if bt142.2 = 0 then (some (bt139.2.1, 0)) else (some (0, bt142.2)))) else (some (0, bt139.2.2)))
theorem cents_Rest.mono : ∀ a0 a1 a2 k, LeO (cents_Rest.f k a0 a1 a2) (cents_Rest.f (k + 1) a0 a1 a2) := by
  intro a0 a1 a2 k
  unfold cents_Rest.f
  repeat' first
      | (with_reducible exact cents_divided.mono _ _ _ _)
      | (with_reducible exact LeO.refl _)
      | (with_reducible exact LeO.none _)
      | (with_reducible refine LeO.ite ?_ ?_)
      | (with_reducible refine LeO.bind ?_ (fun _ => ?_))
      | exact cents_divided.mono _ _ _ _
      | exact LeO.none _
      | refine LeO.ite ?_ ?_
      | refine LeO.bind ?_ (fun _ => ?_)
set_option maxHeartbeats 8000000 in
set_option maxRecDepth 100000 in
theorem cents_Rest.calls (k : Nat) (a0 : Int) (a1 : Int) (a2 : Int) (r1 : Int) (r2 : Int) (w : World) (h : cents_Rest.f k a0 a1 a2 = some (r1, r2)) :
    Calls Try.prog 37 #[.int .i64 a0, .int .i64 a1, .int .i64 a2] w fun e w' => e = .returned (.tuple #[.int .i64 r1, .int .i64 r2]) ∧ Below w.heap.size w w' := by
  have HB := Aside0.mk (Below.refl w.heap.size w)
  have H : ((cents_divided.f k a0 a1 a2).bind fun bt139 => (if bt139.2.2 = 0 then ((cents_told.f bt139.1).bind fun bt142 => (if bt142.2 = 0 then (some (bt139.2.1, 0)) else (some (0, bt142.2)))) else (some (0, bt139.2.2)))) = some (r1, r2) := h
  clear h
  replace H := Option.bind_eq_some_iff.mp H
  obtain ⟨⟨t139, t140, t141⟩, A40, H⟩ := H
  replace H : (if t141 = 0 then ((cents_told.f t139).bind fun bt142 => (if bt142.2 = 0 then (some (t140, 0)) else (some (0, bt142.2)))) else (some (0, t141))) = some (r1, r2) := H
  have A4 := Aside0.mk A40
  clear A40
  by_cases c5 : t141 = 0
  · rw [if_pos c5] at H
    have c5b0 : (t141 == 0) = true := beq_iff_eq.mpr c5
    have c5b1 : (t141 != 0) = false := bne_eq_false_iff_eq.mpr c5
    clear c5
    replace H := Option.bind_eq_some_iff.mp H
    obtain ⟨⟨t142, t143⟩, A60, H⟩ := H
    replace H : (if t143 = 0 then (some (t140, 0)) else (some (0, t143))) = some (r1, r2) := H
    have A6 := Aside0.mk A60
    clear A60
    by_cases c7 : t143 = 0
    · rw [if_pos c7] at H
      have c7b0 : (t143 == 0) = true := beq_iff_eq.mpr c7
      have c7b1 : (t143 != 0) = false := bne_eq_false_iff_eq.mpr c7
      clear c7
      simp only [Option.some.injEq, Prod.mk.injEq] at H
      obtain ⟨rfl, rfl⟩ := H
      go_enter Try.func37, Try.ntmps37
      go_wp2_with (first | ((with_reducible refine gate_callee (f := 100) rfl ?_); refine goesL_ (some 17) rfl rfl Try.func100 (by kernel_rfl) rfl #[.int .i64 a0, .int .i64 a1, .int .i64 a2] rfl (by (try simp only [List.map_toArray, List.map_cons, List.map_nil]); first | done | rfl | (simp only [List.length_drop, List.length_take]; rfl)) ?_; (with_reducible refine (cents_divided.calls k a0 a1 a2 t139 t140 t141 _ A4.out).mono ?_); rintro e w8 ⟨rfl, hb⟩; refine ⟨_, rfl, ?_⟩; have n0_ := Aside0.mk (below_step (by repeat (first | (with_reducible first | exact HB.out | apply below_alloc | apply pw_below_drewN | apply below_drew1) | exact HB.out)) hb); clear HB; have HB := n0_; clear n0_; (try clear hb); (try clear hb2); (try clear hk); (try clear hi)) | ((with_reducible refine gate_callee (f := 96) rfl ?_); refine goesL_ (some 26) rfl rfl Try.func96 (by kernel_rfl) rfl #[.int .i64 t139] rfl (by (try simp only [List.map_toArray, List.map_cons, List.map_nil]); first | done | rfl | (simp only [List.length_drop, List.length_take]; rfl)) ?_; (with_reducible refine (cents_told.calls t139 t142 t143 _ A6.out).mono ?_); rintro e w' ⟨rfl, ⟨nd, rfl⟩⟩; refine ⟨_, rfl, ?_⟩))
      go_ret2
      exact ⟨by first | rfl | (simp [errW_none, errW_some] <;> rfl) | (simp [*, errW_none, errW_some] <;> rfl), by repeat (first | (with_reducible first | exact HB.out | apply below_alloc | apply pw_below_drewN | apply below_drew1) | exact HB.out)⟩
    · rw [if_neg c7] at H
      have c7b0 : (t143 == 0) = false := beq_eq_false_iff_ne.mpr c7
      have c7b1 : (t143 != 0) = true := bne_iff_ne.mpr c7
      simp only [Option.some.injEq, Prod.mk.injEq] at H
      obtain ⟨rfl, rfl⟩ := H
      go_enter Try.func37, Try.ntmps37
      go_wp2_with (first | ((with_reducible refine gate_callee (f := 100) rfl ?_); refine goesL_ (some 17) rfl rfl Try.func100 (by kernel_rfl) rfl #[.int .i64 a0, .int .i64 a1, .int .i64 a2] rfl (by (try simp only [List.map_toArray, List.map_cons, List.map_nil]); first | done | rfl | (simp only [List.length_drop, List.length_take]; rfl)) ?_; (with_reducible refine (cents_divided.calls k a0 a1 a2 t139 t140 t141 _ A4.out).mono ?_); rintro e w9 ⟨rfl, hb⟩; refine ⟨_, rfl, ?_⟩; have n0_ := Aside0.mk (below_step (by repeat (first | (with_reducible first | exact HB.out | apply below_alloc | apply pw_below_drewN | apply below_drew1) | exact HB.out)) hb); clear HB; have HB := n0_; clear n0_; (try clear hb); (try clear hb2); (try clear hk); (try clear hi)) | ((with_reducible refine gate_callee (f := 96) rfl ?_); refine goesL_ (some 26) rfl rfl Try.func96 (by kernel_rfl) rfl #[.int .i64 t139] rfl (by (try simp only [List.map_toArray, List.map_cons, List.map_nil]); first | done | rfl | (simp only [List.length_drop, List.length_take]; rfl)) ?_; (with_reducible refine (cents_told.calls t139 t142 t143 _ A6.out).mono ?_); rintro e w' ⟨rfl, ⟨nd, rfl⟩⟩; refine ⟨_, rfl, ?_⟩))
      go_ret2
      exact ⟨by first | rfl | (simp [errW_none, errW_some] <;> rfl) | (simp [*, errW_none, errW_some] <;> rfl), by repeat (first | (with_reducible first | exact HB.out | apply below_alloc | apply pw_below_drewN | apply below_drew1) | exact HB.out)⟩
  · rw [if_neg c5] at H
    have c5b0 : (t141 == 0) = false := beq_eq_false_iff_ne.mpr c5
    have c5b1 : (t141 != 0) = true := bne_iff_ne.mpr c5
    simp only [Option.some.injEq, Prod.mk.injEq] at H
    obtain ⟨rfl, rfl⟩ := H
    go_enter Try.func37, Try.ntmps37
    go_wp2_with (first | ((with_reducible refine gate_callee (f := 100) rfl ?_); refine goesL_ (some 17) rfl rfl Try.func100 (by kernel_rfl) rfl #[.int .i64 a0, .int .i64 a1, .int .i64 a2] rfl (by (try simp only [List.map_toArray, List.map_cons, List.map_nil]); first | done | rfl | (simp only [List.length_drop, List.length_take]; rfl)) ?_; (with_reducible refine (cents_divided.calls k a0 a1 a2 t139 t140 t141 _ A4.out).mono ?_); rintro e w10 ⟨rfl, hb⟩; refine ⟨_, rfl, ?_⟩; have n0_ := Aside0.mk (below_step (by repeat (first | (with_reducible first | exact HB.out | apply below_alloc | apply pw_below_drewN | apply below_drew1) | exact HB.out)) hb); clear HB; have HB := n0_; clear n0_; (try clear hb); (try clear hb2); (try clear hk); (try clear hi)))
    go_ret2
    exact ⟨by first | rfl | (simp [errW_none, errW_some] <;> rfl) | (simp [*, errW_none, errW_some] <;> rfl), by repeat (first | (with_reducible first | exact HB.out | apply below_alloc | apply pw_below_drewN | apply below_drew1) | exact HB.out)⟩

end Go.Proofs.Ytefhljhpcpajgaa.F

namespace Go.Proofs.Ytefhljhpcpajgaa.F
open Go.RowKit Go.Proofs.YtefhljhpcpajgaaX Go.Proofs.YtefhljhpcpajgaaW.PrintWords Go.Proofs.YtefhljhpcpajgaaW.PrintLast Go.Proofs.YtefhljhpcpajgaaW.PrintMore
attribute [local go_sem] max2_int min2_int max_two min_two max_three min_three max_four min_four   -- for this text's walks alone
set_option linter.unusedVariables false
set_option linter.unusedSimpArgs false

/-! ### backhaulref02_may: function 101 -/
def backhaulref02_may.f (a0 : Int) (a1 : Int) (a2 : Int) : Option (Int) := if a2 < 1 then (some 2) else (if a0 < 0 then (some 8) else (if a1 < 0 then (some 8) else (if a0 > 1000000000000 then (some 8) else (if a1 > 1000000000000 then (some 8) else (if a2 > 1000000000000 then (some 8) else (some 0))))))
set_option maxHeartbeats 8000000 in
set_option maxRecDepth 100000 in
theorem backhaulref02_may.calls (a0 : Int) (a1 : Int) (a2 : Int) (r : Int) (w : World) (h : backhaulref02_may.f a0 a1 a2 = some r) :
    Calls Try.prog 101 #[.int .i64 a0, .int .i64 a1, .int .i64 a2] w fun e w' => e = .returned (.int .i64 r) ∧ Drawn0 w w' := by
  have H : (if a2 < 1 then (some 2) else (if a0 < 0 then (some 8) else (if a1 < 0 then (some 8) else (if a0 > 1000000000000 then (some 8) else (if a1 > 1000000000000 then (some 8) else (if a2 > 1000000000000 then (some 8) else (some 0))))))) = some r := h
  clear h
  by_cases c4 : a2 < 1
  · rw [if_pos c4] at H
    have c4b0 : decide (a2 < 1) = true := decide_eq_true c4
    clear c4
    obtain rfl := Option.some.inj H
    go_enter Try.func101, Try.ntmps101
    go_wp2
    go_ret
    exact ⟨by first | rfl | (simp; done) | (simp [*]; done), by repeat (first | exact Drawn0.refl _ | apply Drawn0.step)⟩
  · rw [if_neg c4] at H
    have c4b0 : decide (a2 < 1) = false := decide_eq_false c4
    clear c4
    by_cases c5 : a0 < 0
    · rw [if_pos c5] at H
      have c5b0 : decide (a0 < 0) = true := decide_eq_true c5
      clear c5
      obtain rfl := Option.some.inj H
      go_enter Try.func101, Try.ntmps101
      go_wp2
      go_ret
      exact ⟨by first | rfl | (simp; done) | (simp [*]; done), by repeat (first | exact Drawn0.refl _ | apply Drawn0.step)⟩
    · rw [if_neg c5] at H
      have c5b0 : decide (a0 < 0) = false := decide_eq_false c5
      clear c5
      by_cases c6 : a1 < 0
      · rw [if_pos c6] at H
        have c6b0 : decide (a1 < 0) = true := decide_eq_true c6
        clear c6
        obtain rfl := Option.some.inj H
        go_enter Try.func101, Try.ntmps101
        go_wp2
        go_ret
        exact ⟨by first | rfl | (simp; done) | (simp [*]; done), by repeat (first | exact Drawn0.refl _ | apply Drawn0.step)⟩
      · rw [if_neg c6] at H
        have c6b0 : decide (a1 < 0) = false := decide_eq_false c6
        clear c6
        by_cases c7 : a0 > 1000000000000
        · rw [if_pos c7] at H
          have c7b0 : decide (1000000000000 < a0) = true := decide_eq_true c7
          clear c7
          obtain rfl := Option.some.inj H
          go_enter Try.func101, Try.ntmps101
          go_wp2
          go_ret
          exact ⟨by first | rfl | (simp; done) | (simp [*]; done), by repeat (first | exact Drawn0.refl _ | apply Drawn0.step)⟩
        · rw [if_neg c7] at H
          have c7b0 : decide (1000000000000 < a0) = false := decide_eq_false c7
          clear c7
          by_cases c8 : a1 > 1000000000000
          · rw [if_pos c8] at H
            have c8b0 : decide (1000000000000 < a1) = true := decide_eq_true c8
            clear c8
            obtain rfl := Option.some.inj H
            go_enter Try.func101, Try.ntmps101
            go_wp2
            go_ret
            exact ⟨by first | rfl | (simp; done) | (simp [*]; done), by repeat (first | exact Drawn0.refl _ | apply Drawn0.step)⟩
          · rw [if_neg c8] at H
            have c8b0 : decide (1000000000000 < a1) = false := decide_eq_false c8
            clear c8
            by_cases c9 : a2 > 1000000000000
            · rw [if_pos c9] at H
              have c9b0 : decide (1000000000000 < a2) = true := decide_eq_true c9
              clear c9
              obtain rfl := Option.some.inj H
              go_enter Try.func101, Try.ntmps101
              go_wp2
              go_ret
              exact ⟨by first | rfl | (simp; done) | (simp [*]; done), by repeat (first | exact Drawn0.refl _ | apply Drawn0.step)⟩
            · rw [if_neg c9] at H
              have c9b0 : decide (1000000000000 < a2) = false := decide_eq_false c9
              clear c9
              obtain rfl := Option.some.inj H
              go_enter Try.func101, Try.ntmps101
              go_wp2
              go_ret
              exact ⟨by first | rfl | (simp; done) | (simp [*]; done), by repeat (first | exact Drawn0.refl _ | apply Drawn0.step)⟩

end Go.Proofs.Ytefhljhpcpajgaa.F

namespace Go.Proofs.Ytefhljhpcpajgaa.F
open Go.RowKit Go.Proofs.YtefhljhpcpajgaaX Go.Proofs.YtefhljhpcpajgaaW.PrintWords Go.Proofs.YtefhljhpcpajgaaW.PrintLast Go.Proofs.YtefhljhpcpajgaaW.PrintMore
attribute [local go_sem] max2_int min2_int max_two min_two max_three min_three max_four min_four   -- for this text's walks alone
set_option linter.unusedVariables false
set_option linter.unusedSimpArgs false

/-! ### backhaulref02_Div: function 102 -/
mutual
def backhaulref02_Div.l0 : Nat → Int → Int → Int → Int → Int → Int → Option (Int × Int)
  | 0, _, _, _, _, _, _ => none
  | k + 1, x0, x1, x2, x8, x9, x10 => if x10 ≥ 0 then (if 0 ≤ (IntKind.u64.wrap (x10)) then (if (Int.tmod (shr .i64 x1 (IntKind.u64.wrap (x10))) 2) = 1 then (if x2 = 0 then (none) else (backhaulref02_Div.j1 k x0 x1 x2 (wrap64 ((wrap64 (2 * x8)) + (wrap64 (Int.tdiv x0 x2)))) (wrap64 ((wrap64 (2 * x9)) + (Int.tmod x0 x2))) x10)) else (backhaulref02_Div.j1 k x0 x1 x2 (wrap64 (2 * x8)) (wrap64 (2 * x9)) x10)) else (none)) else (some (x8, x9))
def backhaulref02_Div.j1 : Nat → Int → Int → Int → Int → Int → Int → Option (Int × Int)
  | 0, _, _, _, _, _, _ => none
  | k + 1, x0, x1, x2, x8, x9, x10 => backhaulref02_Div.l1 k x0 x1 x2 x8 x9 x10
def backhaulref02_Div.l1 : Nat → Int → Int → Int → Int → Int → Int → Option (Int × Int)
  | 0, _, _, _, _, _, _ => none
  | k + 1, x0, x1, x2, x8, x9, x10 => if x9 ≥ x2 then (backhaulref02_Div.l1 k x0 x1 x2 (wrap64 (x8 + 1)) (wrap64 (x9 - x2)) x10) else (if x8 > 4000000000000 then (some ((-1), 0)) else (backhaulref02_Div.l0 k x0 x1 x2 x8 x9 (wrap64 (x10 - 1))))
end
def backhaulref02_Div.f (k : Nat) (a0 : Int) (a1 : Int) (a2 : Int) : Option (Int × Int) := backhaulref02_Div.l0 k a0 a1 a2 0 0 40
theorem backhaulref02_Div.mono_l : ∀ k, (∀ y0 y1 y2 y3 y4 y5, LeO (backhaulref02_Div.l0 k y0 y1 y2 y3 y4 y5) (backhaulref02_Div.l0 (k + 1) y0 y1 y2 y3 y4 y5)) ∧ (∀ y0 y1 y2 y3 y4 y5, LeO (backhaulref02_Div.j1 k y0 y1 y2 y3 y4 y5) (backhaulref02_Div.j1 (k + 1) y0 y1 y2 y3 y4 y5)) ∧ (∀ y0 y1 y2 y3 y4 y5, LeO (backhaulref02_Div.l1 k y0 y1 y2 y3 y4 y5) (backhaulref02_Div.l1 (k + 1) y0 y1 y2 y3 y4 y5))
  | 0 => ⟨fun _ _ _ _ _ _ r h => by simp [backhaulref02_Div.l0] at h, fun _ _ _ _ _ _ r h => by simp [backhaulref02_Div.j1] at h, fun _ _ _ _ _ _ r h => by simp [backhaulref02_Div.l1] at h⟩
  | k + 1 => by
    obtain ⟨ih0, ih1, ih2⟩ := backhaulref02_Div.mono_l k
    refine ⟨?_, ?_, ?_⟩
    · intro y0 y1 y2 y3 y4 y5
      unfold backhaulref02_Div.l0
      repeat' first
      | (with_reducible exact ih0 _ _ _ _ _ _)
      | (with_reducible exact ih1 _ _ _ _ _ _)
      | (with_reducible exact ih2 _ _ _ _ _ _)
      | (with_reducible exact LeO.refl _)
      | (with_reducible exact LeO.none _)
      | (with_reducible refine LeO.ite ?_ ?_)
      | (with_reducible refine LeO.bind ?_ (fun _ => ?_))
      | exact ih0 _ _ _ _ _ _
      | exact ih1 _ _ _ _ _ _
      | exact ih2 _ _ _ _ _ _
      | exact LeO.none _
      | refine LeO.ite ?_ ?_
      | refine LeO.bind ?_ (fun _ => ?_)
    · intro y0 y1 y2 y3 y4 y5
      unfold backhaulref02_Div.j1
      repeat' first
      | (with_reducible exact ih0 _ _ _ _ _ _)
      | (with_reducible exact ih1 _ _ _ _ _ _)
      | (with_reducible exact ih2 _ _ _ _ _ _)
      | (with_reducible exact LeO.refl _)
      | (with_reducible exact LeO.none _)
      | (with_reducible refine LeO.ite ?_ ?_)
      | (with_reducible refine LeO.bind ?_ (fun _ => ?_))
      | exact ih0 _ _ _ _ _ _
      | exact ih1 _ _ _ _ _ _
      | exact ih2 _ _ _ _ _ _
      | exact LeO.none _
      | refine LeO.ite ?_ ?_
      | refine LeO.bind ?_ (fun _ => ?_)
    · intro y0 y1 y2 y3 y4 y5
      unfold backhaulref02_Div.l1
      repeat' first
      | (with_reducible exact ih0 _ _ _ _ _ _)
      | (with_reducible exact ih1 _ _ _ _ _ _)
      | (with_reducible exact ih2 _ _ _ _ _ _)
      | (with_reducible exact LeO.refl _)
      | (with_reducible exact LeO.none _)
      | (with_reducible refine LeO.ite ?_ ?_)
      | (with_reducible refine LeO.bind ?_ (fun _ => ?_))
      | exact ih0 _ _ _ _ _ _
      | exact ih1 _ _ _ _ _ _
      | exact ih2 _ _ _ _ _ _
      | exact LeO.none _
      | refine LeO.ite ?_ ?_
      | refine LeO.bind ?_ (fun _ => ?_)
theorem backhaulref02_Div.mono : ∀ a0 a1 a2 k, LeO (backhaulref02_Div.f k a0 a1 a2) (backhaulref02_Div.f (k + 1) a0 a1 a2) := by
  intro a0 a1 a2 k
  obtain ⟨ih0, ih1, ih2⟩ := backhaulref02_Div.mono_l k
  unfold backhaulref02_Div.f
  repeat' first
      | (with_reducible exact ih0 _ _ _ _ _ _)
      | (with_reducible exact ih1 _ _ _ _ _ _)
      | (with_reducible exact ih2 _ _ _ _ _ _)
      | (with_reducible exact LeO.refl _)
      | (with_reducible exact LeO.none _)
      | (with_reducible refine LeO.ite ?_ ?_)
      | (with_reducible refine LeO.bind ?_ (fun _ => ?_))
      | exact ih0 _ _ _ _ _ _
      | exact ih1 _ _ _ _ _ _
      | exact ih2 _ _ _ _ _ _
      | exact LeO.none _
      | refine LeO.ite ?_ ?_
      | refine LeO.bind ?_ (fun _ => ?_)
set_option maxHeartbeats 8000000 in
set_option maxRecDepth 100000 in
theorem backhaulref02_Div.calls (k : Nat) (a0 : Int) (a1 : Int) (a2 : Int) (r1 : Int) (r2 : Int) (w : World) (h : backhaulref02_Div.f k a0 a1 a2 = some (r1, r2)) :
    Calls Try.prog 102 #[.int .i64 a0, .int .i64 a1, .int .i64 a2] w fun e w' => e = .returned (.tuple #[.int .i64 r1, .int .i64 r2]) ∧ Drawn0 w w' := by
  have H : (backhaulref02_Div.l0 k a0 a1 a2 0 0 40) = some (r1, r2) := h
  clear h
  have H' := Aside0.mk H
  clear H
  go_enter Try.func102, Try.ntmps102
  go_wp2
  go_loopg [8, 9, 10] k (fun kq v8 v9 v10 w' => ∃ (x8_1 : Int) (x9_1 : Int) (x10_1 : Int), v8 = .int .i64 x8_1 ∧ v9 = .int .i64 x9_1 ∧ v10 = .int .i64 x10_1 ∧ Aside0 (backhaulref02_Div.l0 kq a0 a1 a2 x8_1 x9_1 x10_1 = some (r1, r2)) ∧ Aside0 (kq ≤ k) ∧ Drawn0 w w')
  case atStart => exact ⟨(0), (0), (40), (by first | rfl | (simp; done) | (simp [*]; done)), (by first | rfl | (simp; done) | (simp [*]; done)), (by first | rfl | (simp; done) | (simp [*]; done)), H', ⟨Nat.le_refl _⟩, by repeat (first | exact Drawn0.refl _ | apply Drawn0.step)⟩
  case round =>
    clear H'
    try clear c1
    try clear p2
    obtain ⟨x8_1, x9_1, x10_1, rfl, rfl, rfl, HA, HK1, ⟨m1, rfl⟩⟩ := hrel
    cases gk with
    | zero => exact absurd HA.out (by simp [backhaulref02_Div.l0])
    | succ k1 =>
      have H := HA.out
      clear HA
      simp only [backhaulref02_Div.l0] at H
      by_cases c4 : x10_1 ≥ 0
      · rw [if_pos c4] at H
        have c4b0 : decide (0 ≤ x10_1) = true := decide_eq_true c4
        clear c4
        obtain ⟨ji5, hji5⟩ : ∃ j_ : Int, (IntKind.u64.wrap (x10_1)) = j_ := ⟨_, rfl⟩
        replace H : (if 0 ≤ (ji5) then (if (Int.tmod (shr .i64 a1 (ji5)) 2) = 1 then (if a2 = 0 then (none) else (backhaulref02_Div.j1 k1 a0 a1 a2 (wrap64 ((wrap64 (2 * x8_1)) + (wrap64 (Int.tdiv a0 a2)))) (wrap64 ((wrap64 (2 * x9_1)) + (Int.tmod a0 a2))) x10_1)) else (backhaulref02_Div.j1 k1 a0 a1 a2 (wrap64 (2 * x8_1)) (wrap64 (2 * x9_1)) x10_1)) else (none)) = some (r1, r2) := by first | (rw [hji5] at H; exact H) | (simp only [hji5] at H ⊢; exact H)
        by_cases c6 : 0 ≤ (ji5)
        · rw [if_pos c6] at H
          have c6b0 := eq_true c6
          have c6b1 : decide (0 ≤ (ji5)) = true := decide_eq_true c6
          clear c6
          obtain ⟨ji7, hji7⟩ : ∃ j_ : Int, (shr .i64 a1 (ji5)) = j_ := ⟨_, rfl⟩
          replace H : (if (Int.tmod (ji7) 2) = 1 then (if a2 = 0 then (none) else (backhaulref02_Div.j1 k1 a0 a1 a2 (wrap64 ((wrap64 (2 * x8_1)) + (wrap64 (Int.tdiv a0 a2)))) (wrap64 ((wrap64 (2 * x9_1)) + (Int.tmod a0 a2))) x10_1)) else (backhaulref02_Div.j1 k1 a0 a1 a2 (wrap64 (2 * x8_1)) (wrap64 (2 * x9_1)) x10_1)) = some (r1, r2) := by first | (rw [hji7] at H; exact H) | (simp only [hji7] at H ⊢; exact H)
          have hji7_ : (a1 / 2 ^ min (ji5).toNat 64) = ji7 := hji7
          have hji7z : (ji5) ≤ 64 → (a1 / 2 ^ (ji5).toNat) = ji7 := shr_small hji7
          have HC8 := Aside0.mk H
          clear H
          go_upto_if 24 with (fail)
          go_cut [8, 9] (fun v8 v9 wc => ∃ (kq : Nat) (x8_7 : Int) (x9_7 : Int), v8 = .int .i64 x8_7 ∧ v9 = .int .i64 x9_7 ∧ Aside0 (backhaulref02_Div.j1 kq a0 a1 a2 x8_7 x9_7 x10_1 = some (r1, r2)) ∧ Aside0 (kq ≤ k1) ∧ Drawn0 w wc)
          case first =>
            have H := HC8.out
            clear HC8
            by_cases c9 : (Int.tmod (ji7) 2) = 1
            · rw [if_pos c9] at H
              have c9b0 : ((Int.tmod (ji7) 2) == 1) = true := beq_iff_eq.mpr c9
              have c9b1 : ((Int.tmod (ji7) 2) != 1) = false := bne_eq_false_iff_eq.mpr c9
              clear c9
              (first | rw [c9b0] | (simp only [i64_w, i32_w]; rw [c9b0]) | skip)
              by_cases c10 : a2 = 0
              · rw [if_pos c10] at H
                exact absurd H (by simp)
              · rw [if_neg c10] at H
                have c10b0 : (a2 == 0) = false := beq_eq_false_iff_ne.mpr c10
                have c10b1 : (a2 != 0) = true := bne_iff_ne.mpr c10
                have H' := Aside0.mk H
                clear H
                go_wp2
                go_meet
                case rel => exact ⟨_, (wrap64 ((wrap64 (2 * x8_1)) + (wrap64 (Int.tdiv a0 a2)))), (wrap64 ((wrap64 (2 * x9_1)) + (Int.tmod a0 a2))), (by first | rfl | (simp; done) | (simp [*]; done)), (by first | rfl | (simp; done) | (simp [*]; done)), H', ⟨by have := HK1.out; first | omega | exact Nat.le_refl _⟩, by repeat (first | exact Drawn0.refl _ | apply Drawn0.step)⟩
            · rw [if_neg c9] at H
              have c9b0 : ((Int.tmod (ji7) 2) == 1) = false := beq_eq_false_iff_ne.mpr c9
              have c9b1 : ((Int.tmod (ji7) 2) != 1) = true := bne_iff_ne.mpr c9
              (first | rw [c9b0] | (simp only [i64_w, i32_w]; rw [c9b0]) | skip)
              have H' := Aside0.mk H
              clear H
              go_wp2
              go_meet
              case rel => exact ⟨_, (wrap64 (2 * x8_1)), (wrap64 (2 * x9_1)), (by first | rfl | (simp; done) | (simp [*]; done)), (by first | rfl | (simp; done) | (simp [*]; done)), H', ⟨by have := HK1.out; first | omega | exact Nat.le_refl _⟩, by repeat (first | exact Drawn0.refl _ | apply Drawn0.step)⟩
          case rest =>
            clear HC8
            try clear c1
            try clear p2
            try clear c4
            try clear c4b0
            try clear c6
            try clear c6b0
            try clear c6b1
            try clear p6
            try clear c9
            try clear c9b0
            try clear c9b1
            try clear c10
            try clear c10b0
            try clear c10b1
            try clear p2
            obtain ⟨kq, x8_7, x9_7, rfl, rfl, HA, HJ7, ⟨mc7, rfl⟩⟩ := hcut
            cases kq with
            | zero => exact absurd HA.out (by simp [backhaulref02_Div.j1])
            | succ kj7 =>
              have H := HA.out
              clear HA
              simp only [backhaulref02_Div.j1] at H
              have H' := Aside0.mk H
              clear H
              go_wp2
              go_loopg [8, 9] kj7 (fun kq v8 v9 w' => ∃ (x8_3 : Int) (x9_3 : Int), v8 = .int .i64 x8_3 ∧ v9 = .int .i64 x9_3 ∧ Aside0 (backhaulref02_Div.l1 kq a0 a1 a2 x8_3 x9_3 x10_1 = some (r1, r2)) ∧ Aside0 (kq ≤ kj7) ∧ Drawn0 w w')
              case atStart => exact ⟨(x8_7), (x9_7), (by first | rfl | (simp; done) | (simp [*]; done)), (by first | rfl | (simp; done) | (simp [*]; done)), H', ⟨Nat.le_refl _⟩, by repeat (first | exact Drawn0.refl _ | apply Drawn0.step)⟩
              case round =>
                clear H'
                try clear c1
                try clear p2
                try clear c4
                try clear c4b0
                try clear c6
                try clear c6b0
                try clear c6b1
                try clear p6
                try clear c7
                try clear c9
                try clear c9b0
                try clear c9b1
                try clear c10
                try clear c10b0
                try clear c10b1
                try clear p2
                try clear p6
                obtain ⟨x8_3, x9_3, rfl, rfl, HA, HK3, ⟨m3, rfl⟩⟩ := hrel
                cases gk with
                | zero => exact absurd HA.out (by simp [backhaulref02_Div.l1])
                | succ k3 =>
                  have H := HA.out
                  clear HA
                  simp only [backhaulref02_Div.l1] at H
                  by_cases c11 : x9_3 ≥ a2
                  · rw [if_pos c11] at H
                    have c11b0 : decide (a2 ≤ x9_3) = true := decide_eq_true c11
                    clear c11
                    have H' := Aside0.mk H
                    clear H
                    go_wp2
                    go_roundg k3
                    case measure => have := HK1.out; have := HJ7.out; have := HK3.out; omega
                    case rel => exact ⟨(wrap64 (x8_3 + 1)), (wrap64 (x9_3 - a2)), (by first | rfl | (simp; done) | (simp [*]; done)), (by first | rfl | (simp; done) | (simp [*]; done)), H', ⟨by have := HK1.out; have := HJ7.out; have := HK3.out; omega⟩, by repeat (first | exact Drawn0.refl _ | apply Drawn0.step)⟩
                  · rw [if_neg c11] at H
                    have c11b0 : decide (a2 ≤ x9_3) = false := decide_eq_false c11
                    clear c11
                    by_cases c12 : x8_3 > 4000000000000
                    · rw [if_pos c12] at H
                      have c12b0 : decide (4000000000000 < x8_3) = true := decide_eq_true c12
                      clear c12
                      simp only [Option.some.injEq, Prod.mk.injEq] at H
                      obtain ⟨rfl, rfl⟩ := H
                      go_wp2
                      go_ret2
                      exact ⟨by first | rfl | (simp; done) | (simp only [← hji5, ← hji7] <;> (first | rfl | simp)) | (simp [*]; done), by repeat (first | exact Drawn0.refl _ | apply Drawn0.step)⟩
                    · rw [if_neg c12] at H
                      have c12b0 : decide (4000000000000 < x8_3) = false := decide_eq_false c12
                      clear c12
                      have H' := Aside0.mk H
                      clear H
                      go_wp2
                      go_roundg k3
                      case measure => have := HK1.out; have := HJ7.out; have := HK3.out; omega
                      case rel => exact ⟨(x8_3), (x9_3), (wrap64 (x10_1 - 1)), (by first | rfl | (simp; done) | (simp [*]; done)), (by first | rfl | (simp; done) | (simp [*]; done)), (by first | rfl | (simp; done) | (simp [*]; done)), H', ⟨by have := HK1.out; have := HJ7.out; have := HK3.out; omega⟩, by repeat (first | exact Drawn0.refl _ | apply Drawn0.step)⟩
        · rw [if_neg c6] at H
          exact absurd H (by simp)
      · rw [if_neg c4] at H
        have c4b0 : decide (0 ≤ x10_1) = false := decide_eq_false c4
        clear c4
        simp only [Option.some.injEq, Prod.mk.injEq] at H
        obtain ⟨rfl, rfl⟩ := H
        go_wp2
        go_ret2
        exact ⟨by first | rfl | (simp; done) | (simp [*]; done), by repeat (first | exact Drawn0.refl _ | apply Drawn0.step)⟩

end Go.Proofs.Ytefhljhpcpajgaa.F

namespace Go.Proofs.Ytefhljhpcpajgaa.F
open Go.RowKit Go.Proofs.YtefhljhpcpajgaaX Go.Proofs.YtefhljhpcpajgaaW.PrintWords Go.Proofs.YtefhljhpcpajgaaW.PrintLast Go.Proofs.YtefhljhpcpajgaaW.PrintMore
attribute [local go_sem] max2_int min2_int max_two min_two max_three min_three max_four min_four   -- for this text's walks alone
set_option linter.unusedVariables false
set_option linter.unusedSimpArgs false

/-! ### backhaulref02_Floor: function 34 -/
def backhaulref02_Floor.f (k : Nat) (a0 : Int) (a1 : Int) (a2 : Int) : Option (Int × Int) := (backhaulref02_may.f a0 a1 a2).bind fun t192 => (if t192 = 0 then ((backhaulref02_Div.f k a0 a1 a2).bind fun bt193 => (if bt193.1 < 0 then (some (0, 8)) else (if bt193.1 > 1000000000000 then (some (0, 8)) else (some (bt193.1, 0))))) else (some (0, t192)))
theorem backhaulref02_Floor.mono : ∀ a0 a1 a2 k, LeO (backhaulref02_Floor.f k a0 a1 a2) (backhaulref02_Floor.f (k + 1) a0 a1 a2) := by
  intro a0 a1 a2 k
  unfold backhaulref02_Floor.f
  repeat' first
      | (with_reducible exact backhaulref02_Div.mono _ _ _ _)
      | (with_reducible exact LeO.refl _)
      | (with_reducible exact LeO.none _)
      | (with_reducible refine LeO.ite ?_ ?_)
      | (with_reducible refine LeO.bind ?_ (fun _ => ?_))
      | exact backhaulref02_Div.mono _ _ _ _
      | exact LeO.none _
      | refine LeO.ite ?_ ?_
      | refine LeO.bind ?_ (fun _ => ?_)
set_option maxHeartbeats 8000000 in
set_option maxRecDepth 100000 in
theorem backhaulref02_Floor.calls (k : Nat) (a0 : Int) (a1 : Int) (a2 : Int) (r1 : Int) (r2 : Int) (w : World) (h : backhaulref02_Floor.f k a0 a1 a2 = some (r1, r2)) :
    Calls Try.prog 34 #[.int .i64 a0, .int .i64 a1, .int .i64 a2] w fun e w' => e = .returned (.tuple #[.int .i64 r1, .int .i64 r2]) ∧ Drawn0 w w' := by
  have H : ((backhaulref02_may.f a0 a1 a2).bind fun t192 => (if t192 = 0 then ((backhaulref02_Div.f k a0 a1 a2).bind fun bt193 => (if bt193.1 < 0 then (some (0, 8)) else (if bt193.1 > 1000000000000 then (some (0, 8)) else (some (bt193.1, 0))))) else (some (0, t192)))) = some (r1, r2) := h
  clear h
  replace H := Option.bind_eq_some_iff.mp H
  obtain ⟨t192, A40, H⟩ := H
  replace H : (if t192 = 0 then ((backhaulref02_Div.f k a0 a1 a2).bind fun bt193 => (if bt193.1 < 0 then (some (0, 8)) else (if bt193.1 > 1000000000000 then (some (0, 8)) else (some (bt193.1, 0))))) else (some (0, t192))) = some (r1, r2) := H
  have A4 := Aside0.mk A40
  clear A40
  by_cases c5 : t192 = 0
  · rw [if_pos c5] at H
    have c5b0 : (t192 == 0) = true := beq_iff_eq.mpr c5
    have c5b1 : (t192 != 0) = false := bne_eq_false_iff_eq.mpr c5
    clear c5
    replace H := Option.bind_eq_some_iff.mp H
    obtain ⟨⟨t193, t194⟩, A60, H⟩ := H
    replace H : (if t193 < 0 then (some (0, 8)) else (if t193 > 1000000000000 then (some (0, 8)) else (some (t193, 0)))) = some (r1, r2) := H
    have A6 := Aside0.mk A60
    clear A60
    by_cases c7 : t193 < 0
    · rw [if_pos c7] at H
      have c7b0 : decide (t193 < 0) = true := decide_eq_true c7
      clear c7
      simp only [Option.some.injEq, Prod.mk.injEq] at H
      obtain ⟨rfl, rfl⟩ := H
      go_enter Try.func34, Try.ntmps34
      go_wp2_with (first | ((with_reducible refine gate_callee (f := 101) rfl ?_); refine goesL_ (some 14) rfl rfl Try.func101 (by kernel_rfl) rfl #[.int .i64 a0, .int .i64 a1, .int .i64 a2] rfl (by (try simp only [List.map_toArray, List.map_cons, List.map_nil]); first | done | rfl | (simp only [List.length_drop, List.length_take]; rfl)) ?_; (with_reducible refine (backhaulref02_may.calls a0 a1 a2 t192 _ A4.out).mono ?_); rintro e w' ⟨rfl, ⟨nd, rfl⟩⟩; refine ⟨_, rfl, ?_⟩) | ((with_reducible refine gate_callee (f := 102) rfl ?_); refine goesL_ (some 22) rfl rfl Try.func102 (by kernel_rfl) rfl #[.int .i64 a0, .int .i64 a1, .int .i64 a2] rfl (by (try simp only [List.map_toArray, List.map_cons, List.map_nil]); first | done | rfl | (simp only [List.length_drop, List.length_take]; rfl)) ?_; (with_reducible refine (backhaulref02_Div.calls k a0 a1 a2 t193 t194 _ A6.out).mono ?_); rintro e w' ⟨rfl, ⟨nd, rfl⟩⟩; refine ⟨_, rfl, ?_⟩))
      go_ret2
      exact ⟨by first | rfl | (simp; done) | (simp [*]; done), by repeat (first | exact Drawn0.refl _ | apply Drawn0.step)⟩
    · rw [if_neg c7] at H
      have c7b0 : decide (t193 < 0) = false := decide_eq_false c7
      clear c7
      by_cases c8 : t193 > 1000000000000
      · rw [if_pos c8] at H
        have c8b0 : decide (1000000000000 < t193) = true := decide_eq_true c8
        clear c8
        simp only [Option.some.injEq, Prod.mk.injEq] at H
        obtain ⟨rfl, rfl⟩ := H
        go_enter Try.func34, Try.ntmps34
        go_wp2_with (first | ((with_reducible refine gate_callee (f := 101) rfl ?_); refine goesL_ (some 14) rfl rfl Try.func101 (by kernel_rfl) rfl #[.int .i64 a0, .int .i64 a1, .int .i64 a2] rfl (by (try simp only [List.map_toArray, List.map_cons, List.map_nil]); first | done | rfl | (simp only [List.length_drop, List.length_take]; rfl)) ?_; (with_reducible refine (backhaulref02_may.calls a0 a1 a2 t192 _ A4.out).mono ?_); rintro e w' ⟨rfl, ⟨nd, rfl⟩⟩; refine ⟨_, rfl, ?_⟩) | ((with_reducible refine gate_callee (f := 102) rfl ?_); refine goesL_ (some 22) rfl rfl Try.func102 (by kernel_rfl) rfl #[.int .i64 a0, .int .i64 a1, .int .i64 a2] rfl (by (try simp only [List.map_toArray, List.map_cons, List.map_nil]); first | done | rfl | (simp only [List.length_drop, List.length_take]; rfl)) ?_; (with_reducible refine (backhaulref02_Div.calls k a0 a1 a2 t193 t194 _ A6.out).mono ?_); rintro e w' ⟨rfl, ⟨nd, rfl⟩⟩; refine ⟨_, rfl, ?_⟩))
        go_ret2
        exact ⟨by first | rfl | (simp; done) | (simp [*]; done), by repeat (first | exact Drawn0.refl _ | apply Drawn0.step)⟩
      · rw [if_neg c8] at H
        have c8b0 : decide (1000000000000 < t193) = false := decide_eq_false c8
        clear c8
        simp only [Option.some.injEq, Prod.mk.injEq] at H
        obtain ⟨rfl, rfl⟩ := H
        go_enter Try.func34, Try.ntmps34
        go_wp2_with (first | ((with_reducible refine gate_callee (f := 101) rfl ?_); refine goesL_ (some 14) rfl rfl Try.func101 (by kernel_rfl) rfl #[.int .i64 a0, .int .i64 a1, .int .i64 a2] rfl (by (try simp only [List.map_toArray, List.map_cons, List.map_nil]); first | done | rfl | (simp only [List.length_drop, List.length_take]; rfl)) ?_; (with_reducible refine (backhaulref02_may.calls a0 a1 a2 t192 _ A4.out).mono ?_); rintro e w' ⟨rfl, ⟨nd, rfl⟩⟩; refine ⟨_, rfl, ?_⟩) | ((with_reducible refine gate_callee (f := 102) rfl ?_); refine goesL_ (some 22) rfl rfl Try.func102 (by kernel_rfl) rfl #[.int .i64 a0, .int .i64 a1, .int .i64 a2] rfl (by (try simp only [List.map_toArray, List.map_cons, List.map_nil]); first | done | rfl | (simp only [List.length_drop, List.length_take]; rfl)) ?_; (with_reducible refine (backhaulref02_Div.calls k a0 a1 a2 t193 t194 _ A6.out).mono ?_); rintro e w' ⟨rfl, ⟨nd, rfl⟩⟩; refine ⟨_, rfl, ?_⟩))
        go_ret2
        exact ⟨by first | rfl | (simp; done) | (simp [*]; done), by repeat (first | exact Drawn0.refl _ | apply Drawn0.step)⟩
  · rw [if_neg c5] at H
    have c5b0 : (t192 == 0) = false := beq_eq_false_iff_ne.mpr c5
    have c5b1 : (t192 != 0) = true := bne_iff_ne.mpr c5
    simp only [Option.some.injEq, Prod.mk.injEq] at H
    obtain ⟨rfl, rfl⟩ := H
    go_enter Try.func34, Try.ntmps34
    go_wp2_with (first | ((with_reducible refine gate_callee (f := 101) rfl ?_); refine goesL_ (some 14) rfl rfl Try.func101 (by kernel_rfl) rfl #[.int .i64 a0, .int .i64 a1, .int .i64 a2] rfl (by (try simp only [List.map_toArray, List.map_cons, List.map_nil]); first | done | rfl | (simp only [List.length_drop, List.length_take]; rfl)) ?_; (with_reducible refine (backhaulref02_may.calls a0 a1 a2 t192 _ A4.out).mono ?_); rintro e w' ⟨rfl, ⟨nd, rfl⟩⟩; refine ⟨_, rfl, ?_⟩))
    go_ret2
    exact ⟨by first | rfl | (simp; done) | (simp [*]; done), by repeat (first | exact Drawn0.refl _ | apply Drawn0.step)⟩

end Go.Proofs.Ytefhljhpcpajgaa.F

namespace Go.Proofs.Ytefhljhpcpajgaa.F
open Go.RowKit Go.Proofs.YtefhljhpcpajgaaX Go.Proofs.YtefhljhpcpajgaaW.PrintWords Go.Proofs.YtefhljhpcpajgaaW.PrintLast Go.Proofs.YtefhljhpcpajgaaW.PrintMore
attribute [local go_sem] max2_int min2_int max_two min_two max_three min_three max_four min_four   -- for this text's walks alone
set_option linter.unusedVariables false
set_option linter.unusedSimpArgs false

/-! ### backhaulref02_Half: function 36 -/
def backhaulref02_Half.f (k : Nat) (a0 : Int) (a1 : Int) (a2 : Int) : Option (Int × Int) := (backhaulref02_may.f a0 a1 a2).bind fun t195 => (if t195 = 0 then ((backhaulref02_Div.f k a0 a1 a2).bind fun bt196 => (if (wrap64 (2 * bt196.2)) ≥ a2 then (if (wrap64 (bt196.1 + 1)) < 1 then (if (wrap64 (bt196.1 + 1)) = 0 then (if (wrap64 (bt196.1 + 1)) > 1000000000000 then (some (0, 8)) else (some (wrap64 (bt196.1 + 1), 0))) else (some (0, 8))) else (if (wrap64 (bt196.1 + 1)) > 1000000000000 then (some (0, 8)) else (some (wrap64 (bt196.1 + 1), 0)))) else (if bt196.1 < 1 then (if bt196.1 = 0 then (if bt196.1 > 1000000000000 then (some (0, 8)) else (some (bt196.1, 0))) else (some (0, 8))) else (if bt196.1 > 1000000000000 then (some (0, 8)) else (some (bt196.1, 0)))))) else (some (0, t195)))
theorem backhaulref02_Half.mono : ∀ a0 a1 a2 k, LeO (backhaulref02_Half.f k a0 a1 a2) (backhaulref02_Half.f (k + 1) a0 a1 a2) := by
  intro a0 a1 a2 k
  unfold backhaulref02_Half.f
  repeat' first
      | (with_reducible exact backhaulref02_Div.mono _ _ _ _)
      | (with_reducible exact LeO.refl _)
      | (with_reducible exact LeO.none _)
      | (with_reducible refine LeO.ite ?_ ?_)
      | (with_reducible refine LeO.bind ?_ (fun _ => ?_))
      | exact backhaulref02_Div.mono _ _ _ _
      | exact LeO.none _
      | refine LeO.ite ?_ ?_
      | refine LeO.bind ?_ (fun _ => ?_)
set_option maxHeartbeats 8000000 in
set_option maxRecDepth 100000 in
theorem backhaulref02_Half.calls (k : Nat) (a0 : Int) (a1 : Int) (a2 : Int) (r1 : Int) (r2 : Int) (w : World) (h : backhaulref02_Half.f k a0 a1 a2 = some (r1, r2)) :
    Calls Try.prog 36 #[.int .i64 a0, .int .i64 a1, .int .i64 a2] w fun e w' => e = .returned (.tuple #[.int .i64 r1, .int .i64 r2]) ∧ Drawn0 w w' := by
  have H : ((backhaulref02_may.f a0 a1 a2).bind fun t195 => (if t195 = 0 then ((backhaulref02_Div.f k a0 a1 a2).bind fun bt196 => (if (wrap64 (2 * bt196.2)) ≥ a2 then (if (wrap64 (bt196.1 + 1)) < 1 then (if (wrap64 (bt196.1 + 1)) = 0 then (if (wrap64 (bt196.1 + 1)) > 1000000000000 then (some (0, 8)) else (some (wrap64 (bt196.1 + 1), 0))) else (some (0, 8))) else (if (wrap64 (bt196.1 + 1)) > 1000000000000 then (some (0, 8)) else (some (wrap64 (bt196.1 + 1), 0)))) else (if bt196.1 < 1 then (if bt196.1 = 0 then (if bt196.1 > 1000000000000 then (some (0, 8)) else (some (bt196.1, 0))) else (some (0, 8))) else (if bt196.1 > 1000000000000 then (some (0, 8)) else (some (bt196.1, 0)))))) else (some (0, t195)))) = some (r1, r2) := h
  clear h
  replace H := Option.bind_eq_some_iff.mp H
  obtain ⟨t195, A40, H⟩ := H
  replace H : (if t195 = 0 then ((backhaulref02_Div.f k a0 a1 a2).bind fun bt196 => (if (wrap64 (2 * bt196.2)) ≥ a2 then (if (wrap64 (bt196.1 + 1)) < 1 then (if (wrap64 (bt196.1 + 1)) = 0 then (if (wrap64 (bt196.1 + 1)) > 1000000000000 then (some (0, 8)) else (some (wrap64 (bt196.1 + 1), 0))) else (some (0, 8))) else (if (wrap64 (bt196.1 + 1)) > 1000000000000 then (some (0, 8)) else (some (wrap64 (bt196.1 + 1), 0)))) else (if bt196.1 < 1 then (if bt196.1 = 0 then (if bt196.1 > 1000000000000 then (some (0, 8)) else (some (bt196.1, 0))) else (some (0, 8))) else (if bt196.1 > 1000000000000 then (some (0, 8)) else (some (bt196.1, 0)))))) else (some (0, t195))) = some (r1, r2) := H
  have A4 := Aside0.mk A40
  clear A40
  by_cases c5 : t195 = 0
  · rw [if_pos c5] at H
    have c5b0 : (t195 == 0) = true := beq_iff_eq.mpr c5
    have c5b1 : (t195 != 0) = false := bne_eq_false_iff_eq.mpr c5
    clear c5
    replace H := Option.bind_eq_some_iff.mp H
    obtain ⟨⟨t196, t197⟩, A60, H⟩ := H
    replace H : (if (wrap64 (2 * t197)) ≥ a2 then (if (wrap64 (t196 + 1)) < 1 then (if (wrap64 (t196 + 1)) = 0 then (if (wrap64 (t196 + 1)) > 1000000000000 then (some (0, 8)) else (some (wrap64 (t196 + 1), 0))) else (some (0, 8))) else (if (wrap64 (t196 + 1)) > 1000000000000 then (some (0, 8)) else (some (wrap64 (t196 + 1), 0)))) else (if t196 < 1 then (if t196 = 0 then (if t196 > 1000000000000 then (some (0, 8)) else (some (t196, 0))) else (some (0, 8))) else (if t196 > 1000000000000 then (some (0, 8)) else (some (t196, 0))))) = some (r1, r2) := H
    have A6 := Aside0.mk A60
    clear A60
    by_cases c7 : (wrap64 (2 * t197)) ≥ a2
    · rw [if_pos c7] at H
      have c7b0 : decide (a2 ≤ (wrap64 (2 * t197))) = true := decide_eq_true c7
      clear c7
      by_cases c8 : (wrap64 (t196 + 1)) < 1
      · rw [if_pos c8] at H
        have c8b0 : decide ((wrap64 (t196 + 1)) < 1) = true := decide_eq_true c8
        clear c8
        by_cases c9 : (wrap64 (t196 + 1)) = 0
        · rw [if_pos c9] at H
          have c9b0 : ((wrap64 (t196 + 1)) == 0) = true := beq_iff_eq.mpr c9
          have c9b1 : ((wrap64 (t196 + 1)) != 0) = false := bne_eq_false_iff_eq.mpr c9
          clear c9
          by_cases c10 : (wrap64 (t196 + 1)) > 1000000000000
          · rw [if_pos c10] at H
            have c10b0 : decide (1000000000000 < (wrap64 (t196 + 1))) = true := decide_eq_true c10
            clear c10
            simp only [Option.some.injEq, Prod.mk.injEq] at H
            obtain ⟨rfl, rfl⟩ := H
            go_enter Try.func36, Try.ntmps36
            go_wp2_with (first | ((with_reducible refine gate_callee (f := 101) rfl ?_); refine goesL_ (some 14) rfl rfl Try.func101 (by kernel_rfl) rfl #[.int .i64 a0, .int .i64 a1, .int .i64 a2] rfl (by (try simp only [List.map_toArray, List.map_cons, List.map_nil]); first | done | rfl | (simp only [List.length_drop, List.length_take]; rfl)) ?_; (with_reducible refine (backhaulref02_may.calls a0 a1 a2 t195 _ A4.out).mono ?_); rintro e w' ⟨rfl, ⟨nd, rfl⟩⟩; refine ⟨_, rfl, ?_⟩) | ((with_reducible refine gate_callee (f := 102) rfl ?_); refine goesL_ (some 22) rfl rfl Try.func102 (by kernel_rfl) rfl #[.int .i64 a0, .int .i64 a1, .int .i64 a2] rfl (by (try simp only [List.map_toArray, List.map_cons, List.map_nil]); first | done | rfl | (simp only [List.length_drop, List.length_take]; rfl)) ?_; (with_reducible refine (backhaulref02_Div.calls k a0 a1 a2 t196 t197 _ A6.out).mono ?_); rintro e w' ⟨rfl, ⟨nd, rfl⟩⟩; refine ⟨_, rfl, ?_⟩))
            go_ret2
            exact ⟨by first | rfl | (simp; done) | (simp [*]; done), by repeat (first | exact Drawn0.refl _ | apply Drawn0.step)⟩
          · rw [if_neg c10] at H
            have c10b0 : decide (1000000000000 < (wrap64 (t196 + 1))) = false := decide_eq_false c10
            clear c10
            simp only [Option.some.injEq, Prod.mk.injEq] at H
            obtain ⟨rfl, rfl⟩ := H
            go_enter Try.func36, Try.ntmps36
            go_wp2_with (first | ((with_reducible refine gate_callee (f := 101) rfl ?_); refine goesL_ (some 14) rfl rfl Try.func101 (by kernel_rfl) rfl #[.int .i64 a0, .int .i64 a1, .int .i64 a2] rfl (by (try simp only [List.map_toArray, List.map_cons, List.map_nil]); first | done | rfl | (simp only [List.length_drop, List.length_take]; rfl)) ?_; (with_reducible refine (backhaulref02_may.calls a0 a1 a2 t195 _ A4.out).mono ?_); rintro e w' ⟨rfl, ⟨nd, rfl⟩⟩; refine ⟨_, rfl, ?_⟩) | ((with_reducible refine gate_callee (f := 102) rfl ?_); refine goesL_ (some 22) rfl rfl Try.func102 (by kernel_rfl) rfl #[.int .i64 a0, .int .i64 a1, .int .i64 a2] rfl (by (try simp only [List.map_toArray, List.map_cons, List.map_nil]); first | done | rfl | (simp only [List.length_drop, List.length_take]; rfl)) ?_; (with_reducible refine (backhaulref02_Div.calls k a0 a1 a2 t196 t197 _ A6.out).mono ?_); rintro e w' ⟨rfl, ⟨nd, rfl⟩⟩; refine ⟨_, rfl, ?_⟩))
            go_ret2
            exact ⟨by first | rfl | (simp; done) | (simp [*]; done), by repeat (first | exact Drawn0.refl _ | apply Drawn0.step)⟩
        · rw [if_neg c9] at H
          have c9b0 : ((wrap64 (t196 + 1)) == 0) = false := beq_eq_false_iff_ne.mpr c9
          have c9b1 : ((wrap64 (t196 + 1)) != 0) = true := bne_iff_ne.mpr c9
          simp only [Option.some.injEq, Prod.mk.injEq] at H
          obtain ⟨rfl, rfl⟩ := H
          go_enter Try.func36, Try.ntmps36
          go_wp2_with (first | ((with_reducible refine gate_callee (f := 101) rfl ?_); refine goesL_ (some 14) rfl rfl Try.func101 (by kernel_rfl) rfl #[.int .i64 a0, .int .i64 a1, .int .i64 a2] rfl (by (try simp only [List.map_toArray, List.map_cons, List.map_nil]); first | done | rfl | (simp only [List.length_drop, List.length_take]; rfl)) ?_; (with_reducible refine (backhaulref02_may.calls a0 a1 a2 t195 _ A4.out).mono ?_); rintro e w' ⟨rfl, ⟨nd, rfl⟩⟩; refine ⟨_, rfl, ?_⟩) | ((with_reducible refine gate_callee (f := 102) rfl ?_); refine goesL_ (some 22) rfl rfl Try.func102 (by kernel_rfl) rfl #[.int .i64 a0, .int .i64 a1, .int .i64 a2] rfl (by (try simp only [List.map_toArray, List.map_cons, List.map_nil]); first | done | rfl | (simp only [List.length_drop, List.length_take]; rfl)) ?_; (with_reducible refine (backhaulref02_Div.calls k a0 a1 a2 t196 t197 _ A6.out).mono ?_); rintro e w' ⟨rfl, ⟨nd, rfl⟩⟩; refine ⟨_, rfl, ?_⟩))
          go_ret2
          exact ⟨by first | rfl | (simp; done) | (simp [*]; done), by repeat (first | exact Drawn0.refl _ | apply Drawn0.step)⟩
      · rw [if_neg c8] at H
        have c8b0 : decide ((wrap64 (t196 + 1)) < 1) = false := decide_eq_false c8
        clear c8
        by_cases c11 : (wrap64 (t196 + 1)) > 1000000000000
        · rw [if_pos c11] at H
          have c11b0 : decide (1000000000000 < (wrap64 (t196 + 1))) = true := decide_eq_true c11
          clear c11
          simp only [Option.some.injEq, Prod.mk.injEq] at H
          obtain ⟨rfl, rfl⟩ := H
          go_enter Try.func36, Try.ntmps36
          go_wp2_with (first | ((with_reducible refine gate_callee (f := 101) rfl ?_); refine goesL_ (some 14) rfl rfl Try.func101 (by kernel_rfl) rfl #[.int .i64 a0, .int .i64 a1, .int .i64 a2] rfl (by (try simp only [List.map_toArray, List.map_cons, List.map_nil]); first | done | rfl | (simp only [List.length_drop, List.length_take]; rfl)) ?_; (with_reducible refine (backhaulref02_may.calls a0 a1 a2 t195 _ A4.out).mono ?_); rintro e w' ⟨rfl, ⟨nd, rfl⟩⟩; refine ⟨_, rfl, ?_⟩) | ((with_reducible refine gate_callee (f := 102) rfl ?_); refine goesL_ (some 22) rfl rfl Try.func102 (by kernel_rfl) rfl #[.int .i64 a0, .int .i64 a1, .int .i64 a2] rfl (by (try simp only [List.map_toArray, List.map_cons, List.map_nil]); first | done | rfl | (simp only [List.length_drop, List.length_take]; rfl)) ?_; (with_reducible refine (backhaulref02_Div.calls k a0 a1 a2 t196 t197 _ A6.out).mono ?_); rintro e w' ⟨rfl, ⟨nd, rfl⟩⟩; refine ⟨_, rfl, ?_⟩))
          go_ret2
          exact ⟨by first | rfl | (simp; done) | (simp [*]; done), by repeat (first | exact Drawn0.refl _ | apply Drawn0.step)⟩
        · rw [if_neg c11] at H
          have c11b0 : decide (1000000000000 < (wrap64 (t196 + 1))) = false := decide_eq_false c11
          clear c11
          simp only [Option.some.injEq, Prod.mk.injEq] at H
          obtain ⟨rfl, rfl⟩ := H
          go_enter Try.func36, Try.ntmps36
          go_wp2_with (first | ((with_reducible refine gate_callee (f := 101) rfl ?_); refine goesL_ (some 14) rfl rfl Try.func101 (by kernel_rfl) rfl #[.int .i64 a0, .int .i64 a1, .int .i64 a2] rfl (by (try simp only [List.map_toArray, List.map_cons, List.map_nil]); first | done | rfl | (simp only [List.length_drop, List.length_take]; rfl)) ?_; (with_reducible refine (backhaulref02_may.calls a0 a1 a2 t195 _ A4.out).mono ?_); rintro e w' ⟨rfl, ⟨nd, rfl⟩⟩; refine ⟨_, rfl, ?_⟩) | ((with_reducible refine gate_callee (f := 102) rfl ?_); refine goesL_ (some 22) rfl rfl Try.func102 (by kernel_rfl) rfl #[.int .i64 a0, .int .i64 a1, .int .i64 a2] rfl (by (try simp only [List.map_toArray, List.map_cons, List.map_nil]); first | done | rfl | (simp only [List.length_drop, List.length_take]; rfl)) ?_; (with_reducible refine (backhaulref02_Div.calls k a0 a1 a2 t196 t197 _ A6.out).mono ?_); rintro e w' ⟨rfl, ⟨nd, rfl⟩⟩; refine ⟨_, rfl, ?_⟩))
          go_ret2
          exact ⟨by first | rfl | (simp; done) | (simp [*]; done), by repeat (first | exact Drawn0.refl _ | apply Drawn0.step)⟩
    · rw [if_neg c7] at H
      have c7b0 : decide (a2 ≤ (wrap64 (2 * t197))) = false := decide_eq_false c7
      clear c7
      by_cases c12 : t196 < 1
      · rw [if_pos c12] at H
        have c12b0 : decide (t196 < 1) = true := decide_eq_true c12
        clear c12
        by_cases c13 : t196 = 0
        · rw [if_pos c13] at H
          have c13b0 : (t196 == 0) = true := beq_iff_eq.mpr c13
          have c13b1 : (t196 != 0) = false := bne_eq_false_iff_eq.mpr c13
          clear c13
          by_cases c14 : t196 > 1000000000000
          · rw [if_pos c14] at H
            have c14b0 : decide (1000000000000 < t196) = true := decide_eq_true c14
            clear c14
            simp only [Option.some.injEq, Prod.mk.injEq] at H
            obtain ⟨rfl, rfl⟩ := H
            go_enter Try.func36, Try.ntmps36
            go_wp2_with (first | ((with_reducible refine gate_callee (f := 101) rfl ?_); refine goesL_ (some 14) rfl rfl Try.func101 (by kernel_rfl) rfl #[.int .i64 a0, .int .i64 a1, .int .i64 a2] rfl (by (try simp only [List.map_toArray, List.map_cons, List.map_nil]); first | done | rfl | (simp only [List.length_drop, List.length_take]; rfl)) ?_; (with_reducible refine (backhaulref02_may.calls a0 a1 a2 t195 _ A4.out).mono ?_); rintro e w' ⟨rfl, ⟨nd, rfl⟩⟩; refine ⟨_, rfl, ?_⟩) | ((with_reducible refine gate_callee (f := 102) rfl ?_); refine goesL_ (some 22) rfl rfl Try.func102 (by kernel_rfl) rfl #[.int .i64 a0, .int .i64 a1, .int .i64 a2] rfl (by (try simp only [List.map_toArray, List.map_cons, List.map_nil]); first | done | rfl | (simp only [List.length_drop, List.length_take]; rfl)) ?_; (with_reducible refine (backhaulref02_Div.calls k a0 a1 a2 t196 t197 _ A6.out).mono ?_); rintro e w' ⟨rfl, ⟨nd, rfl⟩⟩; refine ⟨_, rfl, ?_⟩))
            go_ret2
            exact ⟨by first | rfl | (simp; done) | (simp [*]; done), by repeat (first | exact Drawn0.refl _ | apply Drawn0.step)⟩
          · rw [if_neg c14] at H
            have c14b0 : decide (1000000000000 < t196) = false := decide_eq_false c14
            clear c14
            simp only [Option.some.injEq, Prod.mk.injEq] at H
            obtain ⟨rfl, rfl⟩ := H
            go_enter Try.func36, Try.ntmps36
            go_wp2_with (first | ((with_reducible refine gate_callee (f := 101) rfl ?_); refine goesL_ (some 14) rfl rfl Try.func101 (by kernel_rfl) rfl #[.int .i64 a0, .int .i64 a1, .int .i64 a2] rfl (by (try simp only [List.map_toArray, List.map_cons, List.map_nil]); first | done | rfl | (simp only [List.length_drop, List.length_take]; rfl)) ?_; (with_reducible refine (backhaulref02_may.calls a0 a1 a2 t195 _ A4.out).mono ?_); rintro e w' ⟨rfl, ⟨nd, rfl⟩⟩; refine ⟨_, rfl, ?_⟩) | ((with_reducible refine gate_callee (f := 102) rfl ?_); refine goesL_ (some 22) rfl rfl Try.func102 (by kernel_rfl) rfl #[.int .i64 a0, .int .i64 a1, .int .i64 a2] rfl (by (try simp only [List.map_toArray, List.map_cons, List.map_nil]); first | done | rfl | (simp only [List.length_drop, List.length_take]; rfl)) ?_; (with_reducible refine (backhaulref02_Div.calls k a0 a1 a2 t196 t197 _ A6.out).mono ?_); rintro e w' ⟨rfl, ⟨nd, rfl⟩⟩; refine ⟨_, rfl, ?_⟩))
            go_ret2
            exact ⟨by first | rfl | (simp; done) | (simp [*]; done), by repeat (first | exact Drawn0.refl _ | apply Drawn0.step)⟩
        · rw [if_neg c13] at H
          have c13b0 : (t196 == 0) = false := beq_eq_false_iff_ne.mpr c13
          have c13b1 : (t196 != 0) = true := bne_iff_ne.mpr c13
          simp only [Option.some.injEq, Prod.mk.injEq] at H
          obtain ⟨rfl, rfl⟩ := H
          go_enter Try.func36, Try.ntmps36
          go_wp2_with (first | ((with_reducible refine gate_callee (f := 101) rfl ?_); refine goesL_ (some 14) rfl rfl Try.func101 (by kernel_rfl) rfl #[.int .i64 a0, .int .i64 a1, .int .i64 a2] rfl (by (try simp only [List.map_toArray, List.map_cons, List.map_nil]); first | done | rfl | (simp only [List.length_drop, List.length_take]; rfl)) ?_; (with_reducible refine (backhaulref02_may.calls a0 a1 a2 t195 _ A4.out).mono ?_); rintro e w' ⟨rfl, ⟨nd, rfl⟩⟩; refine ⟨_, rfl, ?_⟩) | ((with_reducible refine gate_callee (f := 102) rfl ?_); refine goesL_ (some 22) rfl rfl Try.func102 (by kernel_rfl) rfl #[.int .i64 a0, .int .i64 a1, .int .i64 a2] rfl (by (try simp only [List.map_toArray, List.map_cons, List.map_nil]); first | done | rfl | (simp only [List.length_drop, List.length_take]; rfl)) ?_; (with_reducible refine (backhaulref02_Div.calls k a0 a1 a2 t196 t197 _ A6.out).mono ?_); rintro e w' ⟨rfl, ⟨nd, rfl⟩⟩; refine ⟨_, rfl, ?_⟩))
          go_ret2
          exact ⟨by first | rfl | (simp; done) | (simp [*]; done), by repeat (first | exact Drawn0.refl _ | apply Drawn0.step)⟩
      · rw [if_neg c12] at H
        have c12b0 : decide (t196 < 1) = false := decide_eq_false c12
        clear c12
        by_cases c15 : t196 > 1000000000000
        · rw [if_pos c15] at H
          have c15b0 : decide (1000000000000 < t196) = true := decide_eq_true c15
          clear c15
          simp only [Option.some.injEq, Prod.mk.injEq] at H
          obtain ⟨rfl, rfl⟩ := H
          go_enter Try.func36, Try.ntmps36
          go_wp2_with (first | ((with_reducible refine gate_callee (f := 101) rfl ?_); refine goesL_ (some 14) rfl rfl Try.func101 (by kernel_rfl) rfl #[.int .i64 a0, .int .i64 a1, .int .i64 a2] rfl (by (try simp only [List.map_toArray, List.map_cons, List.map_nil]); first | done | rfl | (simp only [List.length_drop, List.length_take]; rfl)) ?_; (with_reducible refine (backhaulref02_may.calls a0 a1 a2 t195 _ A4.out).mono ?_); rintro e w' ⟨rfl, ⟨nd, rfl⟩⟩; refine ⟨_, rfl, ?_⟩) | ((with_reducible refine gate_callee (f := 102) rfl ?_); refine goesL_ (some 22) rfl rfl Try.func102 (by kernel_rfl) rfl #[.int .i64 a0, .int .i64 a1, .int .i64 a2] rfl (by (try simp only [List.map_toArray, List.map_cons, List.map_nil]); first | done | rfl | (simp only [List.length_drop, List.length_take]; rfl)) ?_; (with_reducible refine (backhaulref02_Div.calls k a0 a1 a2 t196 t197 _ A6.out).mono ?_); rintro e w' ⟨rfl, ⟨nd, rfl⟩⟩; refine ⟨_, rfl, ?_⟩))
          go_ret2
          exact ⟨by first | rfl | (simp; done) | (simp [*]; done), by repeat (first | exact Drawn0.refl _ | apply Drawn0.step)⟩
        · rw [if_neg c15] at H
          have c15b0 : decide (1000000000000 < t196) = false := decide_eq_false c15
          clear c15
          simp only [Option.some.injEq, Prod.mk.injEq] at H
          obtain ⟨rfl, rfl⟩ := H
          go_enter Try.func36, Try.ntmps36
          go_wp2_with (first | ((with_reducible refine gate_callee (f := 101) rfl ?_); refine goesL_ (some 14) rfl rfl Try.func101 (by kernel_rfl) rfl #[.int .i64 a0, .int .i64 a1, .int .i64 a2] rfl (by (try simp only [List.map_toArray, List.map_cons, List.map_nil]); first | done | rfl | (simp only [List.length_drop, List.length_take]; rfl)) ?_; (with_reducible refine (backhaulref02_may.calls a0 a1 a2 t195 _ A4.out).mono ?_); rintro e w' ⟨rfl, ⟨nd, rfl⟩⟩; refine ⟨_, rfl, ?_⟩) | ((with_reducible refine gate_callee (f := 102) rfl ?_); refine goesL_ (some 22) rfl rfl Try.func102 (by kernel_rfl) rfl #[.int .i64 a0, .int .i64 a1, .int .i64 a2] rfl (by (try simp only [List.map_toArray, List.map_cons, List.map_nil]); first | done | rfl | (simp only [List.length_drop, List.length_take]; rfl)) ?_; (with_reducible refine (backhaulref02_Div.calls k a0 a1 a2 t196 t197 _ A6.out).mono ?_); rintro e w' ⟨rfl, ⟨nd, rfl⟩⟩; refine ⟨_, rfl, ?_⟩))
          go_ret2
          exact ⟨by first | rfl | (simp; done) | (simp [*]; done), by repeat (first | exact Drawn0.refl _ | apply Drawn0.step)⟩
  · rw [if_neg c5] at H
    have c5b0 : (t195 == 0) = false := beq_eq_false_iff_ne.mpr c5
    have c5b1 : (t195 != 0) = true := bne_iff_ne.mpr c5
    simp only [Option.some.injEq, Prod.mk.injEq] at H
    obtain ⟨rfl, rfl⟩ := H
    go_enter Try.func36, Try.ntmps36
    go_wp2_with (first | ((with_reducible refine gate_callee (f := 101) rfl ?_); refine goesL_ (some 14) rfl rfl Try.func101 (by kernel_rfl) rfl #[.int .i64 a0, .int .i64 a1, .int .i64 a2] rfl (by (try simp only [List.map_toArray, List.map_cons, List.map_nil]); first | done | rfl | (simp only [List.length_drop, List.length_take]; rfl)) ?_; (with_reducible refine (backhaulref02_may.calls a0 a1 a2 t195 _ A4.out).mono ?_); rintro e w' ⟨rfl, ⟨nd, rfl⟩⟩; refine ⟨_, rfl, ?_⟩))
    go_ret2
    exact ⟨by first | rfl | (simp; done) | (simp [*]; done), by repeat (first | exact Drawn0.refl _ | apply Drawn0.step)⟩

end Go.Proofs.Ytefhljhpcpajgaa.F

namespace Go.Proofs.Ytefhljhpcpajgaa.F
open Go.RowKit Go.Proofs.YtefhljhpcpajgaaX Go.Proofs.YtefhljhpcpajgaaW.PrintWords Go.Proofs.YtefhljhpcpajgaaW.PrintLast Go.Proofs.YtefhljhpcpajgaaW.PrintMore
attribute [local go_sem] max2_int min2_int max_two min_two max_three min_three max_four min_four   -- for this text's walks alone
set_option linter.unusedVariables false
set_option linter.unusedSimpArgs false

/-! ### backhaulref02_Rest: function 38 -/
def backhaulref02_Rest.f (k : Nat) (a0 : Int) (a1 : Int) (a2 : Int) : Option (Int × Int) := (backhaulref02_Floor.f k a0 a1 a2).bind fun bt198 => (if bt198.2 = 0 then ((backhaulref02_Div.f k a0 a1 a2).bind fun bt200 => (some (bt200.2, 0))) else (some (0, bt198.2)))
theorem backhaulref02_Rest.mono : ∀ a0 a1 a2 k, LeO (backhaulref02_Rest.f k a0 a1 a2) (backhaulref02_Rest.f (k + 1) a0 a1 a2) := by
  intro a0 a1 a2 k
  unfold backhaulref02_Rest.f
  repeat' first
      | (with_reducible exact backhaulref02_Div.mono _ _ _ _)
      | (with_reducible exact backhaulref02_Floor.mono _ _ _ _)
      | (with_reducible exact LeO.refl _)
      | (with_reducible exact LeO.none _)
      | (with_reducible refine LeO.ite ?_ ?_)
      | (with_reducible refine LeO.bind ?_ (fun _ => ?_))
      | exact backhaulref02_Div.mono _ _ _ _
      | exact backhaulref02_Floor.mono _ _ _ _
      | exact LeO.none _
      | refine LeO.ite ?_ ?_
      | refine LeO.bind ?_ (fun _ => ?_)
set_option maxHeartbeats 8000000 in
set_option maxRecDepth 100000 in
theorem backhaulref02_Rest.calls (k : Nat) (a0 : Int) (a1 : Int) (a2 : Int) (r1 : Int) (r2 : Int) (w : World) (h : backhaulref02_Rest.f k a0 a1 a2 = some (r1, r2)) :
    Calls Try.prog 38 #[.int .i64 a0, .int .i64 a1, .int .i64 a2] w fun e w' => e = .returned (.tuple #[.int .i64 r1, .int .i64 r2]) ∧ Drawn0 w w' := by
  have H : ((backhaulref02_Floor.f k a0 a1 a2).bind fun bt198 => (if bt198.2 = 0 then ((backhaulref02_Div.f k a0 a1 a2).bind fun bt200 => (some (bt200.2, 0))) else (some (0, bt198.2)))) = some (r1, r2) := h
  clear h
  replace H := Option.bind_eq_some_iff.mp H
  obtain ⟨⟨t198, t199⟩, A40, H⟩ := H
  replace H : (if t199 = 0 then ((backhaulref02_Div.f k a0 a1 a2).bind fun bt200 => (some (bt200.2, 0))) else (some (0, t199))) = some (r1, r2) := H
  have A4 := Aside0.mk A40
  clear A40
  by_cases c5 : t199 = 0
  · rw [if_pos c5] at H
    have c5b0 : (t199 == 0) = true := beq_iff_eq.mpr c5
    have c5b1 : (t199 != 0) = false := bne_eq_false_iff_eq.mpr c5
    clear c5
    replace H := Option.bind_eq_some_iff.mp H
    obtain ⟨⟨t200, t201⟩, A60, H⟩ := H
    replace H : (some (t201, 0)) = some (r1, r2) := H
    have A6 := Aside0.mk A60
    clear A60
    simp only [Option.some.injEq, Prod.mk.injEq] at H
    obtain ⟨rfl, rfl⟩ := H
    go_enter Try.func38, Try.ntmps38
    go_wp2_with (first | ((with_reducible refine gate_callee (f := 34) rfl ?_); refine goesL_ (some 16) rfl rfl Try.func34 (by kernel_rfl) rfl #[.int .i64 a0, .int .i64 a1, .int .i64 a2] rfl (by (try simp only [List.map_toArray, List.map_cons, List.map_nil]); first | done | rfl | (simp only [List.length_drop, List.length_take]; rfl)) ?_; (with_reducible refine (backhaulref02_Floor.calls k a0 a1 a2 t198 t199 _ A4.out).mono ?_); rintro e w' ⟨rfl, ⟨nd, rfl⟩⟩; refine ⟨_, rfl, ?_⟩) | ((with_reducible refine gate_callee (f := 102) rfl ?_); refine goesL_ (some 26) rfl rfl Try.func102 (by kernel_rfl) rfl #[.int .i64 a0, .int .i64 a1, .int .i64 a2] rfl (by (try simp only [List.map_toArray, List.map_cons, List.map_nil]); first | done | rfl | (simp only [List.length_drop, List.length_take]; rfl)) ?_; (with_reducible refine (backhaulref02_Div.calls k a0 a1 a2 t200 t201 _ A6.out).mono ?_); rintro e w' ⟨rfl, ⟨nd, rfl⟩⟩; refine ⟨_, rfl, ?_⟩))
    go_ret2
    exact ⟨by first | rfl | (simp; done) | (simp [*]; done), by repeat (first | exact Drawn0.refl _ | apply Drawn0.step)⟩
  · rw [if_neg c5] at H
    have c5b0 : (t199 == 0) = false := beq_eq_false_iff_ne.mpr c5
    have c5b1 : (t199 != 0) = true := bne_iff_ne.mpr c5
    simp only [Option.some.injEq, Prod.mk.injEq] at H
    obtain ⟨rfl, rfl⟩ := H
    go_enter Try.func38, Try.ntmps38
    go_wp2_with (first | ((with_reducible refine gate_callee (f := 34) rfl ?_); refine goesL_ (some 16) rfl rfl Try.func34 (by kernel_rfl) rfl #[.int .i64 a0, .int .i64 a1, .int .i64 a2] rfl (by (try simp only [List.map_toArray, List.map_cons, List.map_nil]); first | done | rfl | (simp only [List.length_drop, List.length_take]; rfl)) ?_; (with_reducible refine (backhaulref02_Floor.calls k a0 a1 a2 t198 t199 _ A4.out).mono ?_); rintro e w' ⟨rfl, ⟨nd, rfl⟩⟩; refine ⟨_, rfl, ?_⟩))
    go_ret2
    exact ⟨by first | rfl | (simp; done) | (simp [*]; done), by repeat (first | exact Drawn0.refl _ | apply Drawn0.step)⟩

end Go.Proofs.Ytefhljhpcpajgaa.F

/- What the divisions of cents and of the document come to; no condition but the bounds of an int. -/
set_option linter.unusedVariables false
namespace Go.Proofs.Ytefhljhpcpajgaa.Q
open Go.RowKit Go.Proofs.Ytefhljhpcpajgaa.F Go.Proofs.YtefhljhpcpajgaaW.PrintWords Go.Proofs.YtefhljhpcpajgaaW.PrintLast Go.Proofs.YtefhljhpcpajgaaW.PrintMore

def may (a b c : Int) : Prop := 0 ≤ a ∧ a ≤ 1000000000000 ∧ 0 ≤ b ∧ b ≤ 1000000000000 ∧ c ≤ 1000000000000
instance (a b c : Int) : Decidable (may a b c) := by unfold may; infer_instance
def divS (a b c : Int) : Int × Int × Int := if c < 1 then (0, 0, 2) else if may a b c then (if a * b > c * 1000000000001 then (0, 0, 8) else (a * b / c, a * b % c, 0)) else (0, 0, 8)
def floorS (a b c : Int) : Int × Int := if c < 1 then (0, 2) else if may a b c then toldS (a * b / c) else (0, 8)
def halfS (a b c : Int) : Int × Int := if c < 1 then (0, 2) else if may a b c then (if a * b % c ≥ c - a * b % c then toldS (a * b / c + 1) else toldS (a * b / c)) else (0, 8)
def restS (a b c : Int) : Int × Int := if c < 1 then (0, 2) else if may a b c then (if amt (a * b / c) then (a * b % c, 0) else (0, 8)) else (0, 8)

theorem mul_bound {x y B C : Int} (hx0 : 0 ≤ x) (hx : x ≤ B) (hy0 : 0 ≤ y) (hy : y ≤ C) : 0 ≤ x * y ∧ x * y ≤ B * C :=
  ⟨Int.mul_nonneg hx0 hy0, Int.mul_le_mul hx hy hy0 (by omega)⟩
theorem divided_f (a b c : Int) (hc1 : -9223372036854775808 ≤ c) (hc2 : c ≤ 9223372036854775807) : Ev (fun k => cents_divided.f k a b c) (divS a b c) := by
  unfold cents_divided.f divS
  refine Ev.ite (fun h => Ev.ok (by rw [if_pos h])) (fun h => ?_)
  rw [if_neg h]
  have bad : ¬ may a b c → (if may a b c then (if a * b > c * 1000000000001 then (0, 0, 8) else (a * b / c, a * b % c, 0)) else ((0 : Int), (0 : Int), (8 : Int))) = (0, 0, 8) := fun h => if_neg h
  refine Ev.ite (fun h1 => Ev.ok (bad (by unfold may; omega)).symm) (fun h1 => ?_)
  refine Ev.ite (fun h2 => Ev.ok (bad (by unfold may; omega)).symm) (fun h2 => ?_)
  refine Ev.bindc (in_f _) (Ev.ite (fun h3 => ?_) (fun h3 => Ev.ok (bad (fun hm => h3 (decide_eq_true (by unfold may at hm; unfold amt; omega)))).symm))
  refine Ev.bindc (in_f _) (Ev.ite (fun h4 => ?_) (fun h4 => Ev.ok (bad (fun hm => h4 (decide_eq_true (by unfold may at hm; unfold amt; omega)))).symm))
  refine Ev.bindc (in_f _) (Ev.ite (fun h5 => ?_) (fun h5 => Ev.ok (bad (fun hm => h5 (decide_eq_true (by unfold may at hm; unfold amt; omega)))).symm))
  have hm : may a b c := by
    have := of_decide_eq_true h3; have := of_decide_eq_true h4; have := of_decide_eq_true h5
    unfold amt at *; unfold may; omega
  rw [if_pos hm]
  unfold may at hm
  rw [u64_eq (x := a) (by omega) (by omega), u64_eq (x := b) (by omega) (by omega), u64_eq (x := c) (by omega) (by omega)]
  obtain ⟨m0, m1⟩ := mul_bound (x := a) (y := b) (B := 1000000000000) (C := 1000000000000) (by omega) (by omega) (by omega) (by omega)
  refine Ev.bindc (product_f (by omega) (by omega) (by omega) (by omega)) ?_
  refine Ev.bindc (product_f (by omega) (by omega) (by omega) (by omega)) ?_
  refine Ev.bindc (above_f m0 (by omega)) ?_
  by_cases h6 : a * b > c * 1000000000001
  · rw [if_pos h6]
    exact Ev.pos (decide_eq_true h6) (Ev.ok rfl)
  · rw [if_neg h6]
    refine Ev.neg (by simp; omega) (Ev.neg (by dsimp only; omega) ?_)
    refine Ev.bind (div64_f (a := a * b / 18446744073709551616) (b := a * b % 18446744073709551616) (by omega) (by omega) (by omega) (by omega) (by omega)) ?_
    have e : a * b / 18446744073709551616 * 18446744073709551616 + a * b % 18446744073709551616 = a * b := by omega
    rw [e]
    have d0 : 0 ≤ a * b / c := Int.ediv_nonneg m0 (by omega)
    have d1 : a * b / c < 1000000000002 := by rw [Int.ediv_lt_iff_lt_mul (by omega)]; omega
    have r0 := Int.emod_nonneg (a * b) (show c ≠ 0 by omega)
    have r1 := Int.emod_lt_of_pos (a * b) (show 0 < c by omega)
    refine Ev.ok ?_
    dsimp only
    rw [wrap_eq (by omega) (by omega), wrap_eq (by omega) (by omega)]
/-- Where the quotient is above an amount by more than a rounding. -/
theorem divS_cases (a b c : Int) : (c < 1 ∧ divS a b c = (0, 0, 2)) ∨ (1 ≤ c ∧ ¬ may a b c ∧ divS a b c = (0, 0, 8)) ∨ (1 ≤ c ∧ may a b c ∧ a * b / c > 1000000000000 ∧ divS a b c = (0, 0, 8)) ∨ (1 ≤ c ∧ may a b c ∧ 0 ≤ a * b / c ∧ a * b / c ≤ 1000000000001 ∧ 0 ≤ a * b % c ∧ a * b % c < c ∧ divS a b c = (a * b / c, a * b % c, 0)) := by
  unfold divS
  by_cases h : c < 1
  · exact .inl ⟨h, if_pos h⟩
  · rw [if_neg h]
    by_cases h1 : may a b c
    · rw [if_pos h1]
      by_cases h2 : a * b > c * 1000000000001
      · refine .inr (.inr (.inl ⟨by omega, h1, ?_, if_pos h2⟩))
        have : 1000000000001 ≤ a * b / c := by rw [Int.le_ediv_iff_mul_le (by omega)]; omega
        omega
      · have h3 := h1
        unfold may at h3
        refine .inr (.inr (.inr ⟨by omega, h1, Int.ediv_nonneg (Int.mul_nonneg h3.1 h3.2.2.1) (by omega), ?_, Int.emod_nonneg _ (by omega), Int.emod_lt_of_pos _ (by omega), if_neg h2⟩))
        have : a * b / c < 1000000000002 := by rw [Int.ediv_lt_iff_lt_mul (by omega)]; omega
        omega
    · exact .inr (.inl ⟨by omega, h1, if_neg h1⟩)
theorem toldS_big {n : Int} (h : n > 1000000000000) : toldS n = (0, 8) := by unfold toldS; rw [if_neg (show ¬ amt n by unfold amt; omega)]
section
variable {a b c : Int} (hc1 : -9223372036854775808 ≤ c) (hc2 : c ≤ 9223372036854775807)
include hc1 hc2
theorem floor_f : Ev (fun k => cents_Floor.f k a b c) (floorS a b c) := by
  unfold cents_Floor.f
  refine Ev.bind (divided_f a b c hc1 hc2) ?_
  unfold floorS
  rcases divS_cases a b c with ⟨h, e⟩ | ⟨h, h1, e⟩ | ⟨h, h1, h2, e⟩ | ⟨h, h1, h2, h3, h4, h5, e⟩ <;> rw [e]
  · rw [if_pos h]; exact Ev.neg (by decide) (Ev.ok rfl)
  · rw [if_neg (show ¬ c < 1 by omega), if_neg h1]; exact Ev.neg (by decide) (Ev.ok rfl)
  · rw [if_neg (show ¬ c < 1 by omega), if_pos h1, toldS_big h2]; exact Ev.neg (by decide) (Ev.ok rfl)
  · rw [if_neg (show ¬ c < 1 by omega), if_pos h1]; exact Ev.pos (by first | trivial | rfl) (Ev.bindc (told_f _) (Ev.ok rfl))
theorem half_f : Ev (fun k => cents_Half.f k a b c) (halfS a b c) := by
  unfold cents_Half.f
  refine Ev.bind (divided_f a b c hc1 hc2) ?_
  unfold halfS
  rcases divS_cases a b c with ⟨h, e⟩ | ⟨h, h1, e⟩ | ⟨h, h1, h2, e⟩ | ⟨h, h1, h2, h3, h4, h5, e⟩ <;> rw [e]
  · rw [if_pos h]; exact Ev.neg (by decide) (Ev.ok rfl)
  · rw [if_neg (show ¬ c < 1 by omega), if_neg h1]; exact Ev.neg (by decide) (Ev.ok rfl)
  · rw [if_neg (show ¬ c < 1 by omega), if_pos h1, toldS_big h2, toldS_big (by omega)]; simp only [ite_self]; exact Ev.neg (by decide) (Ev.ok rfl)
  · rw [if_neg (show ¬ c < 1 by omega), if_pos h1]
    refine Ev.pos (by first | trivial | rfl) ?_
    have hm := h1
    unfold may at hm
    dsimp only
    rw [wrap_eq (x := c - a * b % c) (by omega) (by omega), wrap_eq (x := a * b / c + 1) (by omega) (by omega)]
    refine Ev.ite (fun h6 => ?_) (fun h6 => ?_)
    · rw [if_pos h6]; exact Ev.bindc (told_f _) (Ev.ok rfl)
    · rw [if_neg h6]; exact Ev.bindc (told_f _) (Ev.ok rfl)
theorem rest_f : Ev (fun k => cents_Rest.f k a b c) (restS a b c) := by
  unfold cents_Rest.f
  refine Ev.bind (divided_f a b c hc1 hc2) ?_
  unfold restS
  rcases divS_cases a b c with ⟨h, e⟩ | ⟨h, h1, e⟩ | ⟨h, h1, h2, e⟩ | ⟨h, h1, h2, h3, h4, h5, e⟩ <;> rw [e]
  · rw [if_pos h]; exact Ev.neg (by decide) (Ev.ok rfl)
  · rw [if_neg (show ¬ c < 1 by omega), if_neg h1]; exact Ev.neg (by decide) (Ev.ok rfl)
  · rw [if_neg (show ¬ c < 1 by omega), if_pos h1, if_neg (show ¬ amt (a * b / c) by unfold amt; omega)]; exact Ev.neg (by decide) (Ev.ok rfl)
  · rw [if_neg (show ¬ c < 1 by omega), if_pos h1]
    refine Ev.pos (by first | trivial | rfl) (Ev.bindc (told_f _) ?_)
    unfold toldS
    dsimp only
    by_cases h6 : amt (a * b / c)
    · simp only [if_pos h6]; exact Ev.pos (by first | trivial | rfl) (Ev.ok rfl)
    · simp only [if_neg h6]; exact Ev.neg (by decide) (Ev.ok rfl)
end
theorem ref_may_f (a b c : Int) : backhaulref02_may.f a b c = some (if c < 1 then 2 else if may a b c then 0 else 8) := by
  unfold backhaulref02_may.f
  by_cases h : c < 1
  · simp only [if_pos h]
  · simp only [if_neg h]
    by_cases hm : may a b c
    · simp only [if_pos hm]
      unfold may at hm
      rw [if_neg (by omega), if_neg (by omega), if_neg (by omega), if_neg (by omega), if_neg (by omega)]
    · simp only [if_neg hm]
      unfold may at hm
      (repeat' split) <;> first | rfl | omega
def divR (a b c : Int) : Int × Int := if a * b / c > 4000000000000 then (-1, 0) else (a * b / c, a * b % c)
theorem ref_l1 {a b c i : Int} {R : Int × Int} (hc : 1 ≤ c) (hc' : c ≤ 1000000000000) (d : Nat) : ∀ n rest : Int, rest.toNat ≤ d → 0 ≤ rest → rest ≤ 10000000000000 → 0 ≤ n → n + rest ≤ 100000000000000 →
    Ev (fun k => if n + rest / c > 4000000000000 then some (-1, 0) else backhaulref02_Div.l0 k a b c (n + rest / c) (rest % c) (wrap64 (i - 1))) R →
    Ev (fun k => backhaulref02_Div.l1 k a b c n rest i) R := by
  induction d with
  | zero =>
    intro n rest hd h0 h1 h2 h3 hR
    obtain rfl : rest = 0 := by omega
    refine Ev.step (fun k => by simp only [backhaulref02_Div.l1]; rfl) ?_
    refine Ev.neg (by omega) ?_
    rwa [Int.zero_ediv, Int.zero_emod, Int.add_zero] at hR
  | succ d ih =>
    intro n rest hd h0 h1 h2 h3 hR
    refine Ev.step (fun k => by simp only [backhaulref02_Div.l1]; rfl) ?_
    refine Ev.ite (fun h => ?_) (fun h => ?_)
    · rw [wrap_eq (x := n + 1) (by omega) (by omega), wrap_eq (x := rest - c) (by omega) (by omega)]
      have e1 : (rest - c) / c = rest / c - 1 := by
        have := Int.add_mul_ediv_right rest (-1) (show c ≠ 0 by omega)
        rw [show rest + -1 * c = rest - c by omega] at this
        omega
      have e2 : (rest - c) % c = rest % c := Int.sub_emod_right _ _
      refine ih (n + 1) (rest - c) (by omega) (by omega) (by omega) (by omega) (by omega) ?_
      rw [e1, e2, show n + 1 + (rest / c - 1) = n + rest / c by omega]
      exact hR
    · rw [Int.ediv_eq_zero_of_lt h0 (by omega), Int.emod_eq_of_lt h0 (by omega), Int.add_zero] at hR
      exact hR
theorem ref_l0 {a b c : Int} (hc : 1 ≤ c) (hc' : c ≤ 1000000000000) (ha : 0 ≤ a) (ha' : a ≤ 1000000000000) (hb : 0 ≤ b) (hb' : b ≤ 1000000000000) (d : Nat) (hd : d ≤ 41) : ∀ n rest : Int, 0 ≤ rest → rest < c → 0 ≤ n → n ≤ 4000000000000 → n * c + rest = a * (b / 2 ^ d) →
    Ev (fun k => backhaulref02_Div.l0 k a b c n rest ((d : Int) - 1)) (divR a b c) := by
  induction d with
  | zero =>
    intro n rest h0 h1 h2 h3 e
    refine Ev.step (fun k => by simp only [backhaulref02_Div.l0]; rfl) ?_
    refine Ev.neg (by omega) (Ev.ok ?_)
    rw [Int.pow_zero, Int.ediv_one] at e
    unfold divR
    have hq : a * b / c = n := by rw [← e, Int.add_comm, Int.add_mul_ediv_right _ _ (by omega), Int.ediv_eq_zero_of_lt h0 h1]; omega
    have hr : a * b % c = rest := by rw [← e, Int.add_comm, Int.add_mul_emod_self_right, Int.emod_eq_of_lt h0 h1]
    rw [hq, hr, if_neg (by omega)]
  | succ d ih =>
    intro n rest h0 h1 h2 h3 e
    rw [show ((d + 1 : Nat) : Int) - 1 = (d : Int) by omega]
    refine Ev.step (fun k => by simp only [backhaulref02_Div.l0]; rfl) ?_
    rw [u64_eq (x := (d : Int)) (by omega) (by omega)]
    refine Ev.pos (by omega) (Ev.pos (by omega) ?_)
    have hp : (0 : Int) < 2 ^ d := Int.pow_pos (by decide)
    have hs : shr .i64 b (d : Int) = b / 2 ^ d := by
      unfold shr
      rw [Int.toNat_natCast, Nat.min_eq_left (by simp [IntKind.bits]; omega)]
    rw [hs]
    obtain ⟨x, hx⟩ : ∃ x, x = b / 2 ^ d := ⟨_, rfl⟩
    rw [← hx]
    have hx0 : 0 ≤ x := by rw [hx]; exact Int.ediv_nonneg hb (by omega)
    have hxb : x ≤ b := by rw [hx]; exact Int.ediv_le_self _ hb
    have hx2 : b / 2 ^ (d + 1) = x / 2 := by rw [hx, Int.pow_succ, Int.ediv_ediv_of_nonneg (by omega)]
    rw [hx2] at e
    have hac0 : 0 ≤ a / c := Int.ediv_nonneg ha (by omega)
    have hac : a / c ≤ a := Int.ediv_le_self _ ha
    have har0 := Int.emod_nonneg a (show c ≠ 0 by omega)
    have har := Int.emod_lt_of_pos a (show 0 < c by omega)
    -- behind the bit
    have go : ∀ n0 rest0 : Int, 0 ≤ rest0 → rest0 ≤ 3000000000000 → 0 ≤ n0 → n0 ≤ 10000000000000 → n0 * c + rest0 = a * x → Ev (fun k => backhaulref02_Div.j1 k a b c n0 rest0 (d : Int)) (divR a b c) := by
      intro n0 rest0 g0 g1 g2 g3 ge
      refine Ev.step (fun k => by simp only [backhaulref02_Div.j1]; rfl) ?_
      refine ref_l1 hc hc' rest0.toNat n0 rest0 (Nat.le_refl _) g0 (by omega) g2 (by omega) ?_
      have hN : n0 + rest0 / c = a * x / c := by rw [← ge, Int.add_comm (n0 * c), Int.add_mul_ediv_right _ _ (by omega)]; omega
      have hR : rest0 % c = a * x % c := by rw [← ge, Int.add_comm (n0 * c), Int.add_mul_emod_self_right]
      have ax0 : 0 ≤ a * x := Int.mul_nonneg ha hx0
      refine Ev.ite (fun h4 => Ev.ok ?_) (fun h4 => ?_)
      · unfold divR
        have : a * x / c ≤ a * b / c := Int.ediv_le_ediv (by omega) (Int.mul_le_mul_of_nonneg_left hxb ha)
        rw [if_pos (by omega)]
      · rw [wrap_eq (x := (d : Int) - 1) (by omega) (by omega)]
        refine ih (by omega) _ _ (Int.emod_nonneg _ (by omega)) (Int.emod_lt_of_pos _ (by omega)) (by rw [hN]; exact Int.ediv_nonneg ax0 (by omega)) (by omega) ?_
        rw [hN, hR, ← hx, Int.mul_comm (a * x / c)]
        exact Int.mul_ediv_add_emod _ _
    have ex : x = 2 * (x / 2) + x % 2 := by omega
    have e2 : a * x = 2 * (a * (x / 2)) + a * (x % 2) := by
      conv => lhs; rw [ex]
      rw [Int.mul_add, Int.mul_left_comm]
    rw [Int.tmod_eq_emod_of_nonneg hx0]
    refine Ev.ite (fun h4 => ?_) (fun h4 => ?_)
    · refine Ev.neg (by omega) ?_
      rw [Int.tdiv_eq_ediv_of_nonneg ha, Int.tmod_eq_emod_of_nonneg ha, wrap_eq (x := 2 * n) (by omega) (by omega), wrap_eq (x := 2 * rest) (by omega) (by omega), wrap_eq (x := a / c) (by omega) (by omega), wrap_eq (x := 2 * n + a / c) (by omega) (by omega), wrap_eq (x := 2 * rest + a % c) (by omega) (by omega)]
      refine go _ _ (by omega) (by omega) (by omega) (by omega) ?_
      rw [e2, ← e, h4, Int.mul_one, Int.add_mul, Int.mul_assoc]
      have := Int.mul_ediv_add_emod a c
      rw [Int.mul_comm] at this
      omega
    · rw [wrap_eq (x := 2 * n) (by omega) (by omega), wrap_eq (x := 2 * rest) (by omega) (by omega)]
      refine go _ _ (by omega) (by omega) (by omega) (by omega) ?_
      rw [e2, ← e, show x % 2 = 0 by omega, Int.mul_zero, Int.mul_assoc]
      omega
theorem ref_div_f {a b c : Int} (hc : 1 ≤ c) (hm : may a b c) : Ev (fun k => backhaulref02_Div.f k a b c) (divR a b c) := by
  unfold may at hm
  unfold backhaulref02_Div.f
  have h2 : (2 : Int) ^ 41 = 2199023255552 := by decide
  exact ref_l0 hc hm.2.2.2.2 hm.1 hm.2.1 hm.2.2.1 hm.2.2.2.1 41 (by omega) 0 0 (by omega) (by omega) (by omega) (by omega) (by rw [h2, Int.ediv_eq_zero_of_lt hm.2.2.1 (by omega)]; omega)
theorem ref_floor_f (a b c : Int) : Ev (fun k => backhaulref02_Floor.f k a b c) (floorS a b c) := by
  unfold backhaulref02_Floor.f floorS
  refine Ev.bindc (ref_may_f a b c) ?_
  by_cases h : c < 1
  · simp only [if_pos h]; exact Ev.neg (by decide) (Ev.ok rfl)
  · simp only [if_neg h]
    by_cases h1 : may a b c
    · simp only [if_pos h1]
      refine Ev.pos (by first | trivial | rfl) (Ev.bind (ref_div_f (by omega) h1) ?_)
      have hm := h1
      unfold may at hm
      have h0 : 0 ≤ a * b / c := Int.ediv_nonneg (Int.mul_nonneg hm.1 hm.2.2.1) (by omega)
      unfold divR
      by_cases h2 : a * b / c > 4000000000000
      · rw [if_pos h2, toldS_big (by omega)]; exact Ev.pos (by decide) (Ev.ok rfl)
      · rw [if_neg h2]
        dsimp only
        refine Ev.neg (by omega) (Ev.ite (fun h3 => Ev.ok ?_) (fun h3 => Ev.ok ?_))
        · rw [toldS_big h3]
        · unfold toldS; rw [if_pos (show amt (a * b / c) by unfold amt; omega)]
    · simp only [if_neg h1]; exact Ev.neg (by decide) (Ev.ok rfl)
theorem ref_half_f (a b c : Int) : Ev (fun k => backhaulref02_Half.f k a b c) (halfS a b c) := by
  unfold backhaulref02_Half.f halfS
  refine Ev.bindc (ref_may_f a b c) ?_
  by_cases h : c < 1
  · simp only [if_pos h]; exact Ev.neg (by decide) (Ev.ok rfl)
  · simp only [if_neg h]
    by_cases h1 : may a b c
    · simp only [if_pos h1]
      refine Ev.pos (by first | trivial | rfl) (Ev.bind (ref_div_f (by omega) h1) ?_)
      have hm := h1
      unfold may at hm
      have h0 : 0 ≤ a * b / c := Int.ediv_nonneg (Int.mul_nonneg hm.1 hm.2.2.1) (by omega)
      have r0 := Int.emod_nonneg (a * b) (show c ≠ 0 by omega)
      have r1 := Int.emod_lt_of_pos (a * b) (show 0 < c by omega)
      have fin : ∀ n : Int, 0 ≤ n → Ev (fun k => if n < 1 then (if n = 0 then (if n > 1000000000000 then some (0, 8) else some (n, 0)) else some (0, 8)) else (if n > 1000000000000 then some ((0 : Int), (8 : Int)) else some (n, 0))) (toldS n) := by
        intro n hn
        unfold toldS
        refine Ev.ite (fun g => Ev.pos (by omega) (Ev.neg (by omega) (Ev.ok ?_))) (fun g => Ev.ite (fun g2 => Ev.ok ?_) (fun g2 => Ev.ok ?_))
        · rw [if_pos (show amt n by unfold amt; omega)]
        · rw [if_neg (show ¬ amt n by unfold amt; omega)]
        · rw [if_pos (show amt n by unfold amt; omega)]
      unfold divR
      by_cases h2 : a * b / c > 4000000000000
      · rw [if_pos h2, toldS_big (by omega), toldS_big (by omega)]
        simp only [ite_self]
        rw [wrap_eq (x := 2 * 0) (by omega) (by omega)]
        exact Ev.neg (by omega) (Ev.pos (by decide) (Ev.neg (by decide) (Ev.ok rfl)))
      · rw [if_neg h2]
        dsimp only
        rw [wrap_eq (x := 2 * (a * b % c)) (by omega) (by omega), wrap_eq (x := a * b / c + 1) (by omega) (by omega)]
        refine Ev.ite (fun h3 => ?_) (fun h3 => ?_)
        · rw [if_pos (show a * b % c ≥ c - a * b % c by omega)]; exact fin _ (by omega)
        · rw [if_neg (show ¬ a * b % c ≥ c - a * b % c by omega)]; exact fin _ (by omega)
    · simp only [if_neg h1]; exact Ev.neg (by decide) (Ev.ok rfl)
theorem ref_rest_f (a b c : Int) : Ev (fun k => backhaulref02_Rest.f k a b c) (restS a b c) := by
  unfold backhaulref02_Rest.f
  refine Ev.bind (ref_floor_f a b c) ?_
  unfold floorS restS
  by_cases h : c < 1
  · simp only [if_pos h]; exact Ev.neg (by decide) (Ev.ok rfl)
  · simp only [if_neg h]
    by_cases h1 : may a b c
    · simp only [if_pos h1]
      by_cases h2 : amt (a * b / c)
      · unfold toldS
        simp only [if_pos h2]
        refine Ev.pos (by first | trivial | rfl) (Ev.bind (ref_div_f (by omega) h1) (Ev.ok ?_))
        unfold divR
        unfold amt at h2
        rw [if_neg (show ¬ a * b / c > 4000000000000 by omega)]
      · unfold toldS
        simp only [if_neg h2]; exact Ev.neg (by decide) (Ev.ok rfl)
    · simp only [if_neg h1]; exact Ev.neg (by decide) (Ev.ok rfl)
end Go.Proofs.Ytefhljhpcpajgaa.Q

/- What the fees' functions (and the document's) come to: one fee, what is left of an amount; no condition. -/
set_option linter.unusedVariables false
namespace Go.Proofs.Ytefhljhpcpajgaa.Q
open Go.RowKit Go.Proofs.Ytefhljhpcpajgaa.F Go.Proofs.YtefhljhpcpajgaaW.PrintWords Go.Proofs.YtefhljhpcpajgaaW.PrintLast Go.Proofs.YtefhljhpcpajgaaW.PrintMore

def feeR (a b : Int) : Int := (2 * a * b + 10000) / 20000
def ofS (a b : Int) : Int × Int := if b < 0 ∨ b > 10000 then (0, 2) else if a < 0 ∨ a > 1000000000000 then (0, 8) else (feeR a b, 0)
def lessS (a b : Int) : Int × Int := if (ofS a b).2 = 0 then (a - (ofS a b).1, 0) else (0, (ofS a b).2)

theorem feeR_bounds {a b : Int} (ha : 0 ≤ a) (hb : 0 ≤ b) (hb' : b ≤ 10000) : 0 ≤ feeR a b ∧ feeR a b ≤ a := by
  unfold feeR
  have h0 : 0 ≤ a * b := Int.mul_nonneg ha hb
  have h1 : a * b ≤ a * 10000 := Int.mul_le_mul_of_nonneg_left hb' ha
  rw [Int.mul_assoc]
  omega
theorem halfS_fee {a b : Int} (ha : 0 ≤ a) (ha' : a ≤ 1000000000000) (hb : 0 ≤ b) (hb' : b ≤ 10000) : halfS a b 10000 = (feeR a b, 0) := by
  have hf := feeR_bounds ha hb hb'
  have hr : feeR a b = if a * b % 10000 ≥ 10000 - a * b % 10000 then a * b / 10000 + 1 else a * b / 10000 := by
    unfold feeR
    rw [Int.mul_assoc]
    split <;> omega
  unfold halfS
  rw [if_neg (by decide), if_pos (show may a b 10000 by unfold may; omega)]
  by_cases h : a * b % 10000 ≥ 10000 - a * b % 10000
  · rw [if_pos h] at hr ⊢
    unfold toldS
    rw [← hr, if_pos (show amt (feeR a b) by unfold amt; omega)]
  · rw [if_neg h] at hr ⊢
    unfold toldS
    rw [← hr, if_pos (show amt (feeR a b) by unfold amt; omega)]
theorem fee_may_f (b : Int) : fee_may.f b = some (decide (0 ≤ b ∧ b ≤ 10000)) := by
  unfold fee_may.f
  by_cases h : b ≥ 0
  · rw [if_pos h]; congr 1; exact decide_eq_decide.2 ⟨fun x => ⟨h, x⟩, fun x => x.2⟩
  · rw [if_neg h]; congr 1; exact (decide_eq_false (fun x => h x.1)).symm
theorem fee_of_f (a b : Int) : Ev (fun k => fee_Of.f k a b) (ofS a b) := by
  unfold fee_Of.f ofS
  refine Ev.bindc (fee_may_f b) ?_
  by_cases hb : b < 0 ∨ b > 10000
  · rw [if_pos hb]
    exact Ev.neg (by simp; omega) (Ev.ok rfl)
  · rw [if_neg hb]
    refine Ev.pos (decide_eq_true (by omega)) ?_
    refine Ev.ite (fun h => Ev.ok (by rw [if_pos (.inl h)])) (fun h => ?_)
    refine Ev.bindc (in_f a) ?_
    by_cases ha : a < 0 ∨ a > 1000000000000
    · rw [if_pos ha]
      exact Ev.neg (fun x => by have := of_decide_eq_true x; unfold amt at this; omega) (Ev.ok rfl)
    · rw [if_neg ha]
      refine Ev.pos (decide_eq_true (by unfold amt; omega)) ?_
      have := half_f (a := a) (b := b) (c := 10000) (by decide) (by decide)
      rw [halfS_fee (by omega) (by omega) (by omega) (by omega)] at this
      exact Ev.bind this (Ev.ok rfl)
theorem ref_of_f (a b : Int) : Ev (fun k => backhaulref04_Of.f k a b) (ofS a b) := by
  have key : ∀ t : Bool, (t = true ↔ (b < 0 ∨ b > 10000)) → Ev (fun k => backhaulref04_Of.j0 k a b t) (ofS a b) := by
    intro t ht
    refine Ev.step (fun k => by simp only [backhaulref04_Of.j0]; rfl) ?_
    unfold ofS
    refine Ev.ite (fun h => Ev.ok (by rw [if_pos (ht.1 h)])) (fun h => ?_)
    have hb : ¬ (b < 0 ∨ b > 10000) := fun x => h (ht.2 x)
    rw [if_neg hb]
    refine Ev.ite (fun h1 => Ev.ok (by rw [if_pos (.inl h1)])) (fun h1 => ?_)
    refine Ev.ite (fun h2 => Ev.ok (by rw [if_pos (.inr h2)])) (fun h2 => Ev.ok ?_)
    have h3 : ¬ (a < 0 ∨ a > 1000000000000) := by omega
    rw [if_neg h3]
    obtain ⟨m0, m1⟩ := mul_bound (x := 2 * a) (y := b) (B := 2000000000000) (C := 10000) (by omega) (by omega) (by omega) (by omega)
    unfold feeR
    rw [wrap_eq (x := 2 * a) (by omega) (by omega), wrap_eq (x := 2 * a * b) (by omega) (by omega), wrap_eq (x := 2 * a * b + 10000) (by omega) (by omega), Int.tdiv_eq_ediv_of_nonneg (by omega), wrap_eq (by omega) (by omega)]
  unfold backhaulref04_Of.f
  refine Ev.ite (fun h => key true (by simp [h])) (fun h => key _ (by simp; omega))
theorem fee_paid_less_f (a b : Int) : Ev (fun k => fee_paid_less.f k a b) (lessS a b) := by
  unfold fee_paid_less.f
  refine Ev.bind (fee_of_f a b) ?_
  unfold lessS
  refine Ev.ite (fun h => ?_) (fun h => Ev.ok (by rw [if_neg h]))
  rw [if_pos h]
  refine Ev.bindc (sub_f _ _) (Ev.ok ?_)
  unfold ofS at h ⊢
  by_cases hb : b < 0 ∨ b > 10000
  · rw [if_pos hb] at h; simp at h
  · by_cases ha : a < 0 ∨ a > 1000000000000
    · rw [if_neg hb, if_pos ha] at h; simp at h
    · rw [if_neg hb, if_neg ha]
      have hf := feeR_bounds (a := a) (b := b) (by omega) (by omega) (by omega)
      unfold subS
      rw [if_pos (show amt a ∧ amt (feeR a b) ∧ amt (a - feeR a b) by unfold amt; omega)]
theorem fee_less_f (a b : Int) : Ev (fun k => fee_Less.f k a b) (lessS a b) := by
  unfold fee_Less.f
  exact Ev.bind (fee_paid_less_f a b) (Ev.ok rfl)
theorem ref_less_f (a b : Int) (ha : -9223372036854775808 ≤ a) (ha' : a ≤ 9223372036854775807) : Ev (fun k => backhaulref04_Less.f k a b) (lessS a b) := by
  unfold backhaulref04_Less.f
  refine Ev.bind (ref_of_f a b) ?_
  unfold lessS
  refine Ev.ite (fun h => ?_) (fun h => Ev.ok (by rw [if_neg h]))
  rw [if_pos h]
  refine Ev.ok ?_
  unfold ofS at h ⊢
  by_cases hb : b < 0 ∨ b > 10000
  · rw [if_pos hb] at h; simp at h
  · by_cases ha : a < 0 ∨ a > 1000000000000
    · rw [if_neg hb, if_pos ha] at h; simp at h
    · rw [if_neg hb, if_neg ha]
      have hf := feeR_bounds (a := a) (b := b) (by omega) (by omega) (by omega)
      dsimp only
      rw [wrap_eq (by omega) (by omega)]
end Go.Proofs.Ytefhljhpcpajgaa.Q

/- What the fees' tables come to: Check, Grade and All, and the document's; no condition. -/
set_option linter.unusedVariables false
namespace Go.Proofs.Ytefhljhpcpajgaa.Q
open Go.RowKit Go.Proofs.Ytefhljhpcpajgaa.F Go.Proofs.YtefhljhpcpajgaaW.PrintWords Go.Proofs.YtefhljhpcpajgaaW.PrintLast Go.Proofs.YtefhljhpcpajgaaW.PrintMore

def chainS : Int → List Int → Int
  | _, [] => 0
  | last, x :: xs => if x < 0 ∨ x > 10000 ∨ x < last then 36 else chainS x xs
def checkS (l : List Int) : Int := if l.length = 4 then chainS 0 l else 36
def gradeS (a : Int) (l : List Int) (g : Int) : Int × Int := if checkS l = 0 then (if g < 0 ∨ g ≥ 4 then (0, 2) else lessS a (rd l g)) else (0, 36)
def stepS (r : Int × Int) (c : Int → Int × Int × Int × Int × Int) : Int × Int × Int × Int × Int := if r.2 = 0 then c r.1 else (0, 0, 0, 0, r.2)
def allS (a : Int) (l : List Int) : Int × Int × Int × Int × Int := if checkS l = 0 then stepS (lessS a (rd l 0)) (fun x0 => stepS (lessS a (rd l 1)) fun x1 => stepS (lessS a (rd l 2)) fun x2 => stepS (lessS a (rd l 3)) fun x3 => (x0, x1, x2, x3, 0)) else (0, 0, 0, 0, 36)

theorem chainS_or (l : List Int) : ∀ last, chainS last l = 0 ∨ chainS last l = 36 := by
  induction l with
  | nil => intro _; exact .inl rfl
  | cons x xs ih => intro last; simp only [chainS]; split; exact .inr rfl; exact ih x
theorem checkS_or (l : List Int) : checkS l = 0 ∨ checkS l = 36 := by
  unfold checkS; split; exact chainS_or _ _; exact .inr rfl
theorem fee_check_l0 {l : List Int} (hl : l.length = 4) (d : Nat) : ∀ (i : Nat) (last : Int), l.length - i = d → i ≤ l.length → Ev (fun k => fee_Check.l0 k last l (l.length : Int) (i : Int)) (chainS last (l.drop i)) := by
  induction d with
  | zero =>
    intro i last hd hi
    refine Ev.step (fun k => by simp only [fee_Check.l0]; rfl) ?_
    refine Ev.neg (by omega) (Ev.ok ?_)
    rw [List.drop_eq_nil_of_le (by omega)]; rfl
  | succ d ih =>
    intro i last hd hi
    have h : i < l.length := by omega
    refine Ev.step (fun k => by simp only [fee_Check.l0]; rfl) ?_
    refine Ev.pos (by omega) (Ev.pos (by omega) (Ev.pos (by omega) ?_))
    rw [drop_cons h, rd_nat h]
    refine Ev.bindc (fee_may_f _) ?_
    simp only [chainS]
    refine Ev.ite (fun h1 => ?_) (fun h1 => Ev.ok ?_)
    · have h2 := of_decide_eq_true h1
      refine Ev.ite (fun h3 => Ev.ok (by rw [if_pos (.inr (.inr h3))])) (fun h3 => ?_)
      rw [if_neg (by omega), wrap_eq (by omega) (by omega)]
      exact ih (i + 1) _ (by omega) (by omega)
    · have h2 : ¬ (0 ≤ l[i] ∧ l[i] ≤ 10000) := fun x => h1 (decide_eq_true x)
      rw [if_pos (by omega)]
theorem fee_check_f (l : List Int) : Ev (fun k => fee_Check.f k l) (checkS l) := by
  unfold fee_Check.f checkS
  by_cases h : l.length = 4
  · rw [if_pos h]
    exact Ev.pos (by omega) (fee_check_l0 h l.length 0 0 (by omega) (by omega))
  · rw [if_neg h]
    exact Ev.neg (by omega) (Ev.ok rfl)
theorem ref_check_l0 {l : List Int} (hl : l.length = 4) (d : Nat) : ∀ (i : Nat), l.length - i = d → i ≤ l.length → Ev (fun k => backhaulref04_Check.l0 k l (i : Int)) (chainS (if i = 0 then 0 else l.getD (i - 1) 0) (l.drop i)) := by
  induction d with
  | zero =>
    intro i hd hi
    refine Ev.step (fun k => by simp only [backhaulref04_Check.l0]; rfl) ?_
    refine Ev.neg (by omega) (Ev.ok ?_)
    rw [List.drop_eq_nil_of_le (by omega)]; rfl
  | succ d ih =>
    intro i hd hi
    have h : i < l.length := by omega
    refine Ev.step (fun k => by simp only [backhaulref04_Check.l0]; rfl) ?_
    refine Ev.pos (by omega) (Ev.pos (by omega) (Ev.pos (by omega) ?_))
    rw [drop_cons h, rd_nat h]
    have ih' := ih (i + 1) (by omega) (by omega)
    rw [if_neg (by omega), Nat.add_sub_cancel, List.getD_eq_getElem?_getD, List.getElem?_eq_getElem h, Option.getD_some] at ih'
    simp only [chainS]
    refine Ev.ite (fun h1 => Ev.ok (by rw [if_pos (.inl h1)])) (fun h1 => ?_)
    refine Ev.ite (fun h2 => Ev.ok (by rw [if_pos (.inr (.inl h2))])) (fun h2 => ?_)
    rw [wrap_eq (x := (i : Int) + 1) (by omega) (by omega)]
    refine Ev.ite (fun h3 => ?_) (fun h3 => ?_)
    · have e : (i : Int) - 1 = ((i - 1 : Nat) : Int) := by omega
      rw [if_neg (show ¬ i = 0 by omega), wrap_eq (x := (i : Int) - 1) (by omega) (by omega), e, rd_nat (show i - 1 < l.length by omega), List.getD_eq_getElem?_getD, List.getElem?_eq_getElem (show i - 1 < l.length by omega), Option.getD_some]
      refine Ev.pos (by omega) (Ev.pos (by omega) ?_)
      refine Ev.ite (fun h4 => Ev.ok (by rw [if_pos (.inr (.inr h4))])) (fun h4 => ?_)
      rw [if_neg (by omega)]
      exact ih'
    · rw [if_pos (show i = 0 by omega), if_neg (by omega)]
      exact ih'
theorem ref_check_f (l : List Int) : Ev (fun k => backhaulref04_Check.f k l) (checkS l) := by
  unfold backhaulref04_Check.f checkS
  by_cases h : l.length = 4
  · rw [if_pos h]
    exact Ev.pos (by omega) (ref_check_l0 h l.length 0 (by omega) (by omega))
  · rw [if_neg h]
    exact Ev.neg (by omega) (Ev.ok rfl)
theorem checkS_len {l : List Int} (h : checkS l = 0) : l.length = 4 := by
  unfold checkS at h
  split at h
  · assumption
  · simp at h
theorem fee_grade_f (a : Int) (l : List Int) (g : Int) : Ev (fun k => fee_Grade.f k a l g) (gradeS a l g) := by
  unfold fee_Grade.f gradeS
  refine Ev.bind (fee_check_f l) ?_
  refine Ev.ite (fun h => ?_) (fun h => Ev.ok ?_)
  · rw [if_pos h]
    have := checkS_len h
    refine Ev.ite (fun h1 => Ev.ok (by rw [if_pos (.inl h1)])) (fun h1 => Ev.ite (fun h2 => Ev.ok (by rw [if_pos (.inr h2)])) (fun h2 => ?_))
    rw [if_neg (by omega)]
    exact Ev.pos (by omega) (Ev.pos (by omega) (Ev.bind (fee_less_f _ _) (Ev.ok rfl)))
  · rw [if_neg h, (checkS_or l).resolve_left h]
theorem ref_grade_f (a : Int) (l : List Int) (g : Int) (ha : -9223372036854775808 ≤ a) (ha' : a ≤ 9223372036854775807) : Ev (fun k => backhaulref04_Grade.f k a l g) (gradeS a l g) := by
  unfold backhaulref04_Grade.f gradeS
  refine Ev.bind (ref_check_f l) ?_
  refine Ev.ite (fun h => ?_) (fun h => Ev.ok ?_)
  · rw [if_pos h]
    have := checkS_len h
    refine Ev.ite (fun h1 => Ev.ok (by rw [if_pos (.inl h1)])) (fun h1 => Ev.ite (fun h2 => Ev.ok (by rw [if_pos (.inr (by omega))])) (fun h2 => ?_))
    rw [if_neg (by omega)]
    exact Ev.pos (by omega) (Ev.pos (by omega) (Ev.bind (ref_less_f _ _ ha ha') (Ev.ok rfl)))
  · rw [if_neg h]
theorem fee_step_f {a x : Int} {c : Nat → Int → Option (Int × Int × Int × Int × Int)} {C : Int → Int × Int × Int × Int × Int} (h : ∀ v, Ev (fun k => c k v) (C v)) : Ev (fun k => fee_All.step k a x (c k)) (stepS (lessS a x) C) := by
  unfold fee_All.step stepS
  refine Ev.bind (fee_paid_less_f a x) ?_
  refine Ev.ite (fun h1 => by rw [if_pos h1]; exact h _) (fun h1 => Ev.ok (by rw [if_neg h1]))
theorem ref_step_f {a x : Int} (ha : -9223372036854775808 ≤ a) (ha' : a ≤ 9223372036854775807) {c : Nat → Int → Option (Int × Int × Int × Int × Int)} {C : Int → Int × Int × Int × Int × Int} (h : ∀ v, Ev (fun k => c k v) (C v)) : Ev (fun k => backhaulref04_All.step k a x (c k)) (stepS (lessS a x) C) := by
  unfold backhaulref04_All.step stepS
  refine Ev.bind (ref_less_f a x ha ha') ?_
  refine Ev.ite (fun h1 => by rw [if_pos h1]; exact h _) (fun h1 => Ev.ok (by rw [if_neg h1]))
theorem fee_all_f (a : Int) (l : List Int) : Ev (fun k => fee_All.f k a l) (allS a l) := by
  unfold fee_All.f allS
  refine Ev.bind (fee_check_f l) ?_
  refine Ev.ite (fun h => ?_) (fun h => Ev.ok ?_)
  · rw [if_pos h]
    refine Ev.pos (checkS_len h) ?_
    unfold fee_All.rem
    exact fee_step_f fun x0 => fee_step_f fun x1 => fee_step_f fun x2 => fee_step_f fun x3 => Ev.ok rfl
  · rw [if_neg h, (checkS_or l).resolve_left h]
theorem ref_all_f (a : Int) (l : List Int) (ha : -9223372036854775808 ≤ a) (ha' : a ≤ 9223372036854775807) : Ev (fun k => backhaulref04_All.f k a l) (allS a l) := by
  unfold backhaulref04_All.f allS
  refine Ev.bind (ref_check_f l) ?_
  refine Ev.ite (fun h => ?_) (fun h => Ev.ok ?_)
  · rw [if_pos h]
    refine Ev.pos (checkS_len h) ?_
    unfold backhaulref04_All.rem
    exact ref_step_f ha ha' fun x0 => ref_step_f ha ha' fun x1 => ref_step_f ha ha' fun x2 => ref_step_f ha ha' fun x3 => Ev.ok rfl
  · rw [if_neg h]
end Go.Proofs.Ytefhljhpcpajgaa.Q

/- FeeTells: fees, one by one and as a table, are told as the document says, or refused; no condition. -/
namespace Go.Proofs.Ytefhljhpcpajgaa.Pure
open Go.RowKit Go.Proofs.Ytefhljhpcpajgaa.F Go.Proofs.Ytefhljhpcpajgaa.Q Go.Proofs.YtefhljhpcpajgaaW.PrintWords Go.Proofs.YtefhljhpcpajgaaW.PrintLast

theorem FeeTells : backhaullaw04_FeeTells.Pure := by
  intro a l b ha hl hb
  refine Ev.rounds (r := true) ?_
  unfold backhaullaw04_FeeTells.f
  have h := i64_bounds ha
  refine Q.Ev.ite (fun h => Q.Ev.const rfl) (fun hn => ?_)
  refine Ev.bind (fee_of_f a b) (Ev.bind (ref_of_f a b) (Ev.bind (fee_less_f a b) (Ev.bind (ref_less_f a b h.1 h.2) (Ev.bind (fee_grade_f a l b) (Ev.bind (ref_grade_f a l b h.1 h.2) (Ev.bind (fee_all_f a l) (Ev.bind (ref_all_f a l h.1 h.2) ?_)))))))
  refine Q.Ev.pos rfl (Q.Ev.pos rfl (Q.Ev.pos rfl (Q.Ev.pos rfl (Q.Ev.pos rfl (Q.Ev.pos rfl (Q.Ev.pos (by simp) (Q.Ev.pos rfl ?_)))))))
  exact Ev.bind (fee_check_f l) (Ev.bind (ref_check_f l) (Q.Ev.pos rfl (Q.Ev.const rfl)))
end Go.Proofs.Ytefhljhpcpajgaa.Pure

-- What an argument's reading as data says of its cells, kind by kind: for the rows of laws. (A template: seat's name for Ytefhljhpcpajgaa.)
set_option linter.unusedVariables false
set_option linter.unusedSimpArgs false
namespace Go.Proofs.YtefhljhpcpajgaaX
open Go.RowKit Go.Proofs.YtefhljhpcpajgaaW.PrintWords Go.Proofs.YtefhljhpcpajgaaW.PrintLast Go.Proofs.YtefhljhpcpajgaaW.PrintMore

/-- Whatever reads as data of type t is of kind k, and is ok. -/
def Opens {α : Type} (P : Program) (t : TypeId) (k : Kd α) (Ok : α → Prop) : Prop :=
  ∀ {H : Type} {enc : TypeId × Value → H} {w : World} {base : Nat} {spare : Nat → Bool} {held : Bool} {fuel : Nat} {cs : List Value} {x : DataW H × List MemPlace},
    DataW.trod enc P w base spare held fuel t cs = some x → ∃ a : α, k.K w a cs ∧ Ok a

theorem Opens.int {P : Program} {t : TypeId} {k : IntKind} (ht : P.underlying t = some (.int k)) : Opens P t (Kd.int k) (fun a => (Lit.int k a).wf = true) := by
  intro H enc w base spare held fuel cs x h
  obtain ⟨n, rfl, _, hw⟩ := DataW.trod_int ht h
  exact ⟨n, rfl, hw⟩
theorem Opens.bool {P : Program} {t : TypeId} (ht : P.underlying t = some .bool) : Opens P t Kd.bool (fun _ => True) := by
  intro H enc w base spare held fuel cs x h
  obtain ⟨n, rfl, _⟩ := DataW.trod_bool ht h
  exact ⟨n, rfl, trivial⟩
theorem Opens.string {P : Program} {t : TypeId} (ht : P.underlying t = some .string) : Opens P t Kd.string (fun a => a.size ≤ maxLen) := by
  intro H enc w base spare held fuel cs x h
  obtain ⟨s, rfl, _, hw⟩ := DataW.trod_string ht h
  exact ⟨s, rfl, hw⟩
theorem list_of {α : Type} {p : Nat → α → Prop} : ∀ n, (∀ i, i < n → ∃ a, p i a) → ∃ xs : List α, xs.length = n ∧ ∀ i a, xs[i]? = some a → p i a
  | 0, _ => ⟨[], rfl, fun i a h => by simp at h⟩
  | n + 1, h => by
    obtain ⟨xs, hl, hx⟩ := list_of n (fun i hi => h i (by omega))
    obtain ⟨a, ha⟩ := h n (by omega)
    refine ⟨xs ++ [a], by simp [hl], fun i b hb => ?_⟩
    rcases Nat.lt_or_ge i xs.length with h1 | h1
    · rw [List.getElem?_append_left h1] at hb
      exact hx i b hb
    · rw [List.getElem?_append_right h1] at hb
      have h2 : i - xs.length = 0 := by
        have := (List.getElem?_eq_some_iff.1 hb).1
        simp at this; omega
      rw [h2] at hb
      have : a = b := by simpa using hb
      subst this
      have : i = n := by omega
      rw [this]; exact ha
theorem Opens.slice {α : Type} {P : Program} {t e : TypeId} {k : Kd α} {Ok : α → Prop} (ht : P.underlying t = some (.slice e)) (hc : P.cellsOf e = k.sz) (h : Opens P e k Ok) :
    Opens P t (Kd.slice e k) (fun xs => xs.length ≤ maxLen ∧ ∀ x ∈ xs, Ok x) := by
  intro H enc w base spare held fuel cs x hx
  rcases Go.Deep.open_slice ht hx with ⟨rfl, rfl⟩ | ⟨a, len, cap, m, n, D, Pl, rfl, hb, hl, hm, hmm, rfl, hel⟩
  · exact ⟨[], ⟨none, 0, rfl, by simp, rfl, by simp, fun h => absurd h (by simp)⟩, by simp [maxLen], by simp⟩
  · have hlm : len ≤ m := by rw [hmm]; split <;> omega
    obtain ⟨xs, hlen, hxs⟩ := list_of (p := fun i (a' : α) => ∃ cs', w.cells? base (a.add (i * P.cellsOf e)) (P.cellsOf e) = some cs' ∧ k.K w a' cs' ∧ Ok a') len (fun i hi => by
      obtain ⟨cs', h1, h2⟩ := hel i (by omega)
      obtain ⟨a', h3, h4⟩ := h h2
      exact ⟨a', cs', h1, h3, h4⟩)
    have hlm2 : len ≤ maxLen := by omega
    refine ⟨xs, ⟨some a, cap, by rw [hlen], by rw [hlen]; exact hl, rfl, by rw [hlen]; simpa [maxLen] using hlm2, fun _ => ⟨a, rfl, fun j p hj => ?_⟩⟩, by rw [hlen]; exact hlm2, fun y hy => ?_⟩
    · obtain ⟨cs', h1, h2, _⟩ := hxs j p hj
      refine ⟨cs', k.K_len h2, h2, fun i u hu => ?_⟩
      obtain ⟨_, _, h3⟩ := World.cells?_some h1
      have h4 := h3 i (by have := (List.getElem?_eq_some_iff.1 hu).1; have := k.K_len h2; omega)
      rw [← hc, ← Go.Proofs.YtefhljhpcpajgaaW.PrintWords.add_add]
      rw [← hu]; exact h4
    · obtain ⟨i, hi, rfl⟩ := List.mem_iff_getElem.1 hy
      obtain ⟨_, _, _, h3⟩ := hxs i _ (List.getElem?_eq_getElem hi)
      exact h3
theorem field_reads {H : Type} {enc : TypeId × Value → H} {P : Program} {w : World} {base : Nat} {spare : Nat → Bool} {held : Bool} {fuel : Nat} {t : TypeId} {cs : List Value} {x : DataW H × List MemPlace} {fs : Array Field}
    (ht : P.underlying t = some (.struct fs)) (h : DataW.trod enc P w base spare held fuel t cs = some x) :
    cs.length = P.cellsOf t ∧ ∃ n, ∀ (i : Nat) (f : Field), fs[i]? = some f → ∃ y, DataW.trod enc P w base spare held n f.type ((cs.drop f.offset).take (P.cellsOf f.type)) = some y := by
  obtain ⟨xs, n, _, _, hl, hx, hf⟩ := DataW.trod_struct ht h
  refine ⟨hl, n, fun i f hif => ?_⟩
  rw [hf i f hif]
  have hi := (Array.getElem?_eq_some_iff.1 hif).1
  exact ⟨_, List.getElem?_eq_getElem (by rw [hx]; exact hi)⟩
theorem cell_reads {H : Type} {enc : TypeId × Value → H} {P : Program} {w : World} {base : Nat} {spare : Nat → Bool} {held : Bool} {fuel : Nat} {t e : TypeId} {m : Nat} {cs : List Value} {x : DataW H × List MemPlace}
    (ht : P.underlying t = some (.array m e)) (h : DataW.trod enc P w base spare held fuel t cs = some x) :
    cs.length = P.cellsOf t ∧ ∃ n, ∀ (i : Nat), i < m → ∃ y, DataW.trod enc P w base spare held n e ((cs.drop (i * P.cellsOf e)).take (P.cellsOf e)) = some y := by
  obtain ⟨xs, n, _, _, hl, hx, hf⟩ := DataW.trod_array ht h
  refine ⟨hl, n, fun i hi => ?_⟩
  rw [hf i hi]
  exact ⟨_, List.getElem?_eq_getElem (by rw [hx]; exact hi)⟩
theorem okWide_array' {P : Program} {w : World} {r : Reach} {base : Nat} {t e : TypeId} {m : Nat} {v : Value} (ht : P.underlying t = some (.array m e)) (h : Value.okWide P w r base t v) : ∃ cs, v = .agg cs ∧ cs.size = P.cellsOf t := by
  simp only [Value.okWide, ht] at h
  obtain ⟨cs, h1, h2, _⟩ := h
  exact ⟨cs, h1, h2⟩
/-- The cells of a slice's value. -/
theorem slice_cells {α : Type} {k : Kd α} {e : Nat} {w : World} {xs : List α} {v : Value} (h : (Kd.slice e k).K w xs [v]) : ∃ A c, v = .slice A xs.length c ∧ xs.length ≤ c ∧ k.C w A xs.length xs := by
  obtain ⟨A, c, he, hl, hc⟩ := h
  injection he with he
  exact ⟨A, c, he, hl, hc⟩
/-! The program's head, read once: a long text's signs, told as a list. -/
theorem band {a b : Bool} (h1 : a = true) (h2 : b = true) : (a && b) = true := by rw [h1, h2]; rfl
theorem mayEnter_of {P : Program} {L c : List Char} {rest : List (List Char)} (h : P.initOrder.toList = L) (h1 : behindMainWord (wordsSigns L) = c :: rest) (h2 : ((stripLifts liftWords (c :: rest)).2.head? == some "cut".toList) = true) (h3 : P.laysLater = false) (h4 : P.bearsReflect = false) (h5 : (stripLifts liftWords (c :: rest)).1 = []) (h6 : P.doorFits [] = true) : P.mayEnter = true := by
  unfold Program.mayEnter
  rw [h, h1]
  dsimp only
  rw [h2, h3, h4, h5, h6]
  simp
theorem make_of {P : Program} {L : List Char} {rest : List (List Char)} (h : P.initOrder.toList = L) (h1 : behindMainWord (wordsSigns L) = "cut".toList :: rest) : P.make = some .cut := by
  unfold Program.make
  rw [h, h1]
  dsimp only
  rw [if_neg (by decide), if_pos (by simp)]
end Go.Proofs.YtefhljhpcpajgaaX

-- The program's head, as a list of signs. (A template.)
set_option maxRecDepth 10000
namespace Go.Proofs.Ytefhljhpcpajgaa.Join
open Go.Proofs.YtefhljhpcpajgaaX
def initSigns : List Char := ['h', 'a', 'r', 'n', 'e', 's', 's', ' ', '5', '6', '5', 'd', 'd', 'd', '3', '6', '6', '5', 'c', '5', '5', '9', 'c', '2', '4', '9', 'e', '2', 'e', '3', '7', '8', 'c', '7', '1', 'b', 'b', 'b', '4', '7', '4', '9', '6', '8', '7', '8', 'a', '7', '0', 'b', '1', 'c', '4', '8', '9', 'f', '4', '3', '5', '5', '6', 'b', 'b', '7', 'f', '7', 'f', '7', '4', '9', '2', 'f', ' ', 'c', 'u', 't', ' ', 'a', 't', ' ', 'b', 'a', 'c', 'k', 'h', 'a', 'u', 'l', '/', 'b', 'a', 'c', 'k', 'h', 'a', 'u', 'l', 'l', 'a', 'w', '0', '2', '.', 'C', 'e', 'n', 't', 's', 'S', 'u', 'm', 's', ' ', 'b', 'a', 'c', 'k', 'h', 'a', 'u', 'l', '/', 'b', 'a', 'c', 'k', 'h', 'a', 'u', 'l', 'l', 'a', 'w', '0', '2', '.', 'C', 'e', 'n', 't', 's', 'S', 'h', 'a', 'r', 'e', 's', ' ', 'b', 'a', 'c', 'k', 'h', 'a', 'u', 'l', '/', 'b', 'a', 'c', 'k', 'h', 'a', 'u', 'l', 'l', 'a', 'w', '0', '2', '.', 'C', 'e', 'n', 't', 's', 'O', 'v', 'e', 'r', ' ', 'b', 'a', 'c', 'k', 'h', 'a', 'u', 'l', '/', 'b', 'a', 'c', 'k', 'h', 'a', 'u', 'l', 'l', 'a', 'w', '0', '2', '.', 'C', 'e', 'n', 't', 's', 'D', 'i', 'v', 's', ' ', 'b', 'a', 'c', 'k', 'h', 'a', 'u', 'l', '/', 'b', 'a', 'c', 'k', 'h', 'a', 'u', 'l', 'l', 'a', 'w', '0', '4', '.', 'F', 'e', 'e', 'T', 'e', 'l', 'l', 's', ' ', 'b', 'a', 'c', 'k', 'h', 'a', 'u', 'l', '/', 'b', 'a', 'c', 'k', 'h', 'a', 'u', 'l', 'l', 'a', 'w', '0', '4', '.', 'F', 'e', 'e', 'B', 'o', 'u', 'n', 'd', 's', ' ', 'b', 'a', 'c', 'k', 'h', 'a', 'u', 'l', '/', 'b', 'a', 'c', 'k', 'h', 'a', 'u', 'l', 'l', 'a', 'w', '0', '4', '.', 'F', 'e', 'e', 'S', 't', 'e', 'p', 's', ' ', 'b', 'a', 'c', 'k', 'h', 'a', 'u', 'l', '/', 'b', 'a', 'c', 'k', 'h', 'a', 'u', 'l', 'l', 'a', 'w', '0', '3', '.', 'S', 'h', 'a', 'r', 'e', 'D', 'e', 'a', 'l', 's', ' ', 'b', 'a', 'c', 'k', 'h', 'a', 'u', 'l', '/', 'b', 'a', 'c', 'k', 'h', 'a', 'u', 'l', 'l', 'a', 'w', '0', '3', '.', 'S', 'h', 'a', 'r', 'e', 'A', 'l', 'l', ' ', 'b', 'a', 'c', 'k', 'h', 'a', 'u', 'l', '/', 'b', 'a', 'c', 'k', 'h', 'a', 'u', 'l', 'l', 'a', 'w', '0', '3', '.', 'S', 'h', 'a', 'r', 'e', 'F', 'a', 'i', 'r', ' ', 'b', 'a', 'c', 'k', 'h', 'a', 'u', 'l', '/', 'b', 'a', 'c', 'k', 'h', 'a', 'u', 'l', 'l', 'a', 'w', '2', '1', '.', 'L', 'i', 'n', 'e', 'D', 'e', 'a', 'l', 's', ' ', 'b', 'a', 'c', 'k', 'h', 'a', 'u', 'l', '/', 'b', 'a', 'c', 'k', 'h', 'a', 'u', 'l', 'l', 'a', 'w', '2', '1', '.', 'L', 'i', 'n', 'e', 'T', 'e', 'l', 'l', 's', ' ', 'b', 'a', 'c', 'k', 'h', 'a', 'u', 'l', '/', 'b', 'a', 'c', 'k', 'h', 'a', 'u', 'l', 'l', 'a', 'w', '2', '1', '.', 'L', 'i', 'n', 'e', 'A', 'l', 'l', ' ', 'b', 'a', 'c', 'k', 'h', 'a', 'u', 'l', '/', 'b', 'a', 'c', 'k', 'h', 'a', 'u', 'l', 'l', 'a', 'w', '2', '1', '.', 'L', 'i', 'n', 'e', 'U', 'n', 'i', 't', 's', ' ', 'b', 'a', 'c', 'k', 'h', 'a', 'u', 'l', '/', 'b', 'a', 'c', 'k', 'h', 'a', 'u', 'l', 'l', 'a', 'w', '2', '2', '.', 'V', 'a', 'l', 'u', 'e', 'T', 'e', 'l', 'l', 's', ' ', 'b', 'a', 'c', 'k', 'h', 'a', 'u', 'l', '/', 'b', 'a', 'c', 'k', 'h', 'a', 'u', 'l', 'l', 'a', 'w', '2', '2', '.', 'V', 'a', 'l', 'u', 'e', 'B', 'o', 'u', 'n', 'd', 's', ' ', 'b', 'a', 'c', 'k', 'h', 'a', 'u', 'l', '/', 'b', 'a', 'c', 'k', 'h', 'a', 'u', 'l', 'l', 'a', 'w', '2', '2', '.', 'V', 'a', 'l', 'u', 'e', 'W', 'h', 'o', 'l', 'e', ' ', 'b', 'a', 'c', 'k', 'h', 'a', 'u', 'l', '/', 'b', 'a', 'c', 'k', 'h', 'a', 'u', 'l', 'l', 'a', 'w', '2', '6', '.', 'O', 'r', 'd', 'e', 'r', 'M', 'a', 'k', 'e', 's', ' ', 'b', 'a', 'c', 'k', 'h', 'a', 'u', 'l', '/', 'b', 'a', 'c', 'k', 'h', 'a', 'u', 'l', 'l', 'a', 'w', '2', '6', '.', 'O', 'r', 'd', 'e', 'r', 'T', 'e', 'l', 'l', 's', ' ', 'b', 'a', 'c', 'k', 'h', 'a', 'u', 'l', '/', 'b', 'a', 'c', 'k', 'h', 'a', 'u', 'l', 'l', 'a', 'w', '2', '6', '.', 'O', 'r', 'd', 'e', 'r', 'D', 'e', 'a', 'l', 's', ' ', 'b', 'a', 'c', 'k', 'h', 'a', 'u', 'l', '/', 'b', 'a', 'c', 'k', 'h', 'a', 'u', 'l', 'l', 'a', 'w', '2', '6', '.', 'O', 'r', 'd', 'e', 'r', 'F', 'i', 'n', 'd', 's']
theorem initText : Try.pinned.checked.prog.initOrder = String.ofList initSigns := by kernel_rfl
theorem initList : Try.pinned.checked.prog.initOrder.toList = initSigns := (congrArg String.toList initText).trans String.toList_ofList
theorem mayEnter_is : Try.pinned.checked.prog.mayEnter = true :=
  mayEnter_of (L := initSigns) (c := "cut".toList) (rest := (behindMainWord (wordsSigns initSigns)).tail) initList (by kernel_rfl) (by kernel_rfl) (by kernel_rfl) (by kernel_rfl) (by kernel_rfl) (by kernel_rfl)
theorem make_is : Try.pinned.checked.prog.make = some .cut :=
  make_of (L := initSigns) (rest := (behindMainWord (wordsSigns initSigns)).tail) initList (by kernel_rfl)
theorem lifts_is : Try.pinned.checked.prog.liftsFinal = false := by
  unfold Program.liftsFinal Program.headLifts
  rw [initList]
  kernel_rfl
end Go.Proofs.Ytefhljhpcpajgaa.Join

namespace Go.Proofs.Ytefhljhpcpajgaa.feeTells
open Go.ChangeShapes Go.WideShapes Go.ChangeAt Go.RowKit Go.Proofs.YtefhljhpcpajgaaX Go.Proofs.Ytefhljhpcpajgaa.F Go.Proofs.YtefhljhpcpajgaaW.PrintWords Go.Proofs.YtefhljhpcpajgaaW.PrintLast Go.Proofs.YtefhljhpcpajgaaW.PrintMore
open Go.ChangeMaps (open_string shut_string)
set_option linter.unusedVariables false
set_option linter.unusedSimpArgs false
theorem own : ownKnob Try.prog.godebug = none := by kernel_rfl
theorem laidOut : laidOutB Try.prog = true := by kernel_rfl
set_option maxRecDepth 100000 in
theorem lifted (os : Os) (started : os.Started) (H : Type) (enc : TypeId × Value → H) :
    ReturnsInHanded {} Try.checked os 7 .any (Rows.feeTellsSpec.pre6 enc Try.prog Try.f7 Rows.feeTellsRow.domain false) (Rows.feeTellsSpec.post enc Try.prog Try.f7 false true false false) := by
  refine returnsInHanded_of_change_sized (C := Try.checked) own started (by kernel_rfl) Try.func7
    (ChangeSpec.witness6 (enc := enc) (C := Try.checked) false ⟨#[], #[.int .i64 0, .slice none 0 0, .int .i64 0], []⟩ 8 (by kernel_rfl) (by kernel_rfl) (by kernel_rfl) (by kernel_rfl)) ?_
  intro W base args ds gs before hval0 hW hcnd hsz0 _
  have hval : ∀ (j : Nat) t v, Try.f7.params[j]? = some t → args[j]? = some v → Value.okWide Try.prog W .any base t v := hval0
  have hW' := hW
  obtain ⟨p, q, hA0, hV, rfl, hfz, hnd⟩ := hW
  have hA : DataW.TrodAll enc Try.prog W 0 (fun _ => true) true Try.f7.params.toList args.toList ds p := hA0
  rw [Try.params7] at hA hval
  obtain ⟨v0, vs0, d0, ds0, p0, q0, hargs, rfl, rfl, h0, r0⟩ := trodAll_cons hA
  obtain ⟨v1, vs1, d1, ds1, p1, q1, rfl, rfl, rfl, h1, r1⟩ := trodAll_cons r0
  obtain ⟨v2, vs2, d2, ds2, p2, q2, rfl, rfl, rfl, h2, r2⟩ := trodAll_cons r1
  obtain ⟨rfl, rfl, rfl⟩ := trodAll_nil r2
  obtain rfl : args = #[v0, v1, v2] := by cases args; simp_all
  obtain ⟨rfl, rfl⟩ := trodVars_none hV
  have k0 := h0
  have lt0 : ∀ x ∈ p0, x.block < W.heap.size := by obtain ⟨m, hm⟩ := k0; exact DataW.trod_lt m _ _ _ hm
  obtain ⟨x0, rfl⟩ := okWide_int Try.underlying3 (hval 0 3 v0 rfl rfl)
  obtain ⟨f0, hf0⟩ := h0
  obtain ⟨z0, hk0, ho0⟩ := (Opens.int Try.underlying3) hf0
  obtain rfl : x0 = z0 := by have := hk0; injection this with this; injection this
  have k1 := h1
  have lt1 : ∀ x ∈ p1, x.block < W.heap.size := by obtain ⟨m, hm⟩ := k1; exact DataW.trod_lt m _ _ _ hm
  obtain ⟨b1, len1, cap1, rfl⟩ := okWide_slice Try.underlying22 (hval 1 22 v1 rfl rfl)
  obtain ⟨f1, hf1⟩ := h1
  obtain ⟨x1, hk1, ho1⟩ := (Opens.slice Try.underlying22 (by kernel_rfl) (Opens.int Try.underlying3)) hf1
  obtain ⟨A1, c1, he1, hl1, hc1⟩ := slice_cells (show _ from hk1)
  injection he1 with e1_1 e1_2 e1_3
  subst e1_1 e1_2 e1_3
  have k2 := h2
  have lt2 : ∀ x ∈ p2, x.block < W.heap.size := by obtain ⟨m, hm⟩ := k2; exact DataW.trod_lt m _ _ _ hm
  obtain ⟨x2, rfl⟩ := okWide_int Try.underlying3 (hval 2 3 v2 rfl rfl)
  obtain ⟨f2, hf2⟩ := h2
  obtain ⟨z2, hk2, ho2⟩ := (Opens.int Try.underlying3) hf2
  obtain rfl : x2 = z2 := by have := hk2; injection this with this; injection this
  obtain ⟨k, h⟩ : ∃ k, backhaullaw04_FeeTells.f k x0 x1 x2 = some true := Pure.FeeTells x0 x1 x2 ho0 ho1 ho2
  refine (backhaullaw04_FeeTells.calls k x0 _ _ x1 x2 W hc1 hl1 h).mono fun e W' hq => ?_
  obtain ⟨he, bel0⟩ := hq
  have bel : Below W.heap.size W W' := bel0
  subst he
  exact ⟨_, rfl, _, _, _, [], _, [], hW', trodAll_mk1 (shut_bool Try.underlying4 _), (trodAll_cons_mk (Below.trod laidOut (by kernel_rfl) (of_decide_eq_true (by kernel_rfl)) k0 bel lt0) (trodAll_cons_mk (Below.trod laidOut (by kernel_rfl) (of_decide_eq_true (by kernel_rfl)) k1 bel lt1) (trodAll_cons_mk (Below.trod laidOut (by kernel_rfl) (of_decide_eq_true (by kernel_rfl)) k2 bel lt2) trodAll_mk0))), rfl, bel.frame _, fun h => by cases h⟩
theorem closed_ : joinedFacts Try.pinned.checked.prog 7 Try.f7 Rows.feeTellsSpec Rows.feeTellsRow = true := by
  unfold joinedFacts
  repeat' (with_reducible apply band)
  any_goals with_reducible exact Join.mayEnter_is
  any_goals (rw [Join.make_is]; kernel_rfl)
  any_goals (rw [Join.lifts_is]; kernel_rfl)
  all_goals kernel_rfl
theorem over : Rows.feeTellsRow.holds Try.pinned (OpenSpec.ofChange Rows.feeTellsSpec) :=
  OpenClaim.holds_of_wide 7 Try.f7 rfl rfl rfl rfl rfl rfl rfl ⟨rfl, rfl, rfl, rfl, rfl⟩ rfl rfl rfl rfl rfl (by kernel_rfl) Try.func7 closed_
    (of_decide_eq_true (by kernel_rfl)) (by unfold Func.isWrapper; first | (rw [if_pos (by decide +kernel)]; kernel_rfl) | (rw [if_neg (by decide +kernel)]; exact ⟨rfl, rfl⟩))
    (fun os started H enc _ => lifted os started H enc)
theorem proved : Rows.FeeTellsSaid := over
#print axioms proved
end Go.Proofs.Ytefhljhpcpajgaa.feeTells
namespace Go.Proofs.Ytefhljhpcpajgaa
/-- The row, under a short name, for the claim. -/
theorem feeTells_holds : Rows.FeeTellsSaid := feeTells.proved
end Go.Proofs.Ytefhljhpcpajgaa

