-- merged by merge.py (the session's own program)
import Derived.Deep.Slices
import Derived.ChangeArms
import Derived.WideShapes
import Derived.OpenShut
import Derived.Test.YtefhljhpcpajgaaRows
import Derived.WalkKit
import Derived.ProofKit
import Derived.WideLaws
import Derived.ShutString
import Derived.ChangeOld
import Derived.Below
import Derived.SizedLaws
import Derived.Carry
import Derived.Test.YtefhljhpcpajgaaZFeeBounds1
namespace Go.Proofs.Ytefhljhpcpajgaa.F
open Go.RowKit Go.Proofs.YtefhljhpcpajgaaX Go.Proofs.YtefhljhpcpajgaaW.PrintWords Go.Proofs.YtefhljhpcpajgaaW.PrintLast Go.Proofs.YtefhljhpcpajgaaW.PrintMore
attribute [local go_sem] max2_int min2_int max_two min_two max_three min_three max_four min_four   -- for this text's walks alone
set_option linter.unusedVariables false
set_option linter.unusedSimpArgs false

/-! ### backhaulref02_Div: function 102 -/
mutual
def backhaulref02_Div.l0 : Nat → Int → Int → Int → Int → Int → Int → Option (Int × Int)
  | 0, _, _, _, _, _, _ => none
  | k + 1, x0, x1, x2, x8, x9, x10 => if x10 ≥ 0 then (if 0 ≤ (IntKind.u64.wrap (x10)) then (if (Int.tmod (shr .i64 x1 (IntKind.u64.wrap (x10))) 2) = 1 then (if x2 = 0 then (none) else (backhaulref02_Div.j1 k x0 x1 x2 (wrap64 ((wrap64 (2 * x8)) + (wrap64 (Int.tdiv x0 x2)))) (wrap64 ((wrap64 (2 * x9)) + (Int.tmod x0 x2))) x10)) else (backhaulref02_Div.j1 k x0 x1 x2 (wrap64 (2 * x8)) (wrap64 (2 * x9)) x10)) else (none)) else (some (x8, x9))
def backhaulref02_Div.j1 : Nat → Int → Int → Int → Int → Int → Int → Option (Int × Int)
  | 0, _, _, _, _, _, _ => none
  | k + 1, x0, x1, x2, x8, x9, x10 => backhaulref02_Div.l1 k x0 x1 x2 x8 x9 x10
def backhaulref02_Div.l1 : Nat → Int → Int → Int → Int → Int → Int → Option (Int × Int)
  | 0, _, _, _, _, _, _ => none
  | k + 1, x0, x1, x2, x8, x9, x10 => if x9 ≥ x2 then (backhaulref02_Div.l1 k x0 x1 x2 (wrap64 (x8 + 1)) (wrap64 (x9 - x2)) x10) else (if x8 > 4000000000000 then (some ((-1), 0)) else (backhaulref02_Div.l0 k x0 x1 x2 x8 x9 (wrap64 (x10 - 1))))
end
def backhaulref02_Div.f (k : Nat) (a0 : Int) (a1 : Int) (a2 : Int) : Option (Int × Int) := backhaulref02_Div.l0 k a0 a1 a2 0 0 40
theorem backhaulref02_Div.mono_l : ∀ k, (∀ y0 y1 y2 y3 y4 y5, LeO (backhaulref02_Div.l0 k y0 y1 y2 y3 y4 y5) (backhaulref02_Div.l0 (k + 1) y0 y1 y2 y3 y4 y5)) ∧ (∀ y0 y1 y2 y3 y4 y5, LeO (backhaulref02_Div.j1 k y0 y1 y2 y3 y4 y5) (backhaulref02_Div.j1 (k + 1) y0 y1 y2 y3 y4 y5)) ∧ (∀ y0 y1 y2 y3 y4 y5, LeO (backhaulref02_Div.l1 k y0 y1 y2 y3 y4 y5) (backhaulref02_Div.l1 (k + 1) y0 y1 y2 y3 y4 y5))
  | 0 => ⟨fun _ _ _ _ _ _ r h => by simp [backhaulref02_Div.l0] at h, fun _ _ _ _ _ _ r h => by simp [backhaulref02_Div.j1] at h, fun _ _ _ _ _ _ r h => by simp [backhaulref02_Div.l1] at h⟩
  | k + 1 => by
    obtain ⟨ih0, ih1, ih2⟩ := backhaulref02_Div.mono_l k
    refine ⟨?_, ?_, ?_⟩
    · intro y0 y1 y2 y3 y4 y5
      unfold backhaulref02_Div.l0
      repeat' first
      | (with_reducible exact ih0 _ _ _ _ _ _)
      | (with_reducible exact ih1 _ _ _ _ _ _)
      | (with_reducible exact ih2 _ _ _ _ _ _)
      | (with_reducible exact LeO.refl _)
      | (with_reducible exact LeO.none _)
      | (with_reducible refine LeO.ite ?_ ?_)
      | (with_reducible refine LeO.bind ?_ (fun _ => ?_))
      | exact ih0 _ _ _ _ _ _
      | exact ih1 _ _ _ _ _ _
      | exact ih2 _ _ _ _ _ _
      | exact LeO.none _
      | refine LeO.ite ?_ ?_
      | refine LeO.bind ?_ (fun _ => ?_)
    · intro y0 y1 y2 y3 y4 y5
      unfold backhaulref02_Div.j1
      repeat' first
      | (with_reducible exact ih0 _ _ _ _ _ _)
      | (with_reducible exact ih1 _ _ _ _ _ _)
      | (with_reducible exact ih2 _ _ _ _ _ _)
      | (with_reducible exact LeO.refl _)
      | (with_reducible exact LeO.none _)
      | (with_reducible refine LeO.ite ?_ ?_)
      | (with_reducible refine LeO.bind ?_ (fun _ => ?_))
      | exact ih0 _ _ _ _ _ _
      | exact ih1 _ _ _ _ _ _
      | exact ih2 _ _ _ _ _ _
      | exact LeO.none _
      | refine LeO.ite ?_ ?_
      | refine LeO.bind ?_ (fun _ => ?_)
    · intro y0 y1 y2 y3 y4 y5
      unfold backhaulref02_Div.l1
      repeat' first
      | (with_reducible exact ih0 _ _ _ _ _ _)
      | (with_reducible exact ih1 _ _ _ _ _ _)
      | (with_reducible exact ih2 _ _ _ _ _ _)
      | (with_reducible exact LeO.refl _)
      | (with_reducible exact LeO.none _)
      | (with_reducible refine LeO.ite ?_ ?_)
      | (with_reducible refine LeO.bind ?_ (fun _ => ?_))
      | exact ih0 _ _ _ _ _ _
      | exact ih1 _ _ _ _ _ _
      | exact ih2 _ _ _ _ _ _
      | exact LeO.none _
      | refine LeO.ite ?_ ?_
      | refine LeO.bind ?_ (fun _ => ?_)
theorem backhaulref02_Div.mono : ∀ a0 a1 a2 k, LeO (backhaulref02_Div.f k a0 a1 a2) (backhaulref02_Div.f (k + 1) a0 a1 a2) := by
  intro a0 a1 a2 k
  obtain ⟨ih0, ih1, ih2⟩ := backhaulref02_Div.mono_l k
  unfold backhaulref02_Div.f
  repeat' first
      | (with_reducible exact ih0 _ _ _ _ _ _)
      | (with_reducible exact ih1 _ _ _ _ _ _)
      | (with_reducible exact ih2 _ _ _ _ _ _)
      | (with_reducible exact LeO.refl _)
      | (with_reducible exact LeO.none _)
      | (with_reducible refine LeO.ite ?_ ?_)
      | (with_reducible refine LeO.bind ?_ (fun _ => ?_))
      | exact ih0 _ _ _ _ _ _
      | exact ih1 _ _ _ _ _ _
      | exact ih2 _ _ _ _ _ _
      | exact LeO.none _
      | refine LeO.ite ?_ ?_
      | refine LeO.bind ?_ (fun _ => ?_)
set_option maxHeartbeats 8000000 in
set_option maxRecDepth 100000 in
theorem backhaulref02_Div.calls (k : Nat) (a0 : Int) (a1 : Int) (a2 : Int) (r1 : Int) (r2 : Int) (w : World) (h : backhaulref02_Div.f k a0 a1 a2 = some (r1, r2)) :
    Calls Try.prog 102 #[.int .i64 a0, .int .i64 a1, .int .i64 a2] w fun e w' => e = .returned (.tuple #[.int .i64 r1, .int .i64 r2]) ∧ Drawn0 w w' := by
  have H : (backhaulref02_Div.l0 k a0 a1 a2 0 0 40) = some (r1, r2) := h
  clear h
  have H' := Aside0.mk H
  clear H
  go_enter Try.func102, Try.ntmps102
  go_wp2
  go_loopg [8, 9, 10] k (fun kq v8 v9 v10 w' => ∃ (x8_1 : Int) (x9_1 : Int) (x10_1 : Int), v8 = .int .i64 x8_1 ∧ v9 = .int .i64 x9_1 ∧ v10 = .int .i64 x10_1 ∧ Aside0 (backhaulref02_Div.l0 kq a0 a1 a2 x8_1 x9_1 x10_1 = some (r1, r2)) ∧ Aside0 (kq ≤ k) ∧ Drawn0 w w')
  case atStart => exact ⟨(0), (0), (40), (by first | rfl | (simp; done) | (simp [*]; done)), (by first | rfl | (simp; done) | (simp [*]; done)), (by first | rfl | (simp; done) | (simp [*]; done)), H', ⟨Nat.le_refl _⟩, by repeat (first | exact Drawn0.refl _ | apply Drawn0.step)⟩
  case round =>
    clear H'
    try clear c1
    try clear p2
    obtain ⟨x8_1, x9_1, x10_1, rfl, rfl, rfl, HA, HK1, ⟨m1, rfl⟩⟩ := hrel
    cases gk with
    | zero => exact absurd HA.out (by simp [backhaulref02_Div.l0])
    | succ k1 =>
      have H := HA.out
      clear HA
      simp only [backhaulref02_Div.l0] at H
      by_cases c4 : x10_1 ≥ 0
      · rw [if_pos c4] at H
        have c4b0 : decide (0 ≤ x10_1) = true := decide_eq_true c4
        clear c4
        obtain ⟨ji5, hji5⟩ : ∃ j_ : Int, (IntKind.u64.wrap (x10_1)) = j_ := ⟨_, rfl⟩
        replace H : (if 0 ≤ (ji5) then (if (Int.tmod (shr .i64 a1 (ji5)) 2) = 1 then (if a2 = 0 then (none) else (backhaulref02_Div.j1 k1 a0 a1 a2 (wrap64 ((wrap64 (2 * x8_1)) + (wrap64 (Int.tdiv a0 a2)))) (wrap64 ((wrap64 (2 * x9_1)) + (Int.tmod a0 a2))) x10_1)) else (backhaulref02_Div.j1 k1 a0 a1 a2 (wrap64 (2 * x8_1)) (wrap64 (2 * x9_1)) x10_1)) else (none)) = some (r1, r2) := by first | (rw [hji5] at H; exact H) | (simp only [hji5] at H ⊢; exact H)
        by_cases c6 : 0 ≤ (ji5)
        · rw [if_pos c6] at H
          have c6b0 := eq_true c6
          have c6b1 : decide (0 ≤ (ji5)) = true := decide_eq_true c6
          clear c6
          obtain ⟨ji7, hji7⟩ : ∃ j_ : Int, (shr .i64 a1 (ji5)) = j_ := ⟨_, rfl⟩
          replace H : (if (Int.tmod (ji7) 2) = 1 then (if a2 = 0 then (none) else (backhaulref02_Div.j1 k1 a0 a1 a2 (wrap64 ((wrap64 (2 * x8_1)) + (wrap64 (Int.tdiv a0 a2)))) (wrap64 ((wrap64 (2 * x9_1)) + (Int.tmod a0 a2))) x10_1)) else (backhaulref02_Div.j1 k1 a0 a1 a2 (wrap64 (2 * x8_1)) (wrap64 (2 * x9_1)) x10_1)) = some (r1, r2) := by first | (rw [hji7] at H; exact H) | (simp only [hji7] at H ⊢; exact H)
          have hji7_ : (a1 / 2 ^ min (ji5).toNat 64) = ji7 := hji7
          have hji7z : (ji5) ≤ 64 → (a1 / 2 ^ (ji5).toNat) = ji7 := shr_small hji7
          have HC8 := Aside0.mk H
          clear H
          go_upto_if 24 with (fail)
          go_cut [8, 9] (fun v8 v9 wc => ∃ (kq : Nat) (x8_7 : Int) (x9_7 : Int), v8 = .int .i64 x8_7 ∧ v9 = .int .i64 x9_7 ∧ Aside0 (backhaulref02_Div.j1 kq a0 a1 a2 x8_7 x9_7 x10_1 = some (r1, r2)) ∧ Aside0 (kq ≤ k1) ∧ Drawn0 w wc)
          case first =>
            have H := HC8.out
            clear HC8
            by_cases c9 : (Int.tmod (ji7) 2) = 1
            · rw [if_pos c9] at H
              have c9b0 : ((Int.tmod (ji7) 2) == 1) = true := beq_iff_eq.mpr c9
              have c9b1 : ((Int.tmod (ji7) 2) != 1) = false := bne_eq_false_iff_eq.mpr c9
              clear c9
              (first | rw [c9b0] | (simp only [i64_w, i32_w]; rw [c9b0]) | skip)
              by_cases c10 : a2 = 0
              · rw [if_pos c10] at H
                exact absurd H (by simp)
              · rw [if_neg c10] at H
                have c10b0 : (a2 == 0) = false := beq_eq_false_iff_ne.mpr c10
                have c10b1 : (a2 != 0) = true := bne_iff_ne.mpr c10
                have H' := Aside0.mk H
                clear H
                go_wp2
                go_meet
                case rel => exact ⟨_, (wrap64 ((wrap64 (2 * x8_1)) + (wrap64 (Int.tdiv a0 a2)))), (wrap64 ((wrap64 (2 * x9_1)) + (Int.tmod a0 a2))), (by first | rfl | (simp; done) | (simp [*]; done)), (by first | rfl | (simp; done) | (simp [*]; done)), H', ⟨by have := HK1.out; first | omega | exact Nat.le_refl _⟩, by repeat (first | exact Drawn0.refl _ | apply Drawn0.step)⟩
            · rw [if_neg c9] at H
              have c9b0 : ((Int.tmod (ji7) 2) == 1) = false := beq_eq_false_iff_ne.mpr c9
              have c9b1 : ((Int.tmod (ji7) 2) != 1) = true := bne_iff_ne.mpr c9
              (first | rw [c9b0] | (simp only [i64_w, i32_w]; rw [c9b0]) | skip)
              have H' := Aside0.mk H
              clear H
              go_wp2
              go_meet
              case rel => exact ⟨_, (wrap64 (2 * x8_1)), (wrap64 (2 * x9_1)), (by first | rfl | (simp; done) | (simp [*]; done)), (by first | rfl | (simp; done) | (simp [*]; done)), H', ⟨by have := HK1.out; first | omega | exact Nat.le_refl _⟩, by repeat (first | exact Drawn0.refl _ | apply Drawn0.step)⟩
          case rest =>
            clear HC8
            try clear c1
            try clear p2
            try clear c4
            try clear c4b0
            try clear c6
            try clear c6b0
            try clear c6b1
            try clear p6
            try clear c9
            try clear c9b0
            try clear c9b1
            try clear c10
            try clear c10b0
            try clear c10b1
            try clear p2
            obtain ⟨kq, x8_7, x9_7, rfl, rfl, HA, HJ7, ⟨mc7, rfl⟩⟩ := hcut
            cases kq with
            | zero => exact absurd HA.out (by simp [backhaulref02_Div.j1])
            | succ kj7 =>
              have H := HA.out
              clear HA
              simp only [backhaulref02_Div.j1] at H
              have H' := Aside0.mk H
              clear H
              go_wp2
              go_loopg [8, 9] kj7 (fun kq v8 v9 w' => ∃ (x8_3 : Int) (x9_3 : Int), v8 = .int .i64 x8_3 ∧ v9 = .int .i64 x9_3 ∧ Aside0 (backhaulref02_Div.l1 kq a0 a1 a2 x8_3 x9_3 x10_1 = some (r1, r2)) ∧ Aside0 (kq ≤ kj7) ∧ Drawn0 w w')
              case atStart => exact ⟨(x8_7), (x9_7), (by first | rfl | (simp; done) | (simp [*]; done)), (by first | rfl | (simp; done) | (simp [*]; done)), H', ⟨Nat.le_refl _⟩, by repeat (first | exact Drawn0.refl _ | apply Drawn0.step)⟩
              case round =>
                clear H'
                try clear c1
                try clear p2
                try clear c4
                try clear c4b0
                try clear c6
                try clear c6b0
                try clear c6b1
                try clear p6
                try clear c7
                try clear c9
                try clear c9b0
                try clear c9b1
                try clear c10
                try clear c10b0
                try clear c10b1
                try clear p2
                try clear p6
                obtain ⟨x8_3, x9_3, rfl, rfl, HA, HK3, ⟨m3, rfl⟩⟩ := hrel
                cases gk with
                | zero => exact absurd HA.out (by simp [backhaulref02_Div.l1])
                | succ k3 =>
                  have H := HA.out
                  clear HA
                  simp only [backhaulref02_Div.l1] at H
                  by_cases c11 : x9_3 ≥ a2
                  · rw [if_pos c11] at H
                    have c11b0 : decide (a2 ≤ x9_3) = true := decide_eq_true c11
                    clear c11
                    have H' := Aside0.mk H
                    clear H
                    go_wp2
                    go_roundg k3
                    case measure => have := HK1.out; have := HJ7.out; have := HK3.out; omega
                    case rel => exact ⟨(wrap64 (x8_3 + 1)), (wrap64 (x9_3 - a2)), (by first | rfl | (simp; done) | (simp [*]; done)), (by first | rfl | (simp; done) | (simp [*]; done)), H', ⟨by have := HK1.out; have := HJ7.out; have := HK3.out; omega⟩, by repeat (first | exact Drawn0.refl _ | apply Drawn0.step)⟩
                  · rw [if_neg c11] at H
                    have c11b0 : decide (a2 ≤ x9_3) = false := decide_eq_false c11
                    clear c11
                    by_cases c12 : x8_3 > 4000000000000
                    · rw [if_pos c12] at H
                      have c12b0 : decide (4000000000000 < x8_3) = true := decide_eq_true c12
                      clear c12
                      simp only [Option.some.injEq, Prod.mk.injEq] at H
                      obtain ⟨rfl, rfl⟩ := H
                      go_wp2
                      go_ret2
                      exact ⟨by first | rfl | (simp; done) | (simp only [← hji5, ← hji7] <;> (first | rfl | simp)) | (simp [*]; done), by repeat (first | exact Drawn0.refl _ | apply Drawn0.step)⟩
                    · rw [if_neg c12] at H
                      have c12b0 : decide (4000000000000 < x8_3) = false := decide_eq_false c12
                      clear c12
                      have H' := Aside0.mk H
                      clear H
                      go_wp2
                      go_roundg k3
                      case measure => have := HK1.out; have := HJ7.out; have := HK3.out; omega
                      case rel => exact ⟨(x8_3), (x9_3), (wrap64 (x10_1 - 1)), (by first | rfl | (simp; done) | (simp [*]; done)), (by first | rfl | (simp; done) | (simp [*]; done)), (by first | rfl | (simp; done) | (simp [*]; done)), H', ⟨by have := HK1.out; have := HJ7.out; have := HK3.out; omega⟩, by repeat (first | exact Drawn0.refl _ | apply Drawn0.step)⟩
        · rw [if_neg c6] at H
          exact absurd H (by simp)
      · rw [if_neg c4] at H
        have c4b0 : decide (0 ≤ x10_1) = false := decide_eq_false c4
        clear c4
        simp only [Option.some.injEq, Prod.mk.injEq] at H
        obtain ⟨rfl, rfl⟩ := H
        go_wp2
        go_ret2
        exact ⟨by first | rfl | (simp; done) | (simp [*]; done), by repeat (first | exact Drawn0.refl _ | apply Drawn0.step)⟩

end Go.Proofs.Ytefhljhpcpajgaa.F

namespace Go.Proofs.Ytefhljhpcpajgaa.F
open Go.RowKit Go.Proofs.YtefhljhpcpajgaaX Go.Proofs.YtefhljhpcpajgaaW.PrintWords Go.Proofs.YtefhljhpcpajgaaW.PrintLast Go.Proofs.YtefhljhpcpajgaaW.PrintMore
attribute [local go_sem] max2_int min2_int max_two min_two max_three min_three max_four min_four   -- for this text's walks alone
set_option linter.unusedVariables false
set_option linter.unusedSimpArgs false

/-! ### backhaulref02_Floor: function 34 -/
def backhaulref02_Floor.f (k : Nat) (a0 : Int) (a1 : Int) (a2 : Int) : Option (Int × Int) := (backhaulref02_may.f a0 a1 a2).bind fun t192 => (if t192 = 0 then ((backhaulref02_Div.f k a0 a1 a2).bind fun bt193 => (if bt193.1 < 0 then (some (0, 8)) else (if bt193.1 > 1000000000000 then (some (0, 8)) else (some (bt193.1, 0))))) else (some (0, t192)))
theorem backhaulref02_Floor.mono : ∀ a0 a1 a2 k, LeO (backhaulref02_Floor.f k a0 a1 a2) (backhaulref02_Floor.f (k + 1) a0 a1 a2) := by
  intro a0 a1 a2 k
  unfold backhaulref02_Floor.f
  repeat' first
      | (with_reducible exact backhaulref02_Div.mono _ _ _ _)
      | (with_reducible exact LeO.refl _)
      | (with_reducible exact LeO.none _)
      | (with_reducible refine LeO.ite ?_ ?_)
      | (with_reducible refine LeO.bind ?_ (fun _ => ?_))
      | exact backhaulref02_Div.mono _ _ _ _
      | exact LeO.none _
      | refine LeO.ite ?_ ?_
      | refine LeO.bind ?_ (fun _ => ?_)
set_option maxHeartbeats 8000000 in
set_option maxRecDepth 100000 in
theorem backhaulref02_Floor.calls (k : Nat) (a0 : Int) (a1 : Int) (a2 : Int) (r1 : Int) (r2 : Int) (w : World) (h : backhaulref02_Floor.f k a0 a1 a2 = some (r1, r2)) :
    Calls Try.prog 34 #[.int .i64 a0, .int .i64 a1, .int .i64 a2] w fun e w' => e = .returned (.tuple #[.int .i64 r1, .int .i64 r2]) ∧ Drawn0 w w' := by
  have H : ((backhaulref02_may.f a0 a1 a2).bind fun t192 => (if t192 = 0 then ((backhaulref02_Div.f k a0 a1 a2).bind fun bt193 => (if bt193.1 < 0 then (some (0, 8)) else (if bt193.1 > 1000000000000 then (some (0, 8)) else (some (bt193.1, 0))))) else (some (0, t192)))) = some (r1, r2) := h
  clear h
  replace H := Option.bind_eq_some_iff.mp H
  obtain ⟨t192, A40, H⟩ := H
  replace H : (if t192 = 0 then ((backhaulref02_Div.f k a0 a1 a2).bind fun bt193 => (if bt193.1 < 0 then (some (0, 8)) else (if bt193.1 > 1000000000000 then (some (0, 8)) else (some (bt193.1, 0))))) else (some (0, t192))) = some (r1, r2) := H
  have A4 := Aside0.mk A40
  clear A40
  by_cases c5 : t192 = 0
  · rw [if_pos c5] at H
    have c5b0 : (t192 == 0) = true := beq_iff_eq.mpr c5
    have c5b1 : (t192 != 0) = false := bne_eq_false_iff_eq.mpr c5
    clear c5
    replace H := Option.bind_eq_some_iff.mp H
    obtain ⟨⟨t193, t194⟩, A60, H⟩ := H
    replace H : (if t193 < 0 then (some (0, 8)) else (if t193 > 1000000000000 then (some (0, 8)) else (some (t193, 0)))) = some (r1, r2) := H
    have A6 := Aside0.mk A60
    clear A60
    by_cases c7 : t193 < 0
    · rw [if_pos c7] at H
      have c7b0 : decide (t193 < 0) = true := decide_eq_true c7
      clear c7
      simp only [Option.some.injEq, Prod.mk.injEq] at H
      obtain ⟨rfl, rfl⟩ := H
      go_enter Try.func34, Try.ntmps34
      go_wp2_with (first | ((with_reducible refine gate_callee (f := 101) rfl ?_); refine goesL_ (some 14) rfl rfl Try.func101 (by kernel_rfl) rfl #[.int .i64 a0, .int .i64 a1, .int .i64 a2] rfl (by (try simp only [List.map_toArray, List.map_cons, List.map_nil]); first | done | rfl | (simp only [List.length_drop, List.length_take]; rfl)) ?_; (with_reducible refine (backhaulref02_may.calls a0 a1 a2 t192 _ A4.out).mono ?_); rintro e w' ⟨rfl, ⟨nd, rfl⟩⟩; refine ⟨_, rfl, ?_⟩) | ((with_reducible refine gate_callee (f := 102) rfl ?_); refine goesL_ (some 22) rfl rfl Try.func102 (by kernel_rfl) rfl #[.int .i64 a0, .int .i64 a1, .int .i64 a2] rfl (by (try simp only [List.map_toArray, List.map_cons, List.map_nil]); first | done | rfl | (simp only [List.length_drop, List.length_take]; rfl)) ?_; (with_reducible refine (backhaulref02_Div.calls k a0 a1 a2 t193 t194 _ A6.out).mono ?_); rintro e w' ⟨rfl, ⟨nd, rfl⟩⟩; refine ⟨_, rfl, ?_⟩))
      go_ret2
      exact ⟨by first | rfl | (simp; done) | (simp [*]; done), by repeat (first | exact Drawn0.refl _ | apply Drawn0.step)⟩
    · rw [if_neg c7] at H
      have c7b0 : decide (t193 < 0) = false := decide_eq_false c7
      clear c7
      by_cases c8 : t193 > 1000000000000
      · rw [if_pos c8] at H
        have c8b0 : decide (1000000000000 < t193) = true := decide_eq_true c8
        clear c8
        simp only [Option.some.injEq, Prod.mk.injEq] at H
        obtain ⟨rfl, rfl⟩ := H
        go_enter Try.func34, Try.ntmps34
        go_wp2_with (first | ((with_reducible refine gate_callee (f := 101) rfl ?_); refine goesL_ (some 14) rfl rfl Try.func101 (by kernel_rfl) rfl #[.int .i64 a0, .int .i64 a1, .int .i64 a2] rfl (by (try simp only [List.map_toArray, List.map_cons, List.map_nil]); first | done | rfl | (simp only [List.length_drop, List.length_take]; rfl)) ?_; (with_reducible refine (backhaulref02_may.calls a0 a1 a2 t192 _ A4.out).mono ?_); rintro e w' ⟨rfl, ⟨nd, rfl⟩⟩; refine ⟨_, rfl, ?_⟩) | ((with_reducible refine gate_callee (f := 102) rfl ?_); refine goesL_ (some 22) rfl rfl Try.func102 (by kernel_rfl) rfl #[.int .i64 a0, .int .i64 a1, .int .i64 a2] rfl (by (try simp only [List.map_toArray, List.map_cons, List.map_nil]); first | done | rfl | (simp only [List.length_drop, List.length_take]; rfl)) ?_; (with_reducible refine (backhaulref02_Div.calls k a0 a1 a2 t193 t194 _ A6.out).mono ?_); rintro e w' ⟨rfl, ⟨nd, rfl⟩⟩; refine ⟨_, rfl, ?_⟩))
        go_ret2
        exact ⟨by first | rfl | (simp; done) | (simp [*]; done), by repeat (first | exact Drawn0.refl _ | apply Drawn0.step)⟩
      · rw [if_neg c8] at H
        have c8b0 : decide (1000000000000 < t193) = false := decide_eq_false c8
        clear c8
        simp only [Option.some.injEq, Prod.mk.injEq] at H
        obtain ⟨rfl, rfl⟩ := H
        go_enter Try.func34, Try.ntmps34
        go_wp2_with (first | ((with_reducible refine gate_callee (f := 101) rfl ?_); refine goesL_ (some 14) rfl rfl Try.func101 (by kernel_rfl) rfl #[.int .i64 a0, .int .i64 a1, .int .i64 a2] rfl (by (try simp only [List.map_toArray, List.map_cons, List.map_nil]); first | done | rfl | (simp only [List.length_drop, List.length_take]; rfl)) ?_; (with_reducible refine (backhaulref02_may.calls a0 a1 a2 t192 _ A4.out).mono ?_); rintro e w' ⟨rfl, ⟨nd, rfl⟩⟩; refine ⟨_, rfl, ?_⟩) | ((with_reducible refine gate_callee (f := 102) rfl ?_); refine goesL_ (some 22) rfl rfl Try.func102 (by kernel_rfl) rfl #[.int .i64 a0, .int .i64 a1, .int .i64 a2] rfl (by (try simp only [List.map_toArray, List.map_cons, List.map_nil]); first | done | rfl | (simp only [List.length_drop, List.length_take]; rfl)) ?_; (with_reducible refine (backhaulref02_Div.calls k a0 a1 a2 t193 t194 _ A6.out).mono ?_); rintro e w' ⟨rfl, ⟨nd, rfl⟩⟩; refine ⟨_, rfl, ?_⟩))
        go_ret2
        exact ⟨by first | rfl | (simp; done) | (simp [*]; done), by repeat (first | exact Drawn0.refl _ | apply Drawn0.step)⟩
  · rw [if_neg c5] at H
    have c5b0 : (t192 == 0) = false := beq_eq_false_iff_ne.mpr c5
    have c5b1 : (t192 != 0) = true := bne_iff_ne.mpr c5
    simp only [Option.some.injEq, Prod.mk.injEq] at H
    obtain ⟨rfl, rfl⟩ := H
    go_enter Try.func34, Try.ntmps34
    go_wp2_with (first | ((with_reducible refine gate_callee (f := 101) rfl ?_); refine goesL_ (some 14) rfl rfl Try.func101 (by kernel_rfl) rfl #[.int .i64 a0, .int .i64 a1, .int .i64 a2] rfl (by (try simp only [List.map_toArray, List.map_cons, List.map_nil]); first | done | rfl | (simp only [List.length_drop, List.length_take]; rfl)) ?_; (with_reducible refine (backhaulref02_may.calls a0 a1 a2 t192 _ A4.out).mono ?_); rintro e w' ⟨rfl, ⟨nd, rfl⟩⟩; refine ⟨_, rfl, ?_⟩))
    go_ret2
    exact ⟨by first | rfl | (simp; done) | (simp [*]; done), by repeat (first | exact Drawn0.refl _ | apply Drawn0.step)⟩

end Go.Proofs.Ytefhljhpcpajgaa.F

namespace Go.Proofs.Ytefhljhpcpajgaa.F
open Go.RowKit Go.Proofs.YtefhljhpcpajgaaX Go.Proofs.YtefhljhpcpajgaaW.PrintWords Go.Proofs.YtefhljhpcpajgaaW.PrintLast Go.Proofs.YtefhljhpcpajgaaW.PrintMore
attribute [local go_sem] max2_int min2_int max_two min_two max_three min_three max_four min_four   -- for this text's walks alone
set_option linter.unusedVariables false
set_option linter.unusedSimpArgs false

/-! ### backhaulref02_Half: function 36 -/
def backhaulref02_Half.f (k : Nat) (a0 : Int) (a1 : Int) (a2 : Int) : Option (Int × Int) := (backhaulref02_may.f a0 a1 a2).bind fun t195 => (if t195 = 0 then ((backhaulref02_Div.f k a0 a1 a2).bind fun bt196 => (if (wrap64 (2 * bt196.2)) ≥ a2 then (if (wrap64 (bt196.1 + 1)) < 1 then (if (wrap64 (bt196.1 + 1)) = 0 then (if (wrap64 (bt196.1 + 1)) > 1000000000000 then (some (0, 8)) else (some (wrap64 (bt196.1 + 1), 0))) else (some (0, 8))) else (if (wrap64 (bt196.1 + 1)) > 1000000000000 then (some (0, 8)) else (some (wrap64 (bt196.1 + 1), 0)))) else (if bt196.1 < 1 then (if bt196.1 = 0 then (if bt196.1 > 1000000000000 then (some (0, 8)) else (some (bt196.1, 0))) else (some (0, 8))) else (if bt196.1 > 1000000000000 then (some (0, 8)) else (some (bt196.1, 0)))))) else (some (0, t195)))
theorem backhaulref02_Half.mono : ∀ a0 a1 a2 k, LeO (backhaulref02_Half.f k a0 a1 a2) (backhaulref02_Half.f (k + 1) a0 a1 a2) := by
  intro a0 a1 a2 k
  unfold backhaulref02_Half.f
  repeat' first
      | (with_reducible exact backhaulref02_Div.mono _ _ _ _)
      | (with_reducible exact LeO.refl _)
      | (with_reducible exact LeO.none _)
      | (with_reducible refine LeO.ite ?_ ?_)
      | (with_reducible refine LeO.bind ?_ (fun _ => ?_))
      | exact backhaulref02_Div.mono _ _ _ _
      | exact LeO.none _
      | refine LeO.ite ?_ ?_
      | refine LeO.bind ?_ (fun _ => ?_)
set_option maxHeartbeats 8000000 in
set_option maxRecDepth 100000 in
theorem backhaulref02_Half.calls (k : Nat) (a0 : Int) (a1 : Int) (a2 : Int) (r1 : Int) (r2 : Int) (w : World) (h : backhaulref02_Half.f k a0 a1 a2 = some (r1, r2)) :
    Calls Try.prog 36 #[.int .i64 a0, .int .i64 a1, .int .i64 a2] w fun e w' => e = .returned (.tuple #[.int .i64 r1, .int .i64 r2]) ∧ Drawn0 w w' := by
  have H : ((backhaulref02_may.f a0 a1 a2).bind fun t195 => (if t195 = 0 then ((backhaulref02_Div.f k a0 a1 a2).bind fun bt196 => (if (wrap64 (2 * bt196.2)) ≥ a2 then (if (wrap64 (bt196.1 + 1)) < 1 then (if (wrap64 (bt196.1 + 1)) = 0 then (if (wrap64 (bt196.1 + 1)) > 1000000000000 then (some (0, 8)) else (some (wrap64 (bt196.1 + 1), 0))) else (some (0, 8))) else (if (wrap64 (bt196.1 + 1)) > 1000000000000 then (some (0, 8)) else (some (wrap64 (bt196.1 + 1), 0)))) else (if bt196.1 < 1 then (if bt196.1 = 0 then (if bt196.1 > 1000000000000 then (some (0, 8)) else (some (bt196.1, 0))) else (some (0, 8))) else (if bt196.1 > 1000000000000 then (some (0, 8)) else (some (bt196.1, 0)))))) else (some (0, t195)))) = some (r1, r2) := h
  clear h
  replace H := Option.bind_eq_some_iff.mp H
  obtain ⟨t195, A40, H⟩ := H
  replace H : (if t195 = 0 then ((backhaulref02_Div.f k a0 a1 a2).bind fun bt196 => (if (wrap64 (2 * bt196.2)) ≥ a2 then (if (wrap64 (bt196.1 + 1)) < 1 then (if (wrap64 (bt196.1 + 1)) = 0 then (if (wrap64 (bt196.1 + 1)) > 1000000000000 then (some (0, 8)) else (some (wrap64 (bt196.1 + 1), 0))) else (some (0, 8))) else (if (wrap64 (bt196.1 + 1)) > 1000000000000 then (some (0, 8)) else (some (wrap64 (bt196.1 + 1), 0)))) else (if bt196.1 < 1 then (if bt196.1 = 0 then (if bt196.1 > 1000000000000 then (some (0, 8)) else (some (bt196.1, 0))) else (some (0, 8))) else (if bt196.1 > 1000000000000 then (some (0, 8)) else (some (bt196.1, 0)))))) else (some (0, t195))) = some (r1, r2) := H
  have A4 := Aside0.mk A40
  clear A40
  by_cases c5 : t195 = 0
  · rw [if_pos c5] at H
    have c5b0 : (t195 == 0) = true := beq_iff_eq.mpr c5
    have c5b1 : (t195 != 0) = false := bne_eq_false_iff_eq.mpr c5
    clear c5
    replace H := Option.bind_eq_some_iff.mp H
    obtain ⟨⟨t196, t197⟩, A60, H⟩ := H
    replace H : (if (wrap64 (2 * t197)) ≥ a2 then (if (wrap64 (t196 + 1)) < 1 then (if (wrap64 (t196 + 1)) = 0 then (if (wrap64 (t196 + 1)) > 1000000000000 then (some (0, 8)) else (some (wrap64 (t196 + 1), 0))) else (some (0, 8))) else (if (wrap64 (t196 + 1)) > 1000000000000 then (some (0, 8)) else (some (wrap64 (t196 + 1), 0)))) else (if t196 < 1 then (if t196 = 0 then (if t196 > 1000000000000 then (some (0, 8)) else (some (t196, 0))) else (some (0, 8))) else (if t196 > 1000000000000 then (some (0, 8)) else (some (t196, 0))))) = some (r1, r2) := H
    have A6 := Aside0.mk A60
    clear A60
    by_cases c7 : (wrap64 (2 * t197)) ≥ a2
    · rw [if_pos c7] at H
      have c7b0 : decide (a2 ≤ (wrap64 (2 * t197))) = true := decide_eq_true c7
      clear c7
      by_cases c8 : (wrap64 (t196 + 1)) < 1
      · rw [if_pos c8] at H
        have c8b0 : decide ((wrap64 (t196 + 1)) < 1) = true := decide_eq_true c8
        clear c8
        by_cases c9 : (wrap64 (t196 + 1)) = 0
        · rw [if_pos c9] at H
          have c9b0 : ((wrap64 (t196 + 1)) == 0) = true := beq_iff_eq.mpr c9
          have c9b1 : ((wrap64 (t196 + 1)) != 0) = false := bne_eq_false_iff_eq.mpr c9
          clear c9
          by_cases c10 : (wrap64 (t196 + 1)) > 1000000000000
          · rw [if_pos c10] at H
            have c10b0 : decide (1000000000000 < (wrap64 (t196 + 1))) = true := decide_eq_true c10
            clear c10
            simp only [Option.some.injEq, Prod.mk.injEq] at H
            obtain ⟨rfl, rfl⟩ := H
            go_enter Try.func36, Try.ntmps36
            go_wp2_with (first | ((with_reducible refine gate_callee (f := 101) rfl ?_); refine goesL_ (some 14) rfl rfl Try.func101 (by kernel_rfl) rfl #[.int .i64 a0, .int .i64 a1, .int .i64 a2] rfl (by (try simp only [List.map_toArray, List.map_cons, List.map_nil]); first | done | rfl | (simp only [List.length_drop, List.length_take]; rfl)) ?_; (with_reducible refine (backhaulref02_may.calls a0 a1 a2 t195 _ A4.out).mono ?_); rintro e w' ⟨rfl, ⟨nd, rfl⟩⟩; refine ⟨_, rfl, ?_⟩) | ((with_reducible refine gate_callee (f := 102) rfl ?_); refine goesL_ (some 22) rfl rfl Try.func102 (by kernel_rfl) rfl #[.int .i64 a0, .int .i64 a1, .int .i64 a2] rfl (by (try simp only [List.map_toArray, List.map_cons, List.map_nil]); first | done | rfl | (simp only [List.length_drop, List.length_take]; rfl)) ?_; (with_reducible refine (backhaulref02_Div.calls k a0 a1 a2 t196 t197 _ A6.out).mono ?_); rintro e w' ⟨rfl, ⟨nd, rfl⟩⟩; refine ⟨_, rfl, ?_⟩))
            go_ret2
            exact ⟨by first | rfl | (simp; done) | (simp [*]; done), by repeat (first | exact Drawn0.refl _ | apply Drawn0.step)⟩
          · rw [if_neg c10] at H
            have c10b0 : decide (1000000000000 < (wrap64 (t196 + 1))) = false := decide_eq_false c10
            clear c10
            simp only [Option.some.injEq, Prod.mk.injEq] at H
            obtain ⟨rfl, rfl⟩ := H
            go_enter Try.func36, Try.ntmps36
            go_wp2_with (first | ((with_reducible refine gate_callee (f := 101) rfl ?_); refine goesL_ (some 14) rfl rfl Try.func101 (by kernel_rfl) rfl #[.int .i64 a0, .int .i64 a1, .int .i64 a2] rfl (by (try simp only [List.map_toArray, List.map_cons, List.map_nil]); first | done | rfl | (simp only [List.length_drop, List.length_take]; rfl)) ?_; (with_reducible refine (backhaulref02_may.calls a0 a1 a2 t195 _ A4.out).mono ?_); rintro e w' ⟨rfl, ⟨nd, rfl⟩⟩; refine ⟨_, rfl, ?_⟩) | ((with_reducible refine gate_callee (f := 102) rfl ?_); refine goesL_ (some 22) rfl rfl Try.func102 (by kernel_rfl) rfl #[.int .i64 a0, .int .i64 a1, .int .i64 a2] rfl (by (try simp only [List.map_toArray, List.map_cons, List.map_nil]); first | done | rfl | (simp only [List.length_drop, List.length_take]; rfl)) ?_; (with_reducible refine (backhaulref02_Div.calls k a0 a1 a2 t196 t197 _ A6.out).mono ?_); rintro e w' ⟨rfl, ⟨nd, rfl⟩⟩; refine ⟨_, rfl, ?_⟩))
            go_ret2
            exact ⟨by first | rfl | (simp; done) | (simp [*]; done), by repeat (first | exact Drawn0.refl _ | apply Drawn0.step)⟩
        · rw [if_neg c9] at H
          have c9b0 : ((wrap64 (t196 + 1)) == 0) = false := beq_eq_false_iff_ne.mpr c9
          have c9b1 : ((wrap64 (t196 + 1)) != 0) = true := bne_iff_ne.mpr c9
          simp only [Option.some.injEq, Prod.mk.injEq] at H
          obtain ⟨rfl, rfl⟩ := H
          go_enter Try.func36, Try.ntmps36
          go_wp2_with (first | ((with_reducible refine gate_callee (f := 101) rfl ?_); refine goesL_ (some 14) rfl rfl Try.func101 (by kernel_rfl) rfl #[.int .i64 a0, .int .i64 a1, .int .i64 a2] rfl (by (try simp only [List.map_toArray, List.map_cons, List.map_nil]); first | done | rfl | (simp only [List.length_drop, List.length_take]; rfl)) ?_; (with_reducible refine (backhaulref02_may.calls a0 a1 a2 t195 _ A4.out).mono ?_); rintro e w' ⟨rfl, ⟨nd, rfl⟩⟩; refine ⟨_, rfl, ?_⟩) | ((with_reducible refine gate_callee (f := 102) rfl ?_); refine goesL_ (some 22) rfl rfl Try.func102 (by kernel_rfl) rfl #[.int .i64 a0, .int .i64 a1, .int .i64 a2] rfl (by (try simp only [List.map_toArray, List.map_cons, List.map_nil]); first | done | rfl | (simp only [List.length_drop, List.length_take]; rfl)) ?_; (with_reducible refine (backhaulref02_Div.calls k a0 a1 a2 t196 t197 _ A6.out).mono ?_); rintro e w' ⟨rfl, ⟨nd, rfl⟩⟩; refine ⟨_, rfl, ?_⟩))
          go_ret2
          exact ⟨by first | rfl | (simp; done) | (simp [*]; done), by repeat (first | exact Drawn0.refl _ | apply Drawn0.step)⟩
      · rw [if_neg c8] at H
        have c8b0 : decide ((wrap64 (t196 + 1)) < 1) = false := decide_eq_false c8
        clear c8
        by_cases c11 : (wrap64 (t196 + 1)) > 1000000000000
        · rw [if_pos c11] at H
          have c11b0 : decide (1000000000000 < (wrap64 (t196 + 1))) = true := decide_eq_true c11
          clear c11
          simp only [Option.some.injEq, Prod.mk.injEq] at H
          obtain ⟨rfl, rfl⟩ := H
          go_enter Try.func36, Try.ntmps36
          go_wp2_with (first | ((with_reducible refine gate_callee (f := 101) rfl ?_); refine goesL_ (some 14) rfl rfl Try.func101 (by kernel_rfl) rfl #[.int .i64 a0, .int .i64 a1, .int .i64 a2] rfl (by (try simp only [List.map_toArray, List.map_cons, List.map_nil]); first | done | rfl | (simp only [List.length_drop, List.length_take]; rfl)) ?_; (with_reducible refine (backhaulref02_may.calls a0 a1 a2 t195 _ A4.out).mono ?_); rintro e w' ⟨rfl, ⟨nd, rfl⟩⟩; refine ⟨_, rfl, ?_⟩) | ((with_reducible refine gate_callee (f := 102) rfl ?_); refine goesL_ (some 22) rfl rfl Try.func102 (by kernel_rfl) rfl #[.int .i64 a0, .int .i64 a1, .int .i64 a2] rfl (by (try simp only [List.map_toArray, List.map_cons, List.map_nil]); first | done | rfl | (simp only [List.length_drop, List.length_take]; rfl)) ?_; (with_reducible refine (backhaulref02_Div.calls k a0 a1 a2 t196 t197 _ A6.out).mono ?_); rintro e w' ⟨rfl, ⟨nd, rfl⟩⟩; refine ⟨_, rfl, ?_⟩))
          go_ret2
          exact ⟨by first | rfl | (simp; done) | (simp [*]; done), by repeat (first | exact Drawn0.refl _ | apply Drawn0.step)⟩
        · rw [if_neg c11] at H
          have c11b0 : decide (1000000000000 < (wrap64 (t196 + 1))) = false := decide_eq_false c11
          clear c11
          simp only [Option.some.injEq, Prod.mk.injEq] at H
          obtain ⟨rfl, rfl⟩ := H
          go_enter Try.func36, Try.ntmps36
          go_wp2_with (first | ((with_reducible refine gate_callee (f := 101) rfl ?_); refine goesL_ (some 14) rfl rfl Try.func101 (by kernel_rfl) rfl #[.int .i64 a0, .int .i64 a1, .int .i64 a2] rfl (by (try simp only [List.map_toArray, List.map_cons, List.map_nil]); first | done | rfl | (simp only [List.length_drop, List.length_take]; rfl)) ?_; (with_reducible refine (backhaulref02_may.calls a0 a1 a2 t195 _ A4.out).mono ?_); rintro e w' ⟨rfl, ⟨nd, rfl⟩⟩; refine ⟨_, rfl, ?_⟩) | ((with_reducible refine gate_callee (f := 102) rfl ?_); refine goesL_ (some 22) rfl rfl Try.func102 (by kernel_rfl) rfl #[.int .i64 a0, .int .i64 a1, .int .i64 a2] rfl (by (try simp only [List.map_toArray, List.map_cons, List.map_nil]); first | done | rfl | (simp only [List.length_drop, List.length_take]; rfl)) ?_; (with_reducible refine (backhaulref02_Div.calls k a0 a1 a2 t196 t197 _ A6.out).mono ?_); rintro e w' ⟨rfl, ⟨nd, rfl⟩⟩; refine ⟨_, rfl, ?_⟩))
          go_ret2
          exact ⟨by first | rfl | (simp; done) | (simp [*]; done), by repeat (first | exact Drawn0.refl _ | apply Drawn0.step)⟩
    · rw [if_neg c7] at H
      have c7b0 : decide (a2 ≤ (wrap64 (2 * t197))) = false := decide_eq_false c7
      clear c7
      by_cases c12 : t196 < 1
      · rw [if_pos c12] at H
        have c12b0 : decide (t196 < 1) = true := decide_eq_true c12
        clear c12
        by_cases c13 : t196 = 0
        · rw [if_pos c13] at H
          have c13b0 : (t196 == 0) = true := beq_iff_eq.mpr c13
          have c13b1 : (t196 != 0) = false := bne_eq_false_iff_eq.mpr c13
          clear c13
          by_cases c14 : t196 > 1000000000000
          · rw [if_pos c14] at H
            have c14b0 : decide (1000000000000 < t196) = true := decide_eq_true c14
            clear c14
            simp only [Option.some.injEq, Prod.mk.injEq] at H
            obtain ⟨rfl, rfl⟩ := H
            go_enter Try.func36, Try.ntmps36
            go_wp2_with (first | ((with_reducible refine gate_callee (f := 101) rfl ?_); refine goesL_ (some 14) rfl rfl Try.func101 (by kernel_rfl) rfl #[.int .i64 a0, .int .i64 a1, .int .i64 a2] rfl (by (try simp only [List.map_toArray, List.map_cons, List.map_nil]); first | done | rfl | (simp only [List.length_drop, List.length_take]; rfl)) ?_; (with_reducible refine (backhaulref02_may.calls a0 a1 a2 t195 _ A4.out).mono ?_); rintro e w' ⟨rfl, ⟨nd, rfl⟩⟩; refine ⟨_, rfl, ?_⟩) | ((with_reducible refine gate_callee (f := 102) rfl ?_); refine goesL_ (some 22) rfl rfl Try.func102 (by kernel_rfl) rfl #[.int .i64 a0, .int .i64 a1, .int .i64 a2] rfl (by (try simp only [List.map_toArray, List.map_cons, List.map_nil]); first | done | rfl | (simp only [List.length_drop, List.length_take]; rfl)) ?_; (with_reducible refine (backhaulref02_Div.calls k a0 a1 a2 t196 t197 _ A6.out).mono ?_); rintro e w' ⟨rfl, ⟨nd, rfl⟩⟩; refine ⟨_, rfl, ?_⟩))
            go_ret2
            exact ⟨by first | rfl | (simp; done) | (simp [*]; done), by repeat (first | exact Drawn0.refl _ | apply Drawn0.step)⟩
          · rw [if_neg c14] at H
            have c14b0 : decide (1000000000000 < t196) = false := decide_eq_false c14
            clear c14
            simp only [Option.some.injEq, Prod.mk.injEq] at H
            obtain ⟨rfl, rfl⟩ := H
            go_enter Try.func36, Try.ntmps36
            go_wp2_with (first | ((with_reducible refine gate_callee (f := 101) rfl ?_); refine goesL_ (some 14) rfl rfl Try.func101 (by kernel_rfl) rfl #[.int .i64 a0, .int .i64 a1, .int .i64 a2] rfl (by (try simp only [List.map_toArray, List.map_cons, List.map_nil]); first | done | rfl | (simp only [List.length_drop, List.length_take]; rfl)) ?_; (with_reducible refine (backhaulref02_may.calls a0 a1 a2 t195 _ A4.out).mono ?_); rintro e w' ⟨rfl, ⟨nd, rfl⟩⟩; refine ⟨_, rfl, ?_⟩) | ((with_reducible refine gate_callee (f := 102) rfl ?_); refine goesL_ (some 22) rfl rfl Try.func102 (by kernel_rfl) rfl #[.int .i64 a0, .int .i64 a1, .int .i64 a2] rfl (by (try simp only [List.map_toArray, List.map_cons, List.map_nil]); first | done | rfl | (simp only [List.length_drop, List.length_take]; rfl)) ?_; (with_reducible refine (backhaulref02_Div.calls k a0 a1 a2 t196 t197 _ A6.out).mono ?_); rintro e w' ⟨rfl, ⟨nd, rfl⟩⟩; refine ⟨_, rfl, ?_⟩))
            go_ret2
            exact ⟨by first | rfl | (simp; done) | (simp [*]; done), by repeat (first | exact Drawn0.refl _ | apply Drawn0.step)⟩
        · rw [if_neg c13] at H
          have c13b0 : (t196 == 0) = false := beq_eq_false_iff_ne.mpr c13
          have c13b1 : (t196 != 0) = true := bne_iff_ne.mpr c13
          simp only [Option.some.injEq, Prod.mk.injEq] at H
          obtain ⟨rfl, rfl⟩ := H
          go_enter Try.func36, Try.ntmps36
          go_wp2_with (first | ((with_reducible refine gate_callee (f := 101) rfl ?_); refine goesL_ (some 14) rfl rfl Try.func101 (by kernel_rfl) rfl #[.int .i64 a0, .int .i64 a1, .int .i64 a2] rfl (by (try simp only [List.map_toArray, List.map_cons, List.map_nil]); first | done | rfl | (simp only [List.length_drop, List.length_take]; rfl)) ?_; (with_reducible refine (backhaulref02_may.calls a0 a1 a2 t195 _ A4.out).mono ?_); rintro e w' ⟨rfl, ⟨nd, rfl⟩⟩; refine ⟨_, rfl, ?_⟩) | ((with_reducible refine gate_callee (f := 102) rfl ?_); refine goesL_ (some 22) rfl rfl Try.func102 (by kernel_rfl) rfl #[.int .i64 a0, .int .i64 a1, .int .i64 a2] rfl (by (try simp only [List.map_toArray, List.map_cons, List.map_nil]); first | done | rfl | (simp only [List.length_drop, List.length_take]; rfl)) ?_; (with_reducible refine (backhaulref02_Div.calls k a0 a1 a2 t196 t197 _ A6.out).mono ?_); rintro e w' ⟨rfl, ⟨nd, rfl⟩⟩; refine ⟨_, rfl, ?_⟩))
          go_ret2
          exact ⟨by first | rfl | (simp; done) | (simp [*]; done), by repeat (first | exact Drawn0.refl _ | apply Drawn0.step)⟩
      · rw [if_neg c12] at H
        have c12b0 : decide (t196 < 1) = false := decide_eq_false c12
        clear c12
        by_cases c15 : t196 > 1000000000000
        · rw [if_pos c15] at H
          have c15b0 : decide (1000000000000 < t196) = true := decide_eq_true c15
          clear c15
          simp only [Option.some.injEq, Prod.mk.injEq] at H
          obtain ⟨rfl, rfl⟩ := H
          go_enter Try.func36, Try.ntmps36
          go_wp2_with (first | ((with_reducible refine gate_callee (f := 101) rfl ?_); refine goesL_ (some 14) rfl rfl Try.func101 (by kernel_rfl) rfl #[.int .i64 a0, .int .i64 a1, .int .i64 a2] rfl (by (try simp only [List.map_toArray, List.map_cons, List.map_nil]); first | done | rfl | (simp only [List.length_drop, List.length_take]; rfl)) ?_; (with_reducible refine (backhaulref02_may.calls a0 a1 a2 t195 _ A4.out).mono ?_); rintro e w' ⟨rfl, ⟨nd, rfl⟩⟩; refine ⟨_, rfl, ?_⟩) | ((with_reducible refine gate_callee (f := 102) rfl ?_); refine goesL_ (some 22) rfl rfl Try.func102 (by kernel_rfl) rfl #[.int .i64 a0, .int .i64 a1, .int .i64 a2] rfl (by (try simp only [List.map_toArray, List.map_cons, List.map_nil]); first | done | rfl | (simp only [List.length_drop, List.length_take]; rfl)) ?_; (with_reducible refine (backhaulref02_Div.calls k a0 a1 a2 t196 t197 _ A6.out).mono ?_); rintro e w' ⟨rfl, ⟨nd, rfl⟩⟩; refine ⟨_, rfl, ?_⟩))
          go_ret2
          exact ⟨by first | rfl | (simp; done) | (simp [*]; done), by repeat (first | exact Drawn0.refl _ | apply Drawn0.step)⟩
        · rw [if_neg c15] at H
          have c15b0 : decide (1000000000000 < t196) = false := decide_eq_false c15
          clear c15
          simp only [Option.some.injEq, Prod.mk.injEq] at H
          obtain ⟨rfl, rfl⟩ := H
          go_enter Try.func36, Try.ntmps36
          go_wp2_with (first | ((with_reducible refine gate_callee (f := 101) rfl ?_); refine goesL_ (some 14) rfl rfl Try.func101 (by kernel_rfl) rfl #[.int .i64 a0, .int .i64 a1, .int .i64 a2] rfl (by (try simp only [List.map_toArray, List.map_cons, List.map_nil]); first | done | rfl | (simp only [List.length_drop, List.length_take]; rfl)) ?_; (with_reducible refine (backhaulref02_may.calls a0 a1 a2 t195 _ A4.out).mono ?_); rintro e w' ⟨rfl, ⟨nd, rfl⟩⟩; refine ⟨_, rfl, ?_⟩) | ((with_reducible refine gate_callee (f := 102) rfl ?_); refine goesL_ (some 22) rfl rfl Try.func102 (by kernel_rfl) rfl #[.int .i64 a0, .int .i64 a1, .int .i64 a2] rfl (by (try simp only [List.map_toArray, List.map_cons, List.map_nil]); first | done | rfl | (simp only [List.length_drop, List.length_take]; rfl)) ?_; (with_reducible refine (backhaulref02_Div.calls k a0 a1 a2 t196 t197 _ A6.out).mono ?_); rintro e w' ⟨rfl, ⟨nd, rfl⟩⟩; refine ⟨_, rfl, ?_⟩))
          go_ret2
          exact ⟨by first | rfl | (simp; done) | (simp [*]; done), by repeat (first | exact Drawn0.refl _ | apply Drawn0.step)⟩
  · rw [if_neg c5] at H
    have c5b0 : (t195 == 0) = false := beq_eq_false_iff_ne.mpr c5
    have c5b1 : (t195 != 0) = true := bne_iff_ne.mpr c5
    simp only [Option.some.injEq, Prod.mk.injEq] at H
    obtain ⟨rfl, rfl⟩ := H
    go_enter Try.func36, Try.ntmps36
    go_wp2_with (first | ((with_reducible refine gate_callee (f := 101) rfl ?_); refine goesL_ (some 14) rfl rfl Try.func101 (by kernel_rfl) rfl #[.int .i64 a0, .int .i64 a1, .int .i64 a2] rfl (by (try simp only [List.map_toArray, List.map_cons, List.map_nil]); first | done | rfl | (simp only [List.length_drop, List.length_take]; rfl)) ?_; (with_reducible refine (backhaulref02_may.calls a0 a1 a2 t195 _ A4.out).mono ?_); rintro e w' ⟨rfl, ⟨nd, rfl⟩⟩; refine ⟨_, rfl, ?_⟩))
    go_ret2
    exact ⟨by first | rfl | (simp; done) | (simp [*]; done), by repeat (first | exact Drawn0.refl _ | apply Drawn0.step)⟩

end Go.Proofs.Ytefhljhpcpajgaa.F

namespace Go.Proofs.Ytefhljhpcpajgaa.F
open Go.RowKit Go.Proofs.YtefhljhpcpajgaaX Go.Proofs.YtefhljhpcpajgaaW.PrintWords Go.Proofs.YtefhljhpcpajgaaW.PrintLast Go.Proofs.YtefhljhpcpajgaaW.PrintMore
attribute [local go_sem] max2_int min2_int max_two min_two max_three min_three max_four min_four   -- for this text's walks alone
set_option linter.unusedVariables false
set_option linter.unusedSimpArgs false

/-! ### backhaulref02_Rest: function 38 -/
def backhaulref02_Rest.f (k : Nat) (a0 : Int) (a1 : Int) (a2 : Int) : Option (Int × Int) := (backhaulref02_Floor.f k a0 a1 a2).bind fun bt198 => (if bt198.2 = 0 then ((backhaulref02_Div.f k a0 a1 a2).bind fun bt200 => (some (bt200.2, 0))) else (some (0, bt198.2)))
theorem backhaulref02_Rest.mono : ∀ a0 a1 a2 k, LeO (backhaulref02_Rest.f k a0 a1 a2) (backhaulref02_Rest.f (k + 1) a0 a1 a2) := by
  intro a0 a1 a2 k
  unfold backhaulref02_Rest.f
  repeat' first
      | (with_reducible exact backhaulref02_Div.mono _ _ _ _)
      | (with_reducible exact backhaulref02_Floor.mono _ _ _ _)
      | (with_reducible exact LeO.refl _)
      | (with_reducible exact LeO.none _)
      | (with_reducible refine LeO.ite ?_ ?_)
      | (with_reducible refine LeO.bind ?_ (fun _ => ?_))
      | exact backhaulref02_Div.mono _ _ _ _
      | exact backhaulref02_Floor.mono _ _ _ _
      | exact LeO.none _
      | refine LeO.ite ?_ ?_
      | refine LeO.bind ?_ (fun _ => ?_)
set_option maxHeartbeats 8000000 in
set_option maxRecDepth 100000 in
theorem backhaulref02_Rest.calls (k : Nat) (a0 : Int) (a1 : Int) (a2 : Int) (r1 : Int) (r2 : Int) (w : World) (h : backhaulref02_Rest.f k a0 a1 a2 = some (r1, r2)) :
    Calls Try.prog 38 #[.int .i64 a0, .int .i64 a1, .int .i64 a2] w fun e w' => e = .returned (.tuple #[.int .i64 r1, .int .i64 r2]) ∧ Drawn0 w w' := by
  have H : ((backhaulref02_Floor.f k a0 a1 a2).bind fun bt198 => (if bt198.2 = 0 then ((backhaulref02_Div.f k a0 a1 a2).bind fun bt200 => (some (bt200.2, 0))) else (some (0, bt198.2)))) = some (r1, r2) := h
  clear h
  replace H := Option.bind_eq_some_iff.mp H
  obtain ⟨⟨t198, t199⟩, A40, H⟩ := H
  replace H : (if t199 = 0 then ((backhaulref02_Div.f k a0 a1 a2).bind fun bt200 => (some (bt200.2, 0))) else (some (0, t199))) = some (r1, r2) := H
  have A4 := Aside0.mk A40
  clear A40
  by_cases c5 : t199 = 0
  · rw [if_pos c5] at H
    have c5b0 : (t199 == 0) = true := beq_iff_eq.mpr c5
    have c5b1 : (t199 != 0) = false := bne_eq_false_iff_eq.mpr c5
    clear c5
    replace H := Option.bind_eq_some_iff.mp H
    obtain ⟨⟨t200, t201⟩, A60, H⟩ := H
    replace H : (some (t201, 0)) = some (r1, r2) := H
    have A6 := Aside0.mk A60
    clear A60
    simp only [Option.some.injEq, Prod.mk.injEq] at H
    obtain ⟨rfl, rfl⟩ := H
    go_enter Try.func38, Try.ntmps38
    go_wp2_with (first | ((with_reducible refine gate_callee (f := 34) rfl ?_); refine goesL_ (some 16) rfl rfl Try.func34 (by kernel_rfl) rfl #[.int .i64 a0, .int .i64 a1, .int .i64 a2] rfl (by (try simp only [List.map_toArray, List.map_cons, List.map_nil]); first | done | rfl | (simp only [List.length_drop, List.length_take]; rfl)) ?_; (with_reducible refine (backhaulref02_Floor.calls k a0 a1 a2 t198 t199 _ A4.out).mono ?_); rintro e w' ⟨rfl, ⟨nd, rfl⟩⟩; refine ⟨_, rfl, ?_⟩) | ((with_reducible refine gate_callee (f := 102) rfl ?_); refine goesL_ (some 26) rfl rfl Try.func102 (by kernel_rfl) rfl #[.int .i64 a0, .int .i64 a1, .int .i64 a2] rfl (by (try simp only [List.map_toArray, List.map_cons, List.map_nil]); first | done | rfl | (simp only [List.length_drop, List.length_take]; rfl)) ?_; (with_reducible refine (backhaulref02_Div.calls k a0 a1 a2 t200 t201 _ A6.out).mono ?_); rintro e w' ⟨rfl, ⟨nd, rfl⟩⟩; refine ⟨_, rfl, ?_⟩))
    go_ret2
    exact ⟨by first | rfl | (simp; done) | (simp [*]; done), by repeat (first | exact Drawn0.refl _ | apply Drawn0.step)⟩
  · rw [if_neg c5] at H
    have c5b0 : (t199 == 0) = false := beq_eq_false_iff_ne.mpr c5
    have c5b1 : (t199 != 0) = true := bne_iff_ne.mpr c5
    simp only [Option.some.injEq, Prod.mk.injEq] at H
    obtain ⟨rfl, rfl⟩ := H
    go_enter Try.func38, Try.ntmps38
    go_wp2_with (first | ((with_reducible refine gate_callee (f := 34) rfl ?_); refine goesL_ (some 16) rfl rfl Try.func34 (by kernel_rfl) rfl #[.int .i64 a0, .int .i64 a1, .int .i64 a2] rfl (by (try simp only [List.map_toArray, List.map_cons, List.map_nil]); first | done | rfl | (simp only [List.length_drop, List.length_take]; rfl)) ?_; (with_reducible refine (backhaulref02_Floor.calls k a0 a1 a2 t198 t199 _ A4.out).mono ?_); rintro e w' ⟨rfl, ⟨nd, rfl⟩⟩; refine ⟨_, rfl, ?_⟩))
    go_ret2
    exact ⟨by first | rfl | (simp; done) | (simp [*]; done), by repeat (first | exact Drawn0.refl _ | apply Drawn0.step)⟩

end Go.Proofs.Ytefhljhpcpajgaa.F

/- What the divisions of cents and of the document come to; no condition but the bounds of an int. -/
set_option linter.unusedVariables false
namespace Go.Proofs.Ytefhljhpcpajgaa.Q
open Go.RowKit Go.Proofs.Ytefhljhpcpajgaa.F Go.Proofs.YtefhljhpcpajgaaW.PrintWords Go.Proofs.YtefhljhpcpajgaaW.PrintLast Go.Proofs.YtefhljhpcpajgaaW.PrintMore

def may (a b c : Int) : Prop := 0 ≤ a ∧ a ≤ 1000000000000 ∧ 0 ≤ b ∧ b ≤ 1000000000000 ∧ c ≤ 1000000000000
instance (a b c : Int) : Decidable (may a b c) := by unfold may; infer_instance
def divS (a b c : Int) : Int × Int × Int := if c < 1 then (0, 0, 2) else if may a b c then (if a * b > c * 1000000000001 then (0, 0, 8) else (a * b / c, a * b % c, 0)) else (0, 0, 8)
def floorS (a b c : Int) : Int × Int := if c < 1 then (0, 2) else if may a b c then toldS (a * b / c) else (0, 8)
def halfS (a b c : Int) : Int × Int := if c < 1 then (0, 2) else if may a b c then (if a * b % c ≥ c - a * b % c then toldS (a * b / c + 1) else toldS (a * b / c)) else (0, 8)
def restS (a b c : Int) : Int × Int := if c < 1 then (0, 2) else if may a b c then (if amt (a * b / c) then (a * b % c, 0) else (0, 8)) else (0, 8)

theorem mul_bound {x y B C : Int} (hx0 : 0 ≤ x) (hx : x ≤ B) (hy0 : 0 ≤ y) (hy : y ≤ C) : 0 ≤ x * y ∧ x * y ≤ B * C :=
  ⟨Int.mul_nonneg hx0 hy0, Int.mul_le_mul hx hy hy0 (by omega)⟩
theorem divided_f (a b c : Int) (hc1 : -9223372036854775808 ≤ c) (hc2 : c ≤ 9223372036854775807) : Ev (fun k => cents_divided.f k a b c) (divS a b c) := by
  unfold cents_divided.f divS
  refine Ev.ite (fun h => Ev.ok (by rw [if_pos h])) (fun h => ?_)
  rw [if_neg h]
  have bad : ¬ may a b c → (if may a b c then (if a * b > c * 1000000000001 then (0, 0, 8) else (a * b / c, a * b % c, 0)) else ((0 : Int), (0 : Int), (8 : Int))) = (0, 0, 8) := fun h => if_neg h
  refine Ev.ite (fun h1 => Ev.ok (bad (by unfold may; omega)).symm) (fun h1 => ?_)
  refine Ev.ite (fun h2 => Ev.ok (bad (by unfold may; omega)).symm) (fun h2 => ?_)
  refine Ev.bindc (in_f _) (Ev.ite (fun h3 => ?_) (fun h3 => Ev.ok (bad (fun hm => h3 (decide_eq_true (by unfold may at hm; unfold amt; omega)))).symm))
  refine Ev.bindc (in_f _) (Ev.ite (fun h4 => ?_) (fun h4 => Ev.ok (bad (fun hm => h4 (decide_eq_true (by unfold may at hm; unfold amt; omega)))).symm))
  refine Ev.bindc (in_f _) (Ev.ite (fun h5 => ?_) (fun h5 => Ev.ok (bad (fun hm => h5 (decide_eq_true (by unfold may at hm; unfold amt; omega)))).symm))
  have hm : may a b c := by
    have := of_decide_eq_true h3; have := of_decide_eq_true h4; have := of_decide_eq_true h5
    unfold amt at *; unfold may; omega
  rw [if_pos hm]
  unfold may at hm
  rw [u64_eq (x := a) (by omega) (by omega), u64_eq (x := b) (by omega) (by omega), u64_eq (x := c) (by omega) (by omega)]
  obtain ⟨m0, m1⟩ := mul_bound (x := a) (y := b) (B := 1000000000000) (C := 1000000000000) (by omega) (by omega) (by omega) (by omega)
  refine Ev.bindc (product_f (by omega) (by omega) (by omega) (by omega)) ?_
  refine Ev.bindc (product_f (by omega) (by omega) (by omega) (by omega)) ?_
  refine Ev.bindc (above_f m0 (by omega)) ?_
  by_cases h6 : a * b > c * 1000000000001
  · rw [if_pos h6]
    exact Ev.pos (decide_eq_true h6) (Ev.ok rfl)
  · rw [if_neg h6]
    refine Ev.neg (by simp; omega) (Ev.neg (by dsimp only; omega) ?_)
    refine Ev.bind (div64_f (a := a * b / 18446744073709551616) (b := a * b % 18446744073709551616) (by omega) (by omega) (by omega) (by omega) (by omega)) ?_
    have e : a * b / 18446744073709551616 * 18446744073709551616 + a * b % 18446744073709551616 = a * b := by omega
    rw [e]
    have d0 : 0 ≤ a * b / c := Int.ediv_nonneg m0 (by omega)
    have d1 : a * b / c < 1000000000002 := by rw [Int.ediv_lt_iff_lt_mul (by omega)]; omega
    have r0 := Int.emod_nonneg (a * b) (show c ≠ 0 by omega)
    have r1 := Int.emod_lt_of_pos (a * b) (show 0 < c by omega)
    refine Ev.ok ?_
    dsimp only
    rw [wrap_eq (by omega) (by omega), wrap_eq (by omega) (by omega)]
/-- Where the quotient is above an amount by more than a rounding. -/
theorem divS_cases (a b c : Int) : (c < 1 ∧ divS a b c = (0, 0, 2)) ∨ (1 ≤ c ∧ ¬ may a b c ∧ divS a b c = (0, 0, 8)) ∨ (1 ≤ c ∧ may a b c ∧ a * b / c > 1000000000000 ∧ divS a b c = (0, 0, 8)) ∨ (1 ≤ c ∧ may a b c ∧ 0 ≤ a * b / c ∧ a * b / c ≤ 1000000000001 ∧ 0 ≤ a * b % c ∧ a * b % c < c ∧ divS a b c = (a * b / c, a * b % c, 0)) := by
  unfold divS
  by_cases h : c < 1
  · exact .inl ⟨h, if_pos h⟩
  · rw [if_neg h]
    by_cases h1 : may a b c
    · rw [if_pos h1]
      by_cases h2 : a * b > c * 1000000000001
      · refine .inr (.inr (.inl ⟨by omega, h1, ?_, if_pos h2⟩))
        have : 1000000000001 ≤ a * b / c := by rw [Int.le_ediv_iff_mul_le (by omega)]; omega
        omega
      · have h3 := h1
        unfold may at h3
        refine .inr (.inr (.inr ⟨by omega, h1, Int.ediv_nonneg (Int.mul_nonneg h3.1 h3.2.2.1) (by omega), ?_, Int.emod_nonneg _ (by omega), Int.emod_lt_of_pos _ (by omega), if_neg h2⟩))
        have : a * b / c < 1000000000002 := by rw [Int.ediv_lt_iff_lt_mul (by omega)]; omega
        omega
    · exact .inr (.inl ⟨by omega, h1, if_neg h1⟩)
theorem toldS_big {n : Int} (h : n > 1000000000000) : toldS n = (0, 8) := by unfold toldS; rw [if_neg (show ¬ amt n by unfold amt; omega)]
section
variable {a b c : Int} (hc1 : -9223372036854775808 ≤ c) (hc2 : c ≤ 9223372036854775807)
include hc1 hc2
theorem floor_f : Ev (fun k => cents_Floor.f k a b c) (floorS a b c) := by
  unfold cents_Floor.f
  refine Ev.bind (divided_f a b c hc1 hc2) ?_
  unfold floorS
  rcases divS_cases a b c with ⟨h, e⟩ | ⟨h, h1, e⟩ | ⟨h, h1, h2, e⟩ | ⟨h, h1, h2, h3, h4, h5, e⟩ <;> rw [e]
  · rw [if_pos h]; exact Ev.neg (by decide) (Ev.ok rfl)
  · rw [if_neg (show ¬ c < 1 by omega), if_neg h1]; exact Ev.neg (by decide) (Ev.ok rfl)
  · rw [if_neg (show ¬ c < 1 by omega), if_pos h1, toldS_big h2]; exact Ev.neg (by decide) (Ev.ok rfl)
  · rw [if_neg (show ¬ c < 1 by omega), if_pos h1]; exact Ev.pos (by first | trivial | rfl) (Ev.bindc (told_f _) (Ev.ok rfl))
theorem half_f : Ev (fun k => cents_Half.f k a b c) (halfS a b c) := by
  unfold cents_Half.f
  refine Ev.bind (divided_f a b c hc1 hc2) ?_
  unfold halfS
  rcases divS_cases a b c with ⟨h, e⟩ | ⟨h, h1, e⟩ | ⟨h, h1, h2, e⟩ | ⟨h, h1, h2, h3, h4, h5, e⟩ <;> rw [e]
  · rw [if_pos h]; exact Ev.neg (by decide) (Ev.ok rfl)
  · rw [if_neg (show ¬ c < 1 by omega), if_neg h1]; exact Ev.neg (by decide) (Ev.ok rfl)
  · rw [if_neg (show ¬ c < 1 by omega), if_pos h1, toldS_big h2, toldS_big (by omega)]; simp only [ite_self]; exact Ev.neg (by decide) (Ev.ok rfl)
  · rw [if_neg (show ¬ c < 1 by omega), if_pos h1]
    refine Ev.pos (by first | trivial | rfl) ?_
    have hm := h1
    unfold may at hm
    dsimp only
    rw [wrap_eq (x := c - a * b % c) (by omega) (by omega), wrap_eq (x := a * b / c + 1) (by omega) (by omega)]
    refine Ev.ite (fun h6 => ?_) (fun h6 => ?_)
    · rw [if_pos h6]; exact Ev.bindc (told_f _) (Ev.ok rfl)
    · rw [if_neg h6]; exact Ev.bindc (told_f _) (Ev.ok rfl)
theorem rest_f : Ev (fun k => cents_Rest.f k a b c) (restS a b c) := by
  unfold cents_Rest.f
  refine Ev.bind (divided_f a b c hc1 hc2) ?_
  unfold restS
  rcases divS_cases a b c with ⟨h, e⟩ | ⟨h, h1, e⟩ | ⟨h, h1, h2, e⟩ | ⟨h, h1, h2, h3, h4, h5, e⟩ <;> rw [e]
  · rw [if_pos h]; exact Ev.neg (by decide) (Ev.ok rfl)
  · rw [if_neg (show ¬ c < 1 by omega), if_neg h1]; exact Ev.neg (by decide) (Ev.ok rfl)
  · rw [if_neg (show ¬ c < 1 by omega), if_pos h1, if_neg (show ¬ amt (a * b / c) by unfold amt; omega)]; exact Ev.neg (by decide) (Ev.ok rfl)
  · rw [if_neg (show ¬ c < 1 by omega), if_pos h1]
    refine Ev.pos (by first | trivial | rfl) (Ev.bindc (told_f _) ?_)
    unfold toldS
    dsimp only
    by_cases h6 : amt (a * b / c)
    · simp only [if_pos h6]; exact Ev.pos (by first | trivial | rfl) (Ev.ok rfl)
    · simp only [if_neg h6]; exact Ev.neg (by decide) (Ev.ok rfl)
end
theorem ref_may_f (a b c : Int) : backhaulref02_may.f a b c = some (if c < 1 then 2 else if may a b c then 0 else 8) := by
  unfold backhaulref02_may.f
  by_cases h : c < 1
  · simp only [if_pos h]
  · simp only [if_neg h]
    by_cases hm : may a b c
    · simp only [if_pos hm]
      unfold may at hm
      rw [if_neg (by omega), if_neg (by omega), if_neg (by omega), if_neg (by omega), if_neg (by omega)]
    · simp only [if_neg hm]
      unfold may at hm
      (repeat' split) <;> first | rfl | omega
def divR (a b c : Int) : Int × Int := if a * b / c > 4000000000000 then (-1, 0) else (a * b / c, a * b % c)
theorem ref_l1 {a b c i : Int} {R : Int × Int} (hc : 1 ≤ c) (hc' : c ≤ 1000000000000) (d : Nat) : ∀ n rest : Int, rest.toNat ≤ d → 0 ≤ rest → rest ≤ 10000000000000 → 0 ≤ n → n + rest ≤ 100000000000000 →
    Ev (fun k => if n + rest / c > 4000000000000 then some (-1, 0) else backhaulref02_Div.l0 k a b c (n + rest / c) (rest % c) (wrap64 (i - 1))) R →
    Ev (fun k => backhaulref02_Div.l1 k a b c n rest i) R := by
  induction d with
  | zero =>
    intro n rest hd h0 h1 h2 h3 hR
    obtain rfl : rest = 0 := by omega
    refine Ev.step (fun k => by simp only [backhaulref02_Div.l1]; rfl) ?_
    refine Ev.neg (by omega) ?_
    rwa [Int.zero_ediv, Int.zero_emod, Int.add_zero] at hR
  | succ d ih =>
    intro n rest hd h0 h1 h2 h3 hR
    refine Ev.step (fun k => by simp only [backhaulref02_Div.l1]; rfl) ?_
    refine Ev.ite (fun h => ?_) (fun h => ?_)
    · rw [wrap_eq (x := n + 1) (by omega) (by omega), wrap_eq (x := rest - c) (by omega) (by omega)]
      have e1 : (rest - c) / c = rest / c - 1 := by
        have := Int.add_mul_ediv_right rest (-1) (show c ≠ 0 by omega)
        rw [show rest + -1 * c = rest - c by omega] at this
        omega
      have e2 : (rest - c) % c = rest % c := Int.sub_emod_right _ _
      refine ih (n + 1) (rest - c) (by omega) (by omega) (by omega) (by omega) (by omega) ?_
      rw [e1, e2, show n + 1 + (rest / c - 1) = n + rest / c by omega]
      exact hR
    · rw [Int.ediv_eq_zero_of_lt h0 (by omega), Int.emod_eq_of_lt h0 (by omega), Int.add_zero] at hR
      exact hR
theorem ref_l0 {a b c : Int} (hc : 1 ≤ c) (hc' : c ≤ 1000000000000) (ha : 0 ≤ a) (ha' : a ≤ 1000000000000) (hb : 0 ≤ b) (hb' : b ≤ 1000000000000) (d : Nat) (hd : d ≤ 41) : ∀ n rest : Int, 0 ≤ rest → rest < c → 0 ≤ n → n ≤ 4000000000000 → n * c + rest = a * (b / 2 ^ d) →
    Ev (fun k => backhaulref02_Div.l0 k a b c n rest ((d : Int) - 1)) (divR a b c) := by
  induction d with
  | zero =>
    intro n rest h0 h1 h2 h3 e
    refine Ev.step (fun k => by simp only [backhaulref02_Div.l0]; rfl) ?_
    refine Ev.neg (by omega) (Ev.ok ?_)
    rw [Int.pow_zero, Int.ediv_one] at e
    unfold divR
    have hq : a * b / c = n := by rw [← e, Int.add_comm, Int.add_mul_ediv_right _ _ (by omega), Int.ediv_eq_zero_of_lt h0 h1]; omega
    have hr : a * b % c = rest := by rw [← e, Int.add_comm, Int.add_mul_emod_self_right, Int.emod_eq_of_lt h0 h1]
    rw [hq, hr, if_neg (by omega)]
  | succ d ih =>
    intro n rest h0 h1 h2 h3 e
    rw [show ((d + 1 : Nat) : Int) - 1 = (d : Int) by omega]
    refine Ev.step (fun k => by simp only [backhaulref02_Div.l0]; rfl) ?_
    rw [u64_eq (x := (d : Int)) (by omega) (by omega)]
    refine Ev.pos (by omega) (Ev.pos (by omega) ?_)
    have hp : (0 : Int) < 2 ^ d := Int.pow_pos (by decide)
    have hs : shr .i64 b (d : Int) = b / 2 ^ d := by
      unfold shr
      rw [Int.toNat_natCast, Nat.min_eq_left (by simp [IntKind.bits]; omega)]
    rw [hs]
    obtain ⟨x, hx⟩ : ∃ x, x = b / 2 ^ d := ⟨_, rfl⟩
    rw [← hx]
    have hx0 : 0 ≤ x := by rw [hx]; exact Int.ediv_nonneg hb (by omega)
    have hxb : x ≤ b := by rw [hx]; exact Int.ediv_le_self _ hb
    have hx2 : b / 2 ^ (d + 1) = x / 2 := by rw [hx, Int.pow_succ, Int.ediv_ediv_of_nonneg (by omega)]
    rw [hx2] at e
    have hac0 : 0 ≤ a / c := Int.ediv_nonneg ha (by omega)
    have hac : a / c ≤ a := Int.ediv_le_self _ ha
    have har0 := Int.emod_nonneg a (show c ≠ 0 by omega)
    have har := Int.emod_lt_of_pos a (show 0 < c by omega)
    -- behind the bit
    have go : ∀ n0 rest0 : Int, 0 ≤ rest0 → rest0 ≤ 3000000000000 → 0 ≤ n0 → n0 ≤ 10000000000000 → n0 * c + rest0 = a * x → Ev (fun k => backhaulref02_Div.j1 k a b c n0 rest0 (d : Int)) (divR a b c) := by
      intro n0 rest0 g0 g1 g2 g3 ge
      refine Ev.step (fun k => by simp only [backhaulref02_Div.j1]; rfl) ?_
      refine ref_l1 hc hc' rest0.toNat n0 rest0 (Nat.le_refl _) g0 (by omega) g2 (by omega) ?_
      have hN : n0 + rest0 / c = a * x / c := by rw [← ge, Int.add_comm (n0 * c), Int.add_mul_ediv_right _ _ (by omega)]; omega
      have hR : rest0 % c = a * x % c := by rw [← ge, Int.add_comm (n0 * c), Int.add_mul_emod_self_right]
      have ax0 : 0 ≤ a * x := Int.mul_nonneg ha hx0
      refine Ev.ite (fun h4 => Ev.ok ?_) (fun h4 => ?_)
      · unfold divR
        have : a * x / c ≤ a * b / c := Int.ediv_le_ediv (by omega) (Int.mul_le_mul_of_nonneg_left hxb ha)
        rw [if_pos (by omega)]
      · rw [wrap_eq (x := (d : Int) - 1) (by omega) (by omega)]
        refine ih (by omega) _ _ (Int.emod_nonneg _ (by omega)) (Int.emod_lt_of_pos _ (by omega)) (by rw [hN]; exact Int.ediv_nonneg ax0 (by omega)) (by omega) ?_
        rw [hN, hR, ← hx, Int.mul_comm (a * x / c)]
        exact Int.mul_ediv_add_emod _ _
    have ex : x = 2 * (x / 2) + x % 2 := by omega
    have e2 : a * x = 2 * (a * (x / 2)) + a * (x % 2) := by
      conv => lhs; rw [ex]
      rw [Int.mul_add, Int.mul_left_comm]
    rw [Int.tmod_eq_emod_of_nonneg hx0]
    refine Ev.ite (fun h4 => ?_) (fun h4 => ?_)
    · refine Ev.neg (by omega) ?_
      rw [Int.tdiv_eq_ediv_of_nonneg ha, Int.tmod_eq_emod_of_nonneg ha, wrap_eq (x := 2 * n) (by omega) (by omega), wrap_eq (x := 2 * rest) (by omega) (by omega), wrap_eq (x := a / c) (by omega) (by omega), wrap_eq (x := 2 * n + a / c) (by omega) (by omega), wrap_eq (x := 2 * rest + a % c) (by omega) (by omega)]
      refine go _ _ (by omega) (by omega) (by omega) (by omega) ?_
      rw [e2, ← e, h4, Int.mul_one, Int.add_mul, Int.mul_assoc]
      have := Int.mul_ediv_add_emod a c
      rw [Int.mul_comm] at this
      omega
    · rw [wrap_eq (x := 2 * n) (by omega) (by omega), wrap_eq (x := 2 * rest) (by omega) (by omega)]
      refine go _ _ (by omega) (by omega) (by omega) (by omega) ?_
      rw [e2, ← e, show x % 2 = 0 by omega, Int.mul_zero, Int.mul_assoc]
      omega
theorem ref_div_f {a b c : Int} (hc : 1 ≤ c) (hm : may a b c) : Ev (fun k => backhaulref02_Div.f k a b c) (divR a b c) := by
  unfold may at hm
  unfold backhaulref02_Div.f
  have h2 : (2 : Int) ^ 41 = 2199023255552 := by decide
  exact ref_l0 hc hm.2.2.2.2 hm.1 hm.2.1 hm.2.2.1 hm.2.2.2.1 41 (by omega) 0 0 (by omega) (by omega) (by omega) (by omega) (by rw [h2, Int.ediv_eq_zero_of_lt hm.2.2.1 (by omega)]; omega)
theorem ref_floor_f (a b c : Int) : Ev (fun k => backhaulref02_Floor.f k a b c) (floorS a b c) := by
  unfold backhaulref02_Floor.f floorS
  refine Ev.bindc (ref_may_f a b c) ?_
  by_cases h : c < 1
  · simp only [if_pos h]; exact Ev.neg (by decide) (Ev.ok rfl)
  · simp only [if_neg h]
    by_cases h1 : may a b c
    · simp only [if_pos h1]
      refine Ev.pos (by first | trivial | rfl) (Ev.bind (ref_div_f (by omega) h1) ?_)
      have hm := h1
      unfold may at hm
      have h0 : 0 ≤ a * b / c := Int.ediv_nonneg (Int.mul_nonneg hm.1 hm.2.2.1) (by omega)
      unfold divR
      by_cases h2 : a * b / c > 4000000000000
      · rw [if_pos h2, toldS_big (by omega)]; exact Ev.pos (by decide) (Ev.ok rfl)
      · rw [if_neg h2]
        dsimp only
        refine Ev.neg (by omega) (Ev.ite (fun h3 => Ev.ok ?_) (fun h3 => Ev.ok ?_))
        · rw [toldS_big h3]
        · unfold toldS; rw [if_pos (show amt (a * b / c) by unfold amt; omega)]
    · simp only [if_neg h1]; exact Ev.neg (by decide) (Ev.ok rfl)
theorem ref_half_f (a b c : Int) : Ev (fun k => backhaulref02_Half.f k a b c) (halfS a b c) := by
  unfold backhaulref02_Half.f halfS
  refine Ev.bindc (ref_may_f a b c) ?_
  by_cases h : c < 1
  · simp only [if_pos h]; exact Ev.neg (by decide) (Ev.ok rfl)
  · simp only [if_neg h]
    by_cases h1 : may a b c
    · simp only [if_pos h1]
      refine Ev.pos (by first | trivial | rfl) (Ev.bind (ref_div_f (by omega) h1) ?_)
      have hm := h1
      unfold may at hm
      have h0 : 0 ≤ a * b / c := Int.ediv_nonneg (Int.mul_nonneg hm.1 hm.2.2.1) (by omega)
      have r0 := Int.emod_nonneg (a * b) (show c ≠ 0 by omega)
      have r1 := Int.emod_lt_of_pos (a * b) (show 0 < c by omega)
      have fin : ∀ n : Int, 0 ≤ n → Ev (fun k => if n < 1 then (if n = 0 then (if n > 1000000000000 then some (0, 8) else some (n, 0)) else some (0, 8)) else (if n > 1000000000000 then some ((0 : Int), (8 : Int)) else some (n, 0))) (toldS n) := by
        intro n hn
        unfold toldS
        refine Ev.ite (fun g => Ev.pos (by omega) (Ev.neg (by omega) (Ev.ok ?_))) (fun g => Ev.ite (fun g2 => Ev.ok ?_) (fun g2 => Ev.ok ?_))
        · rw [if_pos (show amt n by unfold amt; omega)]
        · rw [if_neg (show ¬ amt n by unfold amt; omega)]
        · rw [if_pos (show amt n by unfold amt; omega)]
      unfold divR
      by_cases h2 : a * b / c > 4000000000000
      · rw [if_pos h2, toldS_big (by omega), toldS_big (by omega)]
        simp only [ite_self]
        rw [wrap_eq (x := 2 * 0) (by omega) (by omega)]
        exact Ev.neg (by omega) (Ev.pos (by decide) (Ev.neg (by decide) (Ev.ok rfl)))
      · rw [if_neg h2]
        dsimp only
        rw [wrap_eq (x := 2 * (a * b % c)) (by omega) (by omega), wrap_eq (x := a * b / c + 1) (by omega) (by omega)]
        refine Ev.ite (fun h3 => ?_) (fun h3 => ?_)
        · rw [if_pos (show a * b % c ≥ c - a * b % c by omega)]; exact fin _ (by omega)
        · rw [if_neg (show ¬ a * b % c ≥ c - a * b % c by omega)]; exact fin _ (by omega)
    · simp only [if_neg h1]; exact Ev.neg (by decide) (Ev.ok rfl)
theorem ref_rest_f (a b c : Int) : Ev (fun k => backhaulref02_Rest.f k a b c) (restS a b c) := by
  unfold backhaulref02_Rest.f
  refine Ev.bind (ref_floor_f a b c) ?_
  unfold floorS restS
  by_cases h : c < 1
  · simp only [if_pos h]; exact Ev.neg (by decide) (Ev.ok rfl)
  · simp only [if_neg h]
    by_cases h1 : may a b c
    · simp only [if_pos h1]
      by_cases h2 : amt (a * b / c)
      · unfold toldS
        simp only [if_pos h2]
        refine Ev.pos (by first | trivial | rfl) (Ev.bind (ref_div_f (by omega) h1) (Ev.ok ?_))
        unfold divR
        unfold amt at h2
        rw [if_neg (show ¬ a * b / c > 4000000000000 by omega)]
      · unfold toldS
        simp only [if_neg h2]; exact Ev.neg (by decide) (Ev.ok rfl)
    · simp only [if_neg h1]; exact Ev.neg (by decide) (Ev.ok rfl)
end Go.Proofs.Ytefhljhpcpajgaa.Q

namespace Go.Proofs.Ytefhljhpcpajgaa.F
open Go.RowKit Go.Proofs.YtefhljhpcpajgaaX Go.Proofs.YtefhljhpcpajgaaW.PrintWords Go.Proofs.YtefhljhpcpajgaaW.PrintLast Go.Proofs.YtefhljhpcpajgaaW.PrintMore
attribute [local go_sem] max2_int min2_int max_two min_two max_three min_three max_four min_four   -- for this text's walks alone
set_option linter.unusedVariables false
set_option linter.unusedSimpArgs false

/-! ### backhaulref04_Of: function 41 -/
def backhaulref04_Of.j0 : Nat → Int → Int → Bool → Option (Int × Int)
  | 0, _, _, _ => none
  | k + 1, x0, x1, x11 => if x11 = true then (some (0, 2)) else (if x0 < 0 then (some (0, 8)) else (if x0 > 1000000000000 then (some (0, 8)) else (some (wrap64 (Int.tdiv (wrap64 ((wrap64 ((wrap64 (2 * x0)) * x1)) + 10000)) 20000), 0))))
def backhaulref04_Of.f (k : Nat) (a0 : Int) (a1 : Int) : Option (Int × Int) := if a1 < 0 then (backhaulref04_Of.j0 k a0 a1 true) else (backhaulref04_Of.j0 k a0 a1 (decide (a1 > 10000)))
theorem backhaulref04_Of.mono_l : ∀ k, (∀ y0 y1 y2, LeO (backhaulref04_Of.j0 k y0 y1 y2) (backhaulref04_Of.j0 (k + 1) y0 y1 y2))
  | 0 => fun _ _ _ r h => by simp [backhaulref04_Of.j0] at h
  | k + 1 => by
    have ih0 := backhaulref04_Of.mono_l k
    · intro y0 y1 y2
      unfold backhaulref04_Of.j0
      repeat' first
      | (with_reducible exact ih0 _ _ _)
      | (with_reducible exact LeO.refl _)
      | (with_reducible exact LeO.none _)
      | (with_reducible refine LeO.ite ?_ ?_)
      | (with_reducible refine LeO.bind ?_ (fun _ => ?_))
      | exact ih0 _ _ _
      | exact LeO.none _
      | refine LeO.ite ?_ ?_
      | refine LeO.bind ?_ (fun _ => ?_)
theorem backhaulref04_Of.mono : ∀ a0 a1 k, LeO (backhaulref04_Of.f k a0 a1) (backhaulref04_Of.f (k + 1) a0 a1) := by
  intro a0 a1 k
  have ih0 := backhaulref04_Of.mono_l k
  unfold backhaulref04_Of.f
  repeat' first
      | (with_reducible exact ih0 _ _ _)
      | (with_reducible exact LeO.refl _)
      | (with_reducible exact LeO.none _)
      | (with_reducible refine LeO.ite ?_ ?_)
      | (with_reducible refine LeO.bind ?_ (fun _ => ?_))
      | exact ih0 _ _ _
      | exact LeO.none _
      | refine LeO.ite ?_ ?_
      | refine LeO.bind ?_ (fun _ => ?_)
set_option maxHeartbeats 8000000 in
set_option maxRecDepth 100000 in
theorem backhaulref04_Of.calls (k : Nat) (a0 : Int) (a1 : Int) (r1 : Int) (r2 : Int) (w : World) (h : backhaulref04_Of.f k a0 a1 = some (r1, r2)) :
    Calls Try.prog 41 #[.int .i64 a0, .int .i64 a1] w fun e w' => e = .returned (.tuple #[.int .i64 r1, .int .i64 r2]) ∧ Drawn0 w w' := by
  have H : (if a1 < 0 then (backhaulref04_Of.j0 k a0 a1 true) else (backhaulref04_Of.j0 k a0 a1 (decide (a1 > 10000)))) = some (r1, r2) := h
  clear h
  have HC3 := Aside0.mk H
  clear H
  go_enter Try.func41, Try.ntmps41
  go_upto_region 1 with (fail)
  go_cut [11] (fun v11 wc => ∃ (kq : Nat) (x11_2 : Bool), v11 = .bool x11_2 ∧ Aside0 (backhaulref04_Of.j0 kq a0 a1 x11_2 = some (r1, r2)) ∧ Aside0 (kq ≤ k) ∧ Drawn0 w wc)
  case first =>
    have H := HC3.out
    clear HC3
    by_cases c4 : a1 < 0
    · rw [if_pos c4] at H
      have c4b0 : decide (a1 < 0) = true := decide_eq_true c4
      clear c4
      (first | rw [c4b0] | (simp only [i64_w, i32_w]; rw [c4b0]) | skip)
      have H' := Aside0.mk H
      clear H
      go_wp2
      go_meet
      case rel => exact ⟨_, (true), (by first | rfl | (simp; done) | (simp [*]; done)), H', ⟨by first | omega | exact Nat.le_refl _⟩, by repeat (first | exact Drawn0.refl _ | apply Drawn0.step)⟩
    · rw [if_neg c4] at H
      have c4b0 : decide (a1 < 0) = false := decide_eq_false c4
      clear c4
      (first | rw [c4b0] | (simp only [i64_w, i32_w]; rw [c4b0]) | skip)
      have H' := Aside0.mk H
      clear H
      go_wp2
      go_meet
      case rel => exact ⟨_, (decide (a1 > 10000)), (by first | rfl | (simp; done) | (simp [*]; done)), H', ⟨by first | omega | exact Nat.le_refl _⟩, by repeat (first | exact Drawn0.refl _ | apply Drawn0.step)⟩
  case rest =>
    clear HC3
    try clear p2
    try clear c4
    try clear c4b0
    obtain ⟨kq, x11_2, rfl, HA, HJ2, ⟨mc2, rfl⟩⟩ := hcut
    cases kq with
    | zero => exact absurd HA.out (by simp [backhaulref04_Of.j0])
    | succ kj2 =>
      have H := HA.out
      clear HA
      simp only [backhaulref04_Of.j0] at H
      by_cases c5 : x11_2 = true
      · subst c5
        have H1 : (some (0, 2)) = some (r1, r2) := by first | (rw [if_pos rfl] at H; exact H) | rfl
        clear H
        have H := H1
        clear H1
        simp only [Option.some.injEq, Prod.mk.injEq] at H
        obtain ⟨rfl, rfl⟩ := H
        go_wp2
        go_ret2
        exact ⟨by first | rfl | (simp; done) | (simp [*]; done), by repeat (first | exact Drawn0.refl _ | apply Drawn0.step)⟩
      · replace c5 := Bool.eq_false_iff.mpr c5
        subst c5
        have H1 : (if a0 < 0 then (some (0, 8)) else (if a0 > 1000000000000 then (some (0, 8)) else (some (wrap64 (Int.tdiv (wrap64 ((wrap64 ((wrap64 (2 * a0)) * a1)) + 10000)) 20000), 0)))) = some (r1, r2) := by first | (rw [if_neg (show ¬ (false = true) by decide)] at H; exact H) | rfl
        clear H
        have H := H1
        clear H1
        by_cases c6 : a0 < 0
        · rw [if_pos c6] at H
          have c6b0 : decide (a0 < 0) = true := decide_eq_true c6
          clear c6
          simp only [Option.some.injEq, Prod.mk.injEq] at H
          obtain ⟨rfl, rfl⟩ := H
          go_wp2
          go_ret2
          exact ⟨by first | rfl | (simp; done) | (simp [*]; done), by repeat (first | exact Drawn0.refl _ | apply Drawn0.step)⟩
        · rw [if_neg c6] at H
          have c6b0 : decide (a0 < 0) = false := decide_eq_false c6
          clear c6
          by_cases c7 : a0 > 1000000000000
          · rw [if_pos c7] at H
            have c7b0 : decide (1000000000000 < a0) = true := decide_eq_true c7
            clear c7
            simp only [Option.some.injEq, Prod.mk.injEq] at H
            obtain ⟨rfl, rfl⟩ := H
            go_wp2
            go_ret2
            exact ⟨by first | rfl | (simp; done) | (simp [*]; done), by repeat (first | exact Drawn0.refl _ | apply Drawn0.step)⟩
          · rw [if_neg c7] at H
            have c7b0 : decide (1000000000000 < a0) = false := decide_eq_false c7
            clear c7
            simp only [Option.some.injEq, Prod.mk.injEq] at H
            obtain ⟨rfl, rfl⟩ := H
            go_wp2
            go_ret2
            exact ⟨by first | rfl | (simp; done) | (simp [*]; done), by repeat (first | exact Drawn0.refl _ | apply Drawn0.step)⟩

end Go.Proofs.Ytefhljhpcpajgaa.F

namespace Go.Proofs.Ytefhljhpcpajgaa.F
open Go.RowKit Go.Proofs.YtefhljhpcpajgaaX Go.Proofs.YtefhljhpcpajgaaW.PrintWords Go.Proofs.YtefhljhpcpajgaaW.PrintLast Go.Proofs.YtefhljhpcpajgaaW.PrintMore
attribute [local go_sem] max2_int min2_int max_two min_two max_three min_three max_four min_four   -- for this text's walks alone
set_option linter.unusedVariables false
set_option linter.unusedSimpArgs false

/-! ### backhaulref04_Less: function 43 -/
def backhaulref04_Less.f (k : Nat) (a0 : Int) (a1 : Int) : Option (Int × Int) := (backhaulref04_Of.f k a0 a1).bind fun bt293 => (if bt293.2 = 0 then (some (wrap64 (a0 - bt293.1), 0)) else (some (0, bt293.2)))
theorem backhaulref04_Less.mono : ∀ a0 a1 k, LeO (backhaulref04_Less.f k a0 a1) (backhaulref04_Less.f (k + 1) a0 a1) := by
  intro a0 a1 k
  unfold backhaulref04_Less.f
  repeat' first
      | (with_reducible exact backhaulref04_Of.mono _ _ _)
      | (with_reducible exact LeO.refl _)
      | (with_reducible exact LeO.none _)
      | (with_reducible refine LeO.ite ?_ ?_)
      | (with_reducible refine LeO.bind ?_ (fun _ => ?_))
      | exact backhaulref04_Of.mono _ _ _
      | exact LeO.none _
      | refine LeO.ite ?_ ?_
      | refine LeO.bind ?_ (fun _ => ?_)
set_option maxHeartbeats 8000000 in
set_option maxRecDepth 100000 in
theorem backhaulref04_Less.calls (k : Nat) (a0 : Int) (a1 : Int) (r1 : Int) (r2 : Int) (w : World) (h : backhaulref04_Less.f k a0 a1 = some (r1, r2)) :
    Calls Try.prog 43 #[.int .i64 a0, .int .i64 a1] w fun e w' => e = .returned (.tuple #[.int .i64 r1, .int .i64 r2]) ∧ Drawn0 w w' := by
  have H : ((backhaulref04_Of.f k a0 a1).bind fun bt293 => (if bt293.2 = 0 then (some (wrap64 (a0 - bt293.1), 0)) else (some (0, bt293.2)))) = some (r1, r2) := h
  clear h
  replace H := Option.bind_eq_some_iff.mp H
  obtain ⟨⟨t293, t294⟩, A30, H⟩ := H
  replace H : (if t294 = 0 then (some (wrap64 (a0 - t293), 0)) else (some (0, t294))) = some (r1, r2) := H
  have A3 := Aside0.mk A30
  clear A30
  by_cases c4 : t294 = 0
  · rw [if_pos c4] at H
    have c4b0 : (t294 == 0) = true := beq_iff_eq.mpr c4
    have c4b1 : (t294 != 0) = false := bne_eq_false_iff_eq.mpr c4
    clear c4
    simp only [Option.some.injEq, Prod.mk.injEq] at H
    obtain ⟨rfl, rfl⟩ := H
    go_enter Try.func43, Try.ntmps43
    go_wp2_with (first | ((with_reducible refine gate_callee (f := 41) rfl ?_); refine goesL_ (some 11) rfl rfl Try.func41 (by kernel_rfl) rfl #[.int .i64 a0, .int .i64 a1] rfl (by (try simp only [List.map_toArray, List.map_cons, List.map_nil]); first | done | rfl | (simp only [List.length_drop, List.length_take]; rfl)) ?_; (with_reducible refine (backhaulref04_Of.calls k a0 a1 t293 t294 _ A3.out).mono ?_); rintro e w' ⟨rfl, ⟨nd, rfl⟩⟩; refine ⟨_, rfl, ?_⟩))
    go_ret2
    exact ⟨by first | rfl | (simp; done) | (simp [*]; done), by repeat (first | exact Drawn0.refl _ | apply Drawn0.step)⟩
  · rw [if_neg c4] at H
    have c4b0 : (t294 == 0) = false := beq_eq_false_iff_ne.mpr c4
    have c4b1 : (t294 != 0) = true := bne_iff_ne.mpr c4
    simp only [Option.some.injEq, Prod.mk.injEq] at H
    obtain ⟨rfl, rfl⟩ := H
    go_enter Try.func43, Try.ntmps43
    go_wp2_with (first | ((with_reducible refine gate_callee (f := 41) rfl ?_); refine goesL_ (some 11) rfl rfl Try.func41 (by kernel_rfl) rfl #[.int .i64 a0, .int .i64 a1] rfl (by (try simp only [List.map_toArray, List.map_cons, List.map_nil]); first | done | rfl | (simp only [List.length_drop, List.length_take]; rfl)) ?_; (with_reducible refine (backhaulref04_Of.calls k a0 a1 t293 t294 _ A3.out).mono ?_); rintro e w' ⟨rfl, ⟨nd, rfl⟩⟩; refine ⟨_, rfl, ?_⟩))
    go_ret2
    exact ⟨by first | rfl | (simp; done) | (simp [*]; done), by repeat (first | exact Drawn0.refl _ | apply Drawn0.step)⟩

end Go.Proofs.Ytefhljhpcpajgaa.F

/- What the fees' functions (and the document's) come to: one fee, what is left of an amount; no condition. -/
set_option linter.unusedVariables false
namespace Go.Proofs.Ytefhljhpcpajgaa.Q
open Go.RowKit Go.Proofs.Ytefhljhpcpajgaa.F Go.Proofs.YtefhljhpcpajgaaW.PrintWords Go.Proofs.YtefhljhpcpajgaaW.PrintLast Go.Proofs.YtefhljhpcpajgaaW.PrintMore

def feeR (a b : Int) : Int := (2 * a * b + 10000) / 20000
def ofS (a b : Int) : Int × Int := if b < 0 ∨ b > 10000 then (0, 2) else if a < 0 ∨ a > 1000000000000 then (0, 8) else (feeR a b, 0)
def lessS (a b : Int) : Int × Int := if (ofS a b).2 = 0 then (a - (ofS a b).1, 0) else (0, (ofS a b).2)

theorem feeR_bounds {a b : Int} (ha : 0 ≤ a) (hb : 0 ≤ b) (hb' : b ≤ 10000) : 0 ≤ feeR a b ∧ feeR a b ≤ a := by
  unfold feeR
  have h0 : 0 ≤ a * b := Int.mul_nonneg ha hb
  have h1 : a * b ≤ a * 10000 := Int.mul_le_mul_of_nonneg_left hb' ha
  rw [Int.mul_assoc]
  omega
theorem halfS_fee {a b : Int} (ha : 0 ≤ a) (ha' : a ≤ 1000000000000) (hb : 0 ≤ b) (hb' : b ≤ 10000) : halfS a b 10000 = (feeR a b, 0) := by
  have hf := feeR_bounds ha hb hb'
  have hr : feeR a b = if a * b % 10000 ≥ 10000 - a * b % 10000 then a * b / 10000 + 1 else a * b / 10000 := by
    unfold feeR
    rw [Int.mul_assoc]
    split <;> omega
  unfold halfS
  rw [if_neg (by decide), if_pos (show may a b 10000 by unfold may; omega)]
  by_cases h : a * b % 10000 ≥ 10000 - a * b % 10000
  · rw [if_pos h] at hr ⊢
    unfold toldS
    rw [← hr, if_pos (show amt (feeR a b) by unfold amt; omega)]
  · rw [if_neg h] at hr ⊢
    unfold toldS
    rw [← hr, if_pos (show amt (feeR a b) by unfold amt; omega)]
theorem fee_may_f (b : Int) : fee_may.f b = some (decide (0 ≤ b ∧ b ≤ 10000)) := by
  unfold fee_may.f
  by_cases h : b ≥ 0
  · rw [if_pos h]; congr 1; exact decide_eq_decide.2 ⟨fun x => ⟨h, x⟩, fun x => x.2⟩
  · rw [if_neg h]; congr 1; exact (decide_eq_false (fun x => h x.1)).symm
theorem fee_of_f (a b : Int) : Ev (fun k => fee_Of.f k a b) (ofS a b) := by
  unfold fee_Of.f ofS
  refine Ev.bindc (fee_may_f b) ?_
  by_cases hb : b < 0 ∨ b > 10000
  · rw [if_pos hb]
    exact Ev.neg (by simp; omega) (Ev.ok rfl)
  · rw [if_neg hb]
    refine Ev.pos (decide_eq_true (by omega)) ?_
    refine Ev.ite (fun h => Ev.ok (by rw [if_pos (.inl h)])) (fun h => ?_)
    refine Ev.bindc (in_f a) ?_
    by_cases ha : a < 0 ∨ a > 1000000000000
    · rw [if_pos ha]
      exact Ev.neg (fun x => by have := of_decide_eq_true x; unfold amt at this; omega) (Ev.ok rfl)
    · rw [if_neg ha]
      refine Ev.pos (decide_eq_true (by unfold amt; omega)) ?_
      have := half_f (a := a) (b := b) (c := 10000) (by decide) (by decide)
      rw [halfS_fee (by omega) (by omega) (by omega) (by omega)] at this
      exact Ev.bind this (Ev.ok rfl)
theorem ref_of_f (a b : Int) : Ev (fun k => backhaulref04_Of.f k a b) (ofS a b) := by
  have key : ∀ t : Bool, (t = true ↔ (b < 0 ∨ b > 10000)) → Ev (fun k => backhaulref04_Of.j0 k a b t) (ofS a b) := by
    intro t ht
    refine Ev.step (fun k => by simp only [backhaulref04_Of.j0]; rfl) ?_
    unfold ofS
    refine Ev.ite (fun h => Ev.ok (by rw [if_pos (ht.1 h)])) (fun h => ?_)
    have hb : ¬ (b < 0 ∨ b > 10000) := fun x => h (ht.2 x)
    rw [if_neg hb]
    refine Ev.ite (fun h1 => Ev.ok (by rw [if_pos (.inl h1)])) (fun h1 => ?_)
    refine Ev.ite (fun h2 => Ev.ok (by rw [if_pos (.inr h2)])) (fun h2 => Ev.ok ?_)
    have h3 : ¬ (a < 0 ∨ a > 1000000000000) := by omega
    rw [if_neg h3]
    obtain ⟨m0, m1⟩ := mul_bound (x := 2 * a) (y := b) (B := 2000000000000) (C := 10000) (by omega) (by omega) (by omega) (by omega)
    unfold feeR
    rw [wrap_eq (x := 2 * a) (by omega) (by omega), wrap_eq (x := 2 * a * b) (by omega) (by omega), wrap_eq (x := 2 * a * b + 10000) (by omega) (by omega), Int.tdiv_eq_ediv_of_nonneg (by omega), wrap_eq (by omega) (by omega)]
  unfold backhaulref04_Of.f
  refine Ev.ite (fun h => key true (by simp [h])) (fun h => key _ (by simp; omega))
theorem fee_less_f (a b : Int) : Ev (fun k => fee_Less.f k a b) (lessS a b) := by
  unfold fee_Less.f
  refine Ev.bind (a := lessS a b) ?_ (Ev.ok rfl)
  unfold fee_paid_less.f
  refine Ev.bind (fee_of_f a b) ?_
  unfold lessS
  refine Ev.ite (fun h => ?_) (fun h => Ev.ok (by rw [if_neg h]))
  rw [if_pos h]
  refine Ev.bindc (sub_f _ _) (Ev.ok ?_)
  unfold ofS at h ⊢
  by_cases hb : b < 0 ∨ b > 10000
  · rw [if_pos hb] at h; simp at h
  · by_cases ha : a < 0 ∨ a > 1000000000000
    · rw [if_neg hb, if_pos ha] at h; simp at h
    · rw [if_neg hb, if_neg ha]
      have hf := feeR_bounds (a := a) (b := b) (by omega) (by omega) (by omega)
      unfold subS
      rw [if_pos (show amt a ∧ amt (feeR a b) ∧ amt (a - feeR a b) by unfold amt; omega)]
theorem ref_less_f (a b : Int) (ha : -9223372036854775808 ≤ a) (ha' : a ≤ 9223372036854775807) : Ev (fun k => backhaulref04_Less.f k a b) (lessS a b) := by
  unfold backhaulref04_Less.f
  refine Ev.bind (ref_of_f a b) ?_
  unfold lessS
  refine Ev.ite (fun h => ?_) (fun h => Ev.ok (by rw [if_neg h]))
  rw [if_pos h]
  refine Ev.ok ?_
  unfold ofS at h ⊢
  by_cases hb : b < 0 ∨ b > 10000
  · rw [if_pos hb] at h; simp at h
  · by_cases ha : a < 0 ∨ a > 1000000000000
    · rw [if_neg hb, if_pos ha] at h; simp at h
    · rw [if_neg hb, if_neg ha]
      have hf := feeR_bounds (a := a) (b := b) (by omega) (by omega) (by omega)
      dsimp only
      rw [wrap_eq (by omega) (by omega)]
end Go.Proofs.Ytefhljhpcpajgaa.Q

/- FeeBounds: a fee is between 0 and its amount, 0 at a basis of 0 and the amount at the highest one; what is left is the amount without it; no condition. -/
namespace Go.Proofs.Ytefhljhpcpajgaa.Pure
open Go.RowKit Go.Proofs.Ytefhljhpcpajgaa.F Go.Proofs.Ytefhljhpcpajgaa.Q Go.Proofs.YtefhljhpcpajgaaW.PrintWords Go.Proofs.YtefhljhpcpajgaaW.PrintLast

theorem FeeBounds : backhaullaw04_FeeBounds.Pure := by
  intro a b ha hb
  refine Ev.rounds (r := true) ?_
  unfold backhaullaw04_FeeBounds.f
  refine Ev.bind (fee_of_f a b) (Ev.bind (fee_less_f a b) ?_)
  by_cases h1 : b < 0 ∨ b > 10000
  · have e : ofS a b = (0, 2) := by unfold ofS; rw [if_pos h1]
    have e2 : lessS a b = (0, 2) := by unfold lessS; rw [e, if_neg (by decide)]
    rw [e, e2]
    exact Q.Ev.neg (by decide) (Q.Ev.pos rfl (Q.Ev.pos rfl (Q.Ev.pos rfl (Q.Ev.const rfl))))
  · by_cases h2 : a < 0 ∨ a > 1000000000000
    · have e : ofS a b = (0, 8) := by unfold ofS; rw [if_neg h1, if_pos h2]
      have e2 : lessS a b = (0, 8) := by unfold lessS; rw [e, if_neg (by decide)]
      rw [e, e2]
      exact Q.Ev.neg (by decide) (Q.Ev.pos rfl (Q.Ev.pos rfl (Q.Ev.pos rfl (Q.Ev.const rfl))))
    · have e : ofS a b = (feeR a b, 0) := by unfold ofS; rw [if_neg h1, if_neg h2]
      have e2 : lessS a b = (a - feeR a b, 0) := by unfold lessS; rw [e, if_pos rfl]
      rw [e, e2]
      have hf := feeR_bounds (a := a) (b := b) (by omega) (by omega) (by omega)
      refine Q.Ev.pos rfl (Q.Ev.pos rfl (Q.Ev.neg (by dsimp only; omega) (Q.Ev.neg (by dsimp only; omega) (Q.Ev.pos (by dsimp only; rw [wrap_eq (by omega) (by omega)]) ?_))))
      have top : b = 10000 → feeR a b = a := by
        rintro rfl
        unfold feeR
        omega
      refine Q.Ev.ite (fun h3 => Q.Ev.pos ?_ (Q.Ev.neg (by omega) (Q.Ev.const rfl))) (fun h3 => Q.Ev.ite (fun h4 => Q.Ev.pos (top h4) (Q.Ev.const rfl)) (fun h4 => Q.Ev.const rfl))
      subst h3
      show feeR a 0 = 0
      unfold feeR
      omega
end Go.Proofs.Ytefhljhpcpajgaa.Pure

-- What an argument's reading as data says of its cells, kind by kind: for the rows of laws. (A template: seat's name for Ytefhljhpcpajgaa.)
set_option linter.unusedVariables false
set_option linter.unusedSimpArgs false
namespace Go.Proofs.YtefhljhpcpajgaaX
open Go.RowKit Go.Proofs.YtefhljhpcpajgaaW.PrintWords Go.Proofs.YtefhljhpcpajgaaW.PrintLast Go.Proofs.YtefhljhpcpajgaaW.PrintMore

/-- Whatever reads as data of type t is of kind k, and is ok. -/
def Opens {α : Type} (P : Program) (t : TypeId) (k : Kd α) (Ok : α → Prop) : Prop :=
  ∀ {H : Type} {enc : TypeId × Value → H} {w : World} {base : Nat} {spare : Nat → Bool} {held : Bool} {fuel : Nat} {cs : List Value} {x : DataW H × List MemPlace},
    DataW.trod enc P w base spare held fuel t cs = some x → ∃ a : α, k.K w a cs ∧ Ok a

theorem Opens.int {P : Program} {t : TypeId} {k : IntKind} (ht : P.underlying t = some (.int k)) : Opens P t (Kd.int k) (fun a => (Lit.int k a).wf = true) := by
  intro H enc w base spare held fuel cs x h
  obtain ⟨n, rfl, _, hw⟩ := DataW.trod_int ht h
  exact ⟨n, rfl, hw⟩
theorem Opens.bool {P : Program} {t : TypeId} (ht : P.underlying t = some .bool) : Opens P t Kd.bool (fun _ => True) := by
  intro H enc w base spare held fuel cs x h
  obtain ⟨n, rfl, _⟩ := DataW.trod_bool ht h
  exact ⟨n, rfl, trivial⟩
theorem Opens.string {P : Program} {t : TypeId} (ht : P.underlying t = some .string) : Opens P t Kd.string (fun a => a.size ≤ maxLen) := by
  intro H enc w base spare held fuel cs x h
  obtain ⟨s, rfl, _, hw⟩ := DataW.trod_string ht h
  exact ⟨s, rfl, hw⟩
theorem list_of {α : Type} {p : Nat → α → Prop} : ∀ n, (∀ i, i < n → ∃ a, p i a) → ∃ xs : List α, xs.length = n ∧ ∀ i a, xs[i]? = some a → p i a
  | 0, _ => ⟨[], rfl, fun i a h => by simp at h⟩
  | n + 1, h => by
    obtain ⟨xs, hl, hx⟩ := list_of n (fun i hi => h i (by omega))
    obtain ⟨a, ha⟩ := h n (by omega)
    refine ⟨xs ++ [a], by simp [hl], fun i b hb => ?_⟩
    rcases Nat.lt_or_ge i xs.length with h1 | h1
    · rw [List.getElem?_append_left h1] at hb
      exact hx i b hb
    · rw [List.getElem?_append_right h1] at hb
      have h2 : i - xs.length = 0 := by
        have := (List.getElem?_eq_some_iff.1 hb).1
        simp at this; omega
      rw [h2] at hb
      have : a = b := by simpa using hb
      subst this
      have : i = n := by omega
      rw [this]; exact ha
theorem Opens.slice {α : Type} {P : Program} {t e : TypeId} {k : Kd α} {Ok : α → Prop} (ht : P.underlying t = some (.slice e)) (hc : P.cellsOf e = k.sz) (h : Opens P e k Ok) :
    Opens P t (Kd.slice e k) (fun xs => xs.length ≤ maxLen ∧ ∀ x ∈ xs, Ok x) := by
  intro H enc w base spare held fuel cs x hx
  rcases Go.Deep.open_slice ht hx with ⟨rfl, rfl⟩ | ⟨a, len, cap, m, n, D, Pl, rfl, hb, hl, hm, hmm, rfl, hel⟩
  · exact ⟨[], ⟨none, 0, rfl, by simp, rfl, by simp, fun h => absurd h (by simp)⟩, by simp [maxLen], by simp⟩
  · have hlm : len ≤ m := by rw [hmm]; split <;> omega
    obtain ⟨xs, hlen, hxs⟩ := list_of (p := fun i (a' : α) => ∃ cs', w.cells? base (a.add (i * P.cellsOf e)) (P.cellsOf e) = some cs' ∧ k.K w a' cs' ∧ Ok a') len (fun i hi => by
      obtain ⟨cs', h1, h2⟩ := hel i (by omega)
      obtain ⟨a', h3, h4⟩ := h h2
      exact ⟨a', cs', h1, h3, h4⟩)
    have hlm2 : len ≤ maxLen := by omega
    refine ⟨xs, ⟨some a, cap, by rw [hlen], by rw [hlen]; exact hl, rfl, by rw [hlen]; simpa [maxLen] using hlm2, fun _ => ⟨a, rfl, fun j p hj => ?_⟩⟩, by rw [hlen]; exact hlm2, fun y hy => ?_⟩
    · obtain ⟨cs', h1, h2, _⟩ := hxs j p hj
      refine ⟨cs', k.K_len h2, h2, fun i u hu => ?_⟩
      obtain ⟨_, _, h3⟩ := World.cells?_some h1
      have h4 := h3 i (by have := (List.getElem?_eq_some_iff.1 hu).1; have := k.K_len h2; omega)
      rw [← hc, ← Go.Proofs.YtefhljhpcpajgaaW.PrintWords.add_add]
      rw [← hu]; exact h4
    · obtain ⟨i, hi, rfl⟩ := List.mem_iff_getElem.1 hy
      obtain ⟨_, _, _, h3⟩ := hxs i _ (List.getElem?_eq_getElem hi)
      exact h3
theorem field_reads {H : Type} {enc : TypeId × Value → H} {P : Program} {w : World} {base : Nat} {spare : Nat → Bool} {held : Bool} {fuel : Nat} {t : TypeId} {cs : List Value} {x : DataW H × List MemPlace} {fs : Array Field}
    (ht : P.underlying t = some (.struct fs)) (h : DataW.trod enc P w base spare held fuel t cs = some x) :
    cs.length = P.cellsOf t ∧ ∃ n, ∀ (i : Nat) (f : Field), fs[i]? = some f → ∃ y, DataW.trod enc P w base spare held n f.type ((cs.drop f.offset).take (P.cellsOf f.type)) = some y := by
  obtain ⟨xs, n, _, _, hl, hx, hf⟩ := DataW.trod_struct ht h
  refine ⟨hl, n, fun i f hif => ?_⟩
  rw [hf i f hif]
  have hi := (Array.getElem?_eq_some_iff.1 hif).1
  exact ⟨_, List.getElem?_eq_getElem (by rw [hx]; exact hi)⟩
theorem cell_reads {H : Type} {enc : TypeId × Value → H} {P : Program} {w : World} {base : Nat} {spare : Nat → Bool} {held : Bool} {fuel : Nat} {t e : TypeId} {m : Nat} {cs : List Value} {x : DataW H × List MemPlace}
    (ht : P.underlying t = some (.array m e)) (h : DataW.trod enc P w base spare held fuel t cs = some x) :
    cs.length = P.cellsOf t ∧ ∃ n, ∀ (i : Nat), i < m → ∃ y, DataW.trod enc P w base spare held n e ((cs.drop (i * P.cellsOf e)).take (P.cellsOf e)) = some y := by
  obtain ⟨xs, n, _, _, hl, hx, hf⟩ := DataW.trod_array ht h
  refine ⟨hl, n, fun i hi => ?_⟩
  rw [hf i hi]
  exact ⟨_, List.getElem?_eq_getElem (by rw [hx]; exact hi)⟩
theorem okWide_array' {P : Program} {w : World} {r : Reach} {base : Nat} {t e : TypeId} {m : Nat} {v : Value} (ht : P.underlying t = some (.array m e)) (h : Value.okWide P w r base t v) : ∃ cs, v = .agg cs ∧ cs.size = P.cellsOf t := by
  simp only [Value.okWide, ht] at h
  obtain ⟨cs, h1, h2, _⟩ := h
  exact ⟨cs, h1, h2⟩
/-- The cells of a slice's value. -/
theorem slice_cells {α : Type} {k : Kd α} {e : Nat} {w : World} {xs : List α} {v : Value} (h : (Kd.slice e k).K w xs [v]) : ∃ A c, v = .slice A xs.length c ∧ xs.length ≤ c ∧ k.C w A xs.length xs := by
  obtain ⟨A, c, he, hl, hc⟩ := h
  injection he with he
  exact ⟨A, c, he, hl, hc⟩
/-! The program's head, read once: a long text's signs, told as a list. -/
theorem band {a b : Bool} (h1 : a = true) (h2 : b = true) : (a && b) = true := by rw [h1, h2]; rfl
theorem mayEnter_of {P : Program} {L c : List Char} {rest : List (List Char)} (h : P.initOrder.toList = L) (h1 : behindMainWord (wordsSigns L) = c :: rest) (h2 : ((stripLifts liftWords (c :: rest)).2.head? == some "cut".toList) = true) (h3 : P.laysLater = false) (h4 : P.bearsReflect = false) (h5 : (stripLifts liftWords (c :: rest)).1 = []) (h6 : P.doorFits [] = true) : P.mayEnter = true := by
  unfold Program.mayEnter
  rw [h, h1]
  dsimp only
  rw [h2, h3, h4, h5, h6]
  simp
theorem make_of {P : Program} {L : List Char} {rest : List (List Char)} (h : P.initOrder.toList = L) (h1 : behindMainWord (wordsSigns L) = "cut".toList :: rest) : P.make = some .cut := by
  unfold Program.make
  rw [h, h1]
  dsimp only
  rw [if_neg (by decide), if_pos (by simp)]
end Go.Proofs.YtefhljhpcpajgaaX

-- The program's head, as a list of signs. (A template.)
set_option maxRecDepth 10000
namespace Go.Proofs.Ytefhljhpcpajgaa.Join
open Go.Proofs.YtefhljhpcpajgaaX
def initSigns : List Char := ['h', 'a', 'r', 'n', 'e', 's', 's', ' ', '5', '6', '5', 'd', 'd', 'd', '3', '6', '6', '5', 'c', '5', '5', '9', 'c', '2', '4', '9', 'e', '2', 'e', '3', '7', '8', 'c', '7', '1', 'b', 'b', 'b', '4', '7', '4', '9', '6', '8', '7', '8', 'a', '7', '0', 'b', '1', 'c', '4', '8', '9', 'f', '4', '3', '5', '5', '6', 'b', 'b', '7', 'f', '7', 'f', '7', '4', '9', '2', 'f', ' ', 'c', 'u', 't', ' ', 'a', 't', ' ', 'b', 'a', 'c', 'k', 'h', 'a', 'u', 'l', '/', 'b', 'a', 'c', 'k', 'h', 'a', 'u', 'l', 'l', 'a', 'w', '0', '2', '.', 'C', 'e', 'n', 't', 's', 'S', 'u', 'm', 's', ' ', 'b', 'a', 'c', 'k', 'h', 'a', 'u', 'l', '/', 'b', 'a', 'c', 'k', 'h', 'a', 'u', 'l', 'l', 'a', 'w', '0', '2', '.', 'C', 'e', 'n', 't', 's', 'S', 'h', 'a', 'r', 'e', 's', ' ', 'b', 'a', 'c', 'k', 'h', 'a', 'u', 'l', '/', 'b', 'a', 'c', 'k', 'h', 'a', 'u', 'l', 'l', 'a', 'w', '0', '2', '.', 'C', 'e', 'n', 't', 's', 'O', 'v', 'e', 'r', ' ', 'b', 'a', 'c', 'k', 'h', 'a', 'u', 'l', '/', 'b', 'a', 'c', 'k', 'h', 'a', 'u', 'l', 'l', 'a', 'w', '0', '2', '.', 'C', 'e', 'n', 't', 's', 'D', 'i', 'v', 's', ' ', 'b', 'a', 'c', 'k', 'h', 'a', 'u', 'l', '/', 'b', 'a', 'c', 'k', 'h', 'a', 'u', 'l', 'l', 'a', 'w', '0', '4', '.', 'F', 'e', 'e', 'T', 'e', 'l', 'l', 's', ' ', 'b', 'a', 'c', 'k', 'h', 'a', 'u', 'l', '/', 'b', 'a', 'c', 'k', 'h', 'a', 'u', 'l', 'l', 'a', 'w', '0', '4', '.', 'F', 'e', 'e', 'B', 'o', 'u', 'n', 'd', 's', ' ', 'b', 'a', 'c', 'k', 'h', 'a', 'u', 'l', '/', 'b', 'a', 'c', 'k', 'h', 'a', 'u', 'l', 'l', 'a', 'w', '0', '4', '.', 'F', 'e', 'e', 'S', 't', 'e', 'p', 's', ' ', 'b', 'a', 'c', 'k', 'h', 'a', 'u', 'l', '/', 'b', 'a', 'c', 'k', 'h', 'a', 'u', 'l', 'l', 'a', 'w', '0', '3', '.', 'S', 'h', 'a', 'r', 'e', 'D', 'e', 'a', 'l', 's', ' ', 'b', 'a', 'c', 'k', 'h', 'a', 'u', 'l', '/', 'b', 'a', 'c', 'k', 'h', 'a', 'u', 'l', 'l', 'a', 'w', '0', '3', '.', 'S', 'h', 'a', 'r', 'e', 'A', 'l', 'l', ' ', 'b', 'a', 'c', 'k', 'h', 'a', 'u', 'l', '/', 'b', 'a', 'c', 'k', 'h', 'a', 'u', 'l', 'l', 'a', 'w', '0', '3', '.', 'S', 'h', 'a', 'r', 'e', 'F', 'a', 'i', 'r', ' ', 'b', 'a', 'c', 'k', 'h', 'a', 'u', 'l', '/', 'b', 'a', 'c', 'k', 'h', 'a', 'u', 'l', 'l', 'a', 'w', '2', '1', '.', 'L', 'i', 'n', 'e', 'D', 'e', 'a', 'l', 's', ' ', 'b', 'a', 'c', 'k', 'h', 'a', 'u', 'l', '/', 'b', 'a', 'c', 'k', 'h', 'a', 'u', 'l', 'l', 'a', 'w', '2', '1', '.', 'L', 'i', 'n', 'e', 'T', 'e', 'l', 'l', 's', ' ', 'b', 'a', 'c', 'k', 'h', 'a', 'u', 'l', '/', 'b', 'a', 'c', 'k', 'h', 'a', 'u', 'l', 'l', 'a', 'w', '2', '1', '.', 'L', 'i', 'n', 'e', 'A', 'l', 'l', ' ', 'b', 'a', 'c', 'k', 'h', 'a', 'u', 'l', '/', 'b', 'a', 'c', 'k', 'h', 'a', 'u', 'l', 'l', 'a', 'w', '2', '1', '.', 'L', 'i', 'n', 'e', 'U', 'n', 'i', 't', 's', ' ', 'b', 'a', 'c', 'k', 'h', 'a', 'u', 'l', '/', 'b', 'a', 'c', 'k', 'h', 'a', 'u', 'l', 'l', 'a', 'w', '2', '2', '.', 'V', 'a', 'l', 'u', 'e', 'T', 'e', 'l', 'l', 's', ' ', 'b', 'a', 'c', 'k', 'h', 'a', 'u', 'l', '/', 'b', 'a', 'c', 'k', 'h', 'a', 'u', 'l', 'l', 'a', 'w', '2', '2', '.', 'V', 'a', 'l', 'u', 'e', 'B', 'o', 'u', 'n', 'd', 's', ' ', 'b', 'a', 'c', 'k', 'h', 'a', 'u', 'l', '/', 'b', 'a', 'c', 'k', 'h', 'a', 'u', 'l', 'l', 'a', 'w', '2', '2', '.', 'V', 'a', 'l', 'u', 'e', 'W', 'h', 'o', 'l', 'e', ' ', 'b', 'a', 'c', 'k', 'h', 'a', 'u', 'l', '/', 'b', 'a', 'c', 'k', 'h', 'a', 'u', 'l', 'l', 'a', 'w', '2', '6', '.', 'O', 'r', 'd', 'e', 'r', 'M', 'a', 'k', 'e', 's', ' ', 'b', 'a', 'c', 'k', 'h', 'a', 'u', 'l', '/', 'b', 'a', 'c', 'k', 'h', 'a', 'u', 'l', 'l', 'a', 'w', '2', '6', '.', 'O', 'r', 'd', 'e', 'r', 'T', 'e', 'l', 'l', 's', ' ', 'b', 'a', 'c', 'k', 'h', 'a', 'u', 'l', '/', 'b', 'a', 'c', 'k', 'h', 'a', 'u', 'l', 'l', 'a', 'w', '2', '6', '.', 'O', 'r', 'd', 'e', 'r', 'D', 'e', 'a', 'l', 's', ' ', 'b', 'a', 'c', 'k', 'h', 'a', 'u', 'l', '/', 'b', 'a', 'c', 'k', 'h', 'a', 'u', 'l', 'l', 'a', 'w', '2', '6', '.', 'O', 'r', 'd', 'e', 'r', 'F', 'i', 'n', 'd', 's']
theorem initText : Try.pinned.checked.prog.initOrder = String.ofList initSigns := by kernel_rfl
theorem initList : Try.pinned.checked.prog.initOrder.toList = initSigns := (congrArg String.toList initText).trans String.toList_ofList
theorem mayEnter_is : Try.pinned.checked.prog.mayEnter = true :=
  mayEnter_of (L := initSigns) (c := "cut".toList) (rest := (behindMainWord (wordsSigns initSigns)).tail) initList (by kernel_rfl) (by kernel_rfl) (by kernel_rfl) (by kernel_rfl) (by kernel_rfl) (by kernel_rfl)
theorem make_is : Try.pinned.checked.prog.make = some .cut :=
  make_of (L := initSigns) (rest := (behindMainWord (wordsSigns initSigns)).tail) initList (by kernel_rfl)
theorem lifts_is : Try.pinned.checked.prog.liftsFinal = false := by
  unfold Program.liftsFinal Program.headLifts
  rw [initList]
  kernel_rfl
end Go.Proofs.Ytefhljhpcpajgaa.Join

namespace Go.Proofs.Ytefhljhpcpajgaa.feeBounds
open Go.ChangeShapes Go.WideShapes Go.ChangeAt Go.RowKit Go.Proofs.YtefhljhpcpajgaaX Go.Proofs.Ytefhljhpcpajgaa.F Go.Proofs.YtefhljhpcpajgaaW.PrintWords Go.Proofs.YtefhljhpcpajgaaW.PrintLast Go.Proofs.YtefhljhpcpajgaaW.PrintMore
open Go.ChangeMaps (open_string shut_string)
set_option linter.unusedVariables false
set_option linter.unusedSimpArgs false
theorem own : ownKnob Try.prog.godebug = none := by kernel_rfl
theorem laidOut : laidOutB Try.prog = true := by kernel_rfl
set_option maxRecDepth 100000 in
theorem lifted (os : Os) (started : os.Started) (H : Type) (enc : TypeId × Value → H) :
    ReturnsInHanded {} Try.checked os 8 .any (Rows.feeBoundsSpec.pre6 enc Try.prog Try.f8 Rows.feeBoundsRow.domain false) (Rows.feeBoundsSpec.post enc Try.prog Try.f8 false true false false) := by
  refine returnsInHanded_of_change_sized (C := Try.checked) own started (by kernel_rfl) Try.func8
    (ChangeSpec.witness6 (enc := enc) (C := Try.checked) false ⟨#[], #[.int .i64 0, .int .i64 0], []⟩ 8 (by kernel_rfl) (by kernel_rfl) (by kernel_rfl) (by kernel_rfl)) ?_
  intro W base args ds gs before hval0 hW hcnd hsz0 _
  have hval : ∀ (j : Nat) t v, Try.f8.params[j]? = some t → args[j]? = some v → Value.okWide Try.prog W .any base t v := hval0
  have hW' := hW
  obtain ⟨p, q, hA0, hV, rfl, hfz, hnd⟩ := hW
  have hA : DataW.TrodAll enc Try.prog W 0 (fun _ => true) true Try.f8.params.toList args.toList ds p := hA0
  rw [Try.params8] at hA hval
  obtain ⟨v0, vs0, d0, ds0, p0, q0, hargs, rfl, rfl, h0, r0⟩ := trodAll_cons hA
  obtain ⟨v1, vs1, d1, ds1, p1, q1, rfl, rfl, rfl, h1, r1⟩ := trodAll_cons r0
  obtain ⟨rfl, rfl, rfl⟩ := trodAll_nil r1
  obtain rfl : args = #[v0, v1] := by cases args; simp_all
  obtain ⟨rfl, rfl⟩ := trodVars_none hV
  have k0 := h0
  have lt0 : ∀ x ∈ p0, x.block < W.heap.size := by obtain ⟨m, hm⟩ := k0; exact DataW.trod_lt m _ _ _ hm
  obtain ⟨x0, rfl⟩ := okWide_int Try.underlying3 (hval 0 3 v0 rfl rfl)
  obtain ⟨f0, hf0⟩ := h0
  obtain ⟨z0, hk0, ho0⟩ := (Opens.int Try.underlying3) hf0
  obtain rfl : x0 = z0 := by have := hk0; injection this with this; injection this
  have k1 := h1
  have lt1 : ∀ x ∈ p1, x.block < W.heap.size := by obtain ⟨m, hm⟩ := k1; exact DataW.trod_lt m _ _ _ hm
  obtain ⟨x1, rfl⟩ := okWide_int Try.underlying3 (hval 1 3 v1 rfl rfl)
  obtain ⟨f1, hf1⟩ := h1
  obtain ⟨z1, hk1, ho1⟩ := (Opens.int Try.underlying3) hf1
  obtain rfl : x1 = z1 := by have := hk1; injection this with this; injection this
  obtain ⟨k, h⟩ : ∃ k, backhaullaw04_FeeBounds.f k x0 x1 = some true := Pure.FeeBounds x0 x1 ho0 ho1
  refine (backhaullaw04_FeeBounds.calls k x0 x1 W  h).mono fun e W' hq => ?_
  obtain ⟨he, bel0⟩ := hq
  have bel : Below W.heap.size W W' := bel0
  subst he
  exact ⟨_, rfl, _, _, _, [], _, [], hW', trodAll_mk1 (shut_bool Try.underlying4 _), (trodAll_cons_mk (Below.trod laidOut (by kernel_rfl) (of_decide_eq_true (by kernel_rfl)) k0 bel lt0) (trodAll_cons_mk (Below.trod laidOut (by kernel_rfl) (of_decide_eq_true (by kernel_rfl)) k1 bel lt1) trodAll_mk0)), rfl, bel.frame _, fun h => by cases h⟩
theorem closed_ : joinedFacts Try.pinned.checked.prog 8 Try.f8 Rows.feeBoundsSpec Rows.feeBoundsRow = true := by
  unfold joinedFacts
  repeat' (with_reducible apply band)
  any_goals with_reducible exact Join.mayEnter_is
  any_goals (rw [Join.make_is]; kernel_rfl)
  any_goals (rw [Join.lifts_is]; kernel_rfl)
  all_goals kernel_rfl
theorem over : Rows.feeBoundsRow.holds Try.pinned (OpenSpec.ofChange Rows.feeBoundsSpec) :=
  OpenClaim.holds_of_wide 8 Try.f8 rfl rfl rfl rfl rfl rfl rfl ⟨rfl, rfl, rfl, rfl, rfl⟩ rfl rfl rfl rfl rfl (by kernel_rfl) Try.func8 closed_
    (of_decide_eq_true (by kernel_rfl)) (by unfold Func.isWrapper; first | (rw [if_pos (by decide +kernel)]; kernel_rfl) | (rw [if_neg (by decide +kernel)]; exact ⟨rfl, rfl⟩))
    (fun os started H enc _ => lifted os started H enc)
theorem proved : Rows.FeeBoundsSaid := over
#print axioms proved
end Go.Proofs.Ytefhljhpcpajgaa.feeBounds
namespace Go.Proofs.Ytefhljhpcpajgaa
/-- The row, under a short name, for the claim. -/
theorem feeBounds_holds : Rows.FeeBoundsSaid := feeBounds.proved
end Go.Proofs.Ytefhljhpcpajgaa

