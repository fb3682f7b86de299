-- merged by merge.py (the session's own program)
import Derived.Deep.Slices
import Derived.ChangeArms
import Derived.WideShapes
import Derived.OpenShut
import Derived.Test.YtabapiofkipkoaaRows
import Derived.WalkKit
import Derived.ProofKit
import Derived.WideLaws
import Derived.ShutString
import Derived.ChangeOld
import Derived.Below
import Derived.SizedLaws
import Derived.Carry
import Derived.Test.YtabapiofkipkoaaZSerialFolds1
namespace Go.Proofs.Ytabapiofkipkoaa.F
open Go.RowKit Go.Proofs.YtabapiofkipkoaaX Go.Proofs.YtabapiofkipkoaaW.PrintWords Go.Proofs.YtabapiofkipkoaaW.PrintLast Go.Proofs.YtabapiofkipkoaaW.PrintMore
attribute [local go_sem] max2_int min2_int max_two min_two max_three min_three max_four min_four   -- for this text's walks alone
attribute [local go_sem high] str_geq str_leq str_gtr
set_option linter.unusedVariables false
set_option linter.unusedSimpArgs false

/-! ### backhaulref05_wide: function 70 -/
def backhaulref05_wide.f (a0 : Int) : Option (Bool) := if a0 = 1 then (some true) else (if a0 = 2 then (some true) else (if a0 = 4 then (some true) else (some (a0 == 8))))
set_option maxHeartbeats 8000000 in
set_option maxRecDepth 100000 in
theorem backhaulref05_wide.calls (a0 : Int) (r : Bool) (w : World) (h : backhaulref05_wide.f a0 = some r) :
    Calls Try.prog 70 #[.int .i64 a0] w fun e w' => e = .returned (.bool r) ∧ Drawn0 w w' := by
  have H : (if a0 = 1 then (some true) else (if a0 = 2 then (some true) else (if a0 = 4 then (some true) else (some (a0 == 8))))) = some r := h
  clear h
  by_cases c2 : a0 = 1
  · rw [if_pos c2] at H
    have c2b0 : (a0 == 1) = true := beq_iff_eq.mpr c2
    have c2b1 : (a0 != 1) = false := bne_eq_false_iff_eq.mpr c2
    clear c2
    obtain rfl := Option.some.inj H
    go_enter Try.func70, Try.ntmps70
    go_wp2
    go_ret
    exact ⟨by first | rfl | (simp; done) | (simp [*]; done), by repeat (first | exact Drawn0.refl _ | apply Drawn0.step)⟩
  · rw [if_neg c2] at H
    have c2b0 : (a0 == 1) = false := beq_eq_false_iff_ne.mpr c2
    have c2b1 : (a0 != 1) = true := bne_iff_ne.mpr c2
    by_cases c3 : a0 = 2
    · rw [if_pos c3] at H
      have c3b0 : (a0 == 2) = true := beq_iff_eq.mpr c3
      have c3b1 : (a0 != 2) = false := bne_eq_false_iff_eq.mpr c3
      clear c3
      obtain rfl := Option.some.inj H
      go_enter Try.func70, Try.ntmps70
      go_wp2
      go_ret
      exact ⟨by first | rfl | (simp; done) | (simp [*]; done), by repeat (first | exact Drawn0.refl _ | apply Drawn0.step)⟩
    · rw [if_neg c3] at H
      have c3b0 : (a0 == 2) = false := beq_eq_false_iff_ne.mpr c3
      have c3b1 : (a0 != 2) = true := bne_iff_ne.mpr c3
      by_cases c4 : a0 = 4
      · rw [if_pos c4] at H
        have c4b0 : (a0 == 4) = true := beq_iff_eq.mpr c4
        have c4b1 : (a0 != 4) = false := bne_eq_false_iff_eq.mpr c4
        clear c4
        obtain rfl := Option.some.inj H
        go_enter Try.func70, Try.ntmps70
        go_wp2
        go_ret
        exact ⟨by first | rfl | (simp; done) | (simp [*]; done), by repeat (first | exact Drawn0.refl _ | apply Drawn0.step)⟩
      · rw [if_neg c4] at H
        have c4b0 : (a0 == 4) = false := beq_eq_false_iff_ne.mpr c4
        have c4b1 : (a0 != 4) = true := bne_iff_ne.mpr c4
        obtain rfl := Option.some.inj H
        go_enter Try.func70, Try.ntmps70
        go_wp2
        go_ret
        exact ⟨by first | rfl | (simp; done) | (simp [*]; done), by repeat (first | exact Drawn0.refl _ | apply Drawn0.step)⟩

end Go.Proofs.Ytabapiofkipkoaa.F

namespace Go.Proofs.Ytabapiofkipkoaa.F
open Go.RowKit Go.Proofs.YtabapiofkipkoaaX Go.Proofs.YtabapiofkipkoaaW.PrintWords Go.Proofs.YtabapiofkipkoaaW.PrintLast Go.Proofs.YtabapiofkipkoaaW.PrintMore
attribute [local go_sem] max2_int min2_int max_two min_two max_three min_three max_four min_four   -- for this text's walks alone
attribute [local go_sem high] str_geq str_leq str_gtr
set_option linter.unusedVariables false
set_option linter.unusedSimpArgs false

/-! ### backhaulref05_Put: function 36 -/
def backhaulref05_Put.l0 : Nat → Int → Int → ByteArray → Int → Option (ByteArray × Int)
  | 0, _, _, _, _ => none
  | k + 1, x0, x1, x6, x7 => if x7 < x1 then ((some (([(Int.tmod x0 256) % 256] : List Int) : List Int)).bind fun y437 => (if (strOfNums y437).size + x6.size ≤ 9223372036854775807 then (backhaulref05_Put.l0 k (wrap64 (Int.tdiv x0 256)) x1 ((strOfNums y437) ++ x6) (wrap64 (x7 + 1))) else (none))) else (if x0 > 0 then (some ((⟨#[]⟩ : ByteArray), 8)) else (some (x6, 0)))
def backhaulref05_Put.f (k : Nat) (a0 : Int) (a1 : Int) : Option (ByteArray × Int) := (backhaulref05_wide.f a1).bind fun t436 => (if t436 = true then (if a0 < 0 then (some ((⟨#[]⟩ : ByteArray), 8)) else (backhaulref05_Put.l0 k a0 a1 (⟨#[]⟩ : ByteArray) 0)) else (some ((⟨#[]⟩ : ByteArray), 2)))
theorem backhaulref05_Put.mono_l : ∀ k, (∀ y0 y1 y2 y3, LeO (backhaulref05_Put.l0 k y0 y1 y2 y3) (backhaulref05_Put.l0 (k + 1) y0 y1 y2 y3))
  | 0 => fun _ _ _ _ r h => by simp [backhaulref05_Put.l0] at h
  | k + 1 => by
    have ih0 := backhaulref05_Put.mono_l k
    · intro y0 y1 y2 y3
      unfold backhaulref05_Put.l0
      repeat' first
      | (with_reducible exact ih0 _ _ _ _)
      | (with_reducible exact LeO.refl _)
      | (with_reducible exact LeO.none _)
      | (with_reducible refine LeO.ite ?_ ?_)
      | (with_reducible refine LeO.bind ?_ (fun _ => ?_))
      | exact ih0 _ _ _ _
      | exact LeO.none _
      | refine LeO.ite ?_ ?_
      | refine LeO.bind ?_ (fun _ => ?_)
theorem backhaulref05_Put.mono : ∀ a0 a1 k, LeO (backhaulref05_Put.f k a0 a1) (backhaulref05_Put.f (k + 1) a0 a1) := by
  intro a0 a1 k
  have ih0 := backhaulref05_Put.mono_l k
  unfold backhaulref05_Put.f
  repeat' first
      | (with_reducible exact ih0 _ _ _ _)
      | (with_reducible exact LeO.refl _)
      | (with_reducible exact LeO.none _)
      | (with_reducible refine LeO.ite ?_ ?_)
      | (with_reducible refine LeO.bind ?_ (fun _ => ?_))
      | exact ih0 _ _ _ _
      | exact LeO.none _
      | refine LeO.ite ?_ ?_
      | refine LeO.bind ?_ (fun _ => ?_)
set_option maxHeartbeats 8000000 in
set_option maxRecDepth 100000 in
theorem backhaulref05_Put.calls (k : Nat) (a0 : Int) (a1 : Int) (r1 : ByteArray) (r2 : Int) (w : World) (h : backhaulref05_Put.f k a0 a1 = some (r1, r2)) :
    Calls Try.prog 36 #[.int .i64 a0, .int .i64 a1] w fun e w' => e = .returned (.tuple #[.string r1, .int .i64 r2]) ∧ Below w.heap.size w w' := by
  have HB := Aside0.mk (Below.refl w.heap.size w)
  have H : ((backhaulref05_wide.f a1).bind fun t436 => (if t436 = true then (if a0 < 0 then (some ((⟨#[]⟩ : ByteArray), 8)) else (backhaulref05_Put.l0 k a0 a1 (⟨#[]⟩ : ByteArray) 0)) else (some ((⟨#[]⟩ : ByteArray), 2)))) = some (r1, r2) := h
  clear h
  replace H := Option.bind_eq_some_iff.mp H
  obtain ⟨t436, A30, H⟩ := H
  replace H : (if t436 = true then (if a0 < 0 then (some ((⟨#[]⟩ : ByteArray), 8)) else (backhaulref05_Put.l0 k a0 a1 (⟨#[]⟩ : ByteArray) 0)) else (some ((⟨#[]⟩ : ByteArray), 2))) = some (r1, r2) := H
  have A3 := Aside0.mk A30
  clear A30
  by_cases c4 : t436 = true
  · subst c4
    have H1 : (if a0 < 0 then (some ((⟨#[]⟩ : ByteArray), 8)) else (backhaulref05_Put.l0 k a0 a1 (⟨#[]⟩ : ByteArray) 0)) = some (r1, r2) := by first | (rw [if_pos rfl] at H; exact H) | rfl
    clear H
    have H := H1
    clear H1
    by_cases c5 : a0 < 0
    · rw [if_pos c5] at H
      have c5b0 : decide (a0 < 0) = true := decide_eq_true c5
      clear c5
      simp only [Option.some.injEq, Prod.mk.injEq] at H
      obtain ⟨rfl, rfl⟩ := H
      go_enter Try.func36, Try.ntmps36
      go_wp2_with (first | ((with_reducible refine gate_callee (f := 70) rfl ?_); refine goesL_ (some 9) rfl rfl Try.func70 (by kernel_rfl) rfl #[.int .i64 a1] rfl (by (try simp only [List.map_toArray, List.map_cons, List.map_nil]); first | done | rfl | (simp only [List.length_drop, List.length_take]; rfl)) ?_; (with_reducible refine (backhaulref05_wide.calls a1 true _ A3.out).mono ?_); rintro e w' ⟨rfl, ⟨nd, rfl⟩⟩; refine ⟨_, rfl, ?_⟩))
      go_ret2
      exact ⟨by first | rfl | (simp [errW_none, errW_some] <;> rfl) | (simp [*, errW_none, errW_some] <;> rfl), by repeat (first | (with_reducible first | exact HB.out | apply below_alloc | apply pw_below_drewN | apply below_drew1) | exact HB.out)⟩
    · rw [if_neg c5] at H
      have c5b0 : decide (a0 < 0) = false := decide_eq_false c5
      clear c5
      have H' := Aside0.mk H
      clear H
      go_enter Try.func36, Try.ntmps36
      go_wp2_with (first | ((with_reducible refine gate_callee (f := 70) rfl ?_); refine goesL_ (some 9) rfl rfl Try.func70 (by kernel_rfl) rfl #[.int .i64 a1] rfl (by (try simp only [List.map_toArray, List.map_cons, List.map_nil]); first | done | rfl | (simp only [List.length_drop, List.length_take]; rfl)) ?_; (with_reducible refine (backhaulref05_wide.calls a1 true _ A3.out).mono ?_); rintro e w' ⟨rfl, ⟨nd, rfl⟩⟩; refine ⟨_, rfl, ?_⟩))
      go_loopg [0, 6, 7] k (fun kq v0 v6 v7 w' => ∃ (x0_1 : Int) (x6_1 : ByteArray) (x7_1 : Int), v0 = .int .i64 x0_1 ∧ v6 = .string x6_1 ∧ v7 = .int .i64 x7_1 ∧ Aside0 (backhaulref05_Put.l0 kq x0_1 a1 x6_1 x7_1 = some (r1, r2)) ∧ Aside0 (kq ≤ k) ∧ Aside0 (Below w.heap.size w w'))
      case atStart => exact ⟨(a0), ((⟨#[]⟩ : ByteArray)), (0), (by first | rfl | (simp; done) | (simp [*]; done)), (by first | rfl | (simp; done) | (simp [*]; done)), (by first | rfl | (simp; done) | (simp [*]; done)), H', ⟨Nat.le_refl _⟩, ⟨by repeat (first | (with_reducible first | exact HB.out | apply below_alloc | apply pw_below_drewN | apply below_drew1) | exact HB.out)⟩⟩
      case round =>
        clear H'
        try clear p2
        try clear c3
        try clear c4
        try clear c5
        try clear c5b0
        obtain ⟨x0_1, x6_1, x7_1, rfl, rfl, rfl, HA, HK1, HB⟩ := hrel
        cases gk with
        | zero => exact absurd HA.out (by simp [backhaulref05_Put.l0])
        | succ k1 =>
          have H := HA.out
          clear HA
          simp only [backhaulref05_Put.l0] at H
          by_cases c6 : x7_1 < a1
          · rw [if_pos c6] at H
            have c6b0 : decide (x7_1 < a1) = true := decide_eq_true c6
            clear c6
            obtain ⟨y437, hy437⟩ : ∃ y_ : List Int, y_ = (([(Int.tmod x0_1 256) % 256] : List Int)) := ⟨_, rfl⟩
            replace H : (if (strOfNums y437).size + x6_1.size ≤ 9223372036854775807 then (backhaulref05_Put.l0 k1 (wrap64 (Int.tdiv x0_1 256)) a1 ((strOfNums y437) ++ x6_1) (wrap64 (x7_1 + 1))) else (none)) = some (r1, r2) := by first | (rw [hy437]; with_reducible exact H) | (have H2_ := (Option.bind_some _ _).symm.trans H; rw [hy437]; with_reducible exact H2_) | (have H2_ := (Option.bind_some _ _).symm.trans H; with_reducible exact H2_) | with_reducible exact H | (rw [hy437]; exact H) | exact H
            have Ny437 := Aside0.mk hy437
            clear hy437
            by_cases c7 : (strOfNums y437).size + x6_1.size ≤ 9223372036854775807
            · rw [if_pos c7] at H
              have c7b0 := eq_true c7
              have c7b1 : decide ((strOfNums y437).size + x6_1.size ≤ 9223372036854775807) = true := decide_eq_true c7
              try have c7b2 : (9223372036854775807 < (strOfNums y437).size + x6_1.size) = False := eq_false (Nat.not_lt.2 c7)
              have H' := Aside0.mk H
              clear H
              go_wp2_with (first | ((with_reducible refine gate_dst (N := 21) rfl ?_); refine Kd.R_lit (Kd.int .u8) _ 5 ?hg (N := 21) ?hd (xs := ([(Int.tmod x0_1 256) % 256] : List Int)) (inner := [.int .u8 ((Int.tmod x0_1 256) % 256)]) (ok := fun _ => True) (okp := fun _ => True) ?hr ?hp (fun _ hk => hk) trivial (Below.refl _ _) (Nat.le_refl _) (by simp) ?_; (case hd => rfl); (case hg => rfl); (case hr => first | (go_simp; done) | (go_simp; rfl)); (case hp => exact (Reps.one (show Kd.M (Kd.int .u8) _ _ _ ((Int.tmod x0_1 256) % 256) [.int .u8 ((Int.tmod x0_1 256) % 256)] from rfl) (Reps.none _ _))); intro v438 w8 ho9 hb hg_ hnew_; clear hg_ hnew_; (first | rw [← Ny437.out] at ho9 | (simp only [Int.reduceToNat] at ho9; rw [← Ny437.out] at ho9)); have n0_ := Aside0.mk (Kd.R_lower ho9 (below_size (by repeat (first | (with_reducible first | exact HB.out | apply below_alloc | apply pw_below_drewN | apply below_drew1) | exact HB.out)))); have n1_ := Aside0.mk (below_step (by repeat (first | (with_reducible first | exact HB.out | apply below_alloc | apply pw_below_drewN | apply below_drew1) | exact HB.out)) hb); clear HB; have HO439 := n0_; have HB := n1_; clear n0_ n1_; clear hb ho9; have hcv10 := own_string (P := Try.prog) Try.underlying92 Try.underlying5 Try.underlying9 (Kd.own_of_R HO439.out)))
              go_roundg k1
              case measure => have := HK1.out; omega
              case rel => exact ⟨(wrap64 (Int.tdiv x0_1 256)), ((strOfNums y437) ++ x6_1), (wrap64 (x7_1 + 1)), (by first | rfl | (simp; done) | (simp [*]; done)), (by first | rfl | (simp; done) | (simp [*]; done)), (by first | rfl | (simp; done) | (simp [*]; done)), H', ⟨by have := HK1.out; omega⟩, ⟨by repeat (first | (with_reducible first | exact HB.out | apply below_alloc | apply pw_below_drewN | apply below_drew1) | exact HB.out)⟩⟩
            · rw [if_neg c7] at H
              exact absurd H (by simp)
          · rw [if_neg c6] at H
            have c6b0 : decide (x7_1 < a1) = false := decide_eq_false c6
            clear c6
            by_cases c11 : x0_1 > 0
            · rw [if_pos c11] at H
              have c11b0 : decide (0 < x0_1) = true := decide_eq_true c11
              clear c11
              simp only [Option.some.injEq, Prod.mk.injEq] at H
              obtain ⟨rfl, rfl⟩ := H
              go_wp2
              go_ret2
              exact ⟨by first | rfl | (simp [errW_none, errW_some] <;> rfl) | (simp [*, errW_none, errW_some] <;> rfl), by repeat (first | (with_reducible first | exact HB.out | apply below_alloc | apply pw_below_drewN | apply below_drew1) | exact HB.out)⟩
            · rw [if_neg c11] at H
              have c11b0 : decide (0 < x0_1) = false := decide_eq_false c11
              clear c11
              simp only [Option.some.injEq, Prod.mk.injEq] at H
              obtain ⟨rfl, rfl⟩ := H
              go_wp2
              go_ret2
              exact ⟨by first | rfl | (simp [errW_none, errW_some] <;> rfl) | (simp [*, errW_none, errW_some] <;> rfl), by repeat (first | (with_reducible first | exact HB.out | apply below_alloc | apply pw_below_drewN | apply below_drew1) | exact HB.out)⟩
  · replace c4 := Bool.eq_false_iff.mpr c4
    subst c4
    have H1 : (some ((⟨#[]⟩ : ByteArray), 2)) = some (r1, r2) := by first | (rw [if_neg (show ¬ (false = true) by decide)] at H; exact H) | rfl
    clear H
    have H := H1
    clear H1
    simp only [Option.some.injEq, Prod.mk.injEq] at H
    obtain ⟨rfl, rfl⟩ := H
    go_enter Try.func36, Try.ntmps36
    go_wp2_with (first | ((with_reducible refine gate_callee (f := 70) rfl ?_); refine goesL_ (some 9) rfl rfl Try.func70 (by kernel_rfl) rfl #[.int .i64 a1] rfl (by (try simp only [List.map_toArray, List.map_cons, List.map_nil]); first | done | rfl | (simp only [List.length_drop, List.length_take]; rfl)) ?_; (with_reducible refine (backhaulref05_wide.calls a1 false _ A3.out).mono ?_); rintro e w' ⟨rfl, ⟨nd, rfl⟩⟩; refine ⟨_, rfl, ?_⟩))
    go_ret2
    exact ⟨by first | rfl | (simp [errW_none, errW_some] <;> rfl) | (simp [*, errW_none, errW_some] <;> rfl), by repeat (first | (with_reducible first | exact HB.out | apply below_alloc | apply pw_below_drewN | apply below_drew1) | exact HB.out)⟩

end Go.Proofs.Ytabapiofkipkoaa.F

namespace Go.Proofs.Ytabapiofkipkoaa.F
open Go.RowKit Go.Proofs.YtabapiofkipkoaaX Go.Proofs.YtabapiofkipkoaaW.PrintWords Go.Proofs.YtabapiofkipkoaaW.PrintLast Go.Proofs.YtabapiofkipkoaaW.PrintMore
attribute [local go_sem] max2_int min2_int max_two min_two max_three min_three max_four min_four   -- for this text's walks alone
attribute [local go_sem high] str_geq str_leq str_gtr
set_option linter.unusedVariables false
set_option linter.unusedSimpArgs false

/-! ### backhaulref05_Get: function 38 -/
mutual
def backhaulref05_Get.j0 : Nat → ByteArray → Int → Int → Bool → Option (Int × Int × Int)
  | 0, _, _, _, _ => none
  | k + 1, x0, x1, x2, x23 => if x23 = true then (some (0, 0, 2)) else (if (wrap64 ((x0.size : Int) - x1)) < x2 then (some (0, 0, 4)) else (if x2 = 8 then (if 0 ≤ x1 then (if x1 < (x0.size : Int) then (backhaulref05_Get.j1 k x0 x1 x2 (decide ((bt x0 x1) > 127))) else (none)) else (none)) else (backhaulref05_Get.j1 k x0 x1 x2 false)))
def backhaulref05_Get.j1 : Nat → ByteArray → Int → Int → Bool → Option (Int × Int × Int)
  | 0, _, _, _, _ => none
  | k + 1, x0, x1, x2, x37 => if x37 = true then (some (0, 0, 8)) else (backhaulref05_Get.l0 k x0 x1 x2 0 x1)
def backhaulref05_Get.l0 : Nat → ByteArray → Int → Int → Int → Int → Option (Int × Int × Int)
  | 0, _, _, _, _, _ => none
  | k + 1, x0, x1, x2, x9, x10 => if x10 < (wrap64 (x1 + x2)) then (if 0 ≤ x10 then (if x10 < (x0.size : Int) then (backhaulref05_Get.l0 k x0 x1 x2 (wrap64 ((wrap64 (256 * x9)) + (wrap64 (bt x0 x10)))) (wrap64 (x10 + 1))) else (none)) else (none)) else (some (x9, wrap64 (x1 + x2), 0))
end
def backhaulref05_Get.f (k : Nat) (a0 : ByteArray) (a1 : Int) (a2 : Int) : Option (Int × Int × Int) := (backhaulref05_wide.f a2).bind fun t440 => (if t440 = true then (if a1 < 0 then (backhaulref05_Get.j0 k a0 a1 a2 true) else (backhaulref05_Get.j0 k a0 a1 a2 (decide (a1 > (a0.size : Int))))) else (backhaulref05_Get.j0 k a0 a1 a2 true))
theorem backhaulref05_Get.mono_l : ∀ k, (∀ y0 y1 y2 y3, LeO (backhaulref05_Get.j0 k y0 y1 y2 y3) (backhaulref05_Get.j0 (k + 1) y0 y1 y2 y3)) ∧ (∀ y0 y1 y2 y3, LeO (backhaulref05_Get.j1 k y0 y1 y2 y3) (backhaulref05_Get.j1 (k + 1) y0 y1 y2 y3)) ∧ (∀ y0 y1 y2 y3 y4, LeO (backhaulref05_Get.l0 k y0 y1 y2 y3 y4) (backhaulref05_Get.l0 (k + 1) y0 y1 y2 y3 y4))
  | 0 => ⟨fun _ _ _ _ r h => by simp [backhaulref05_Get.j0] at h, fun _ _ _ _ r h => by simp [backhaulref05_Get.j1] at h, fun _ _ _ _ _ r h => by simp [backhaulref05_Get.l0] at h⟩
  | k + 1 => by
    obtain ⟨ih0, ih1, ih2⟩ := backhaulref05_Get.mono_l k
    refine ⟨?_, ?_, ?_⟩
    · intro y0 y1 y2 y3
      unfold backhaulref05_Get.j0
      repeat' first
      | (with_reducible exact ih0 _ _ _ _)
      | (with_reducible exact ih1 _ _ _ _)
      | (with_reducible exact ih2 _ _ _ _ _)
      | (with_reducible exact LeO.refl _)
      | (with_reducible exact LeO.none _)
      | (with_reducible refine LeO.ite ?_ ?_)
      | (with_reducible refine LeO.bind ?_ (fun _ => ?_))
      | exact ih0 _ _ _ _
      | exact ih1 _ _ _ _
      | exact ih2 _ _ _ _ _
      | exact LeO.none _
      | refine LeO.ite ?_ ?_
      | refine LeO.bind ?_ (fun _ => ?_)
    · intro y0 y1 y2 y3
      unfold backhaulref05_Get.j1
      repeat' first
      | (with_reducible exact ih0 _ _ _ _)
      | (with_reducible exact ih1 _ _ _ _)
      | (with_reducible exact ih2 _ _ _ _ _)
      | (with_reducible exact LeO.refl _)
      | (with_reducible exact LeO.none _)
      | (with_reducible refine LeO.ite ?_ ?_)
      | (with_reducible refine LeO.bind ?_ (fun _ => ?_))
      | exact ih0 _ _ _ _
      | exact ih1 _ _ _ _
      | exact ih2 _ _ _ _ _
      | exact LeO.none _
      | refine LeO.ite ?_ ?_
      | refine LeO.bind ?_ (fun _ => ?_)
    · intro y0 y1 y2 y3 y4
      unfold backhaulref05_Get.l0
      repeat' first
      | (with_reducible exact ih0 _ _ _ _)
      | (with_reducible exact ih1 _ _ _ _)
      | (with_reducible exact ih2 _ _ _ _ _)
      | (with_reducible exact LeO.refl _)
      | (with_reducible exact LeO.none _)
      | (with_reducible refine LeO.ite ?_ ?_)
      | (with_reducible refine LeO.bind ?_ (fun _ => ?_))
      | exact ih0 _ _ _ _
      | exact ih1 _ _ _ _
      | exact ih2 _ _ _ _ _
      | exact LeO.none _
      | refine LeO.ite ?_ ?_
      | refine LeO.bind ?_ (fun _ => ?_)
theorem backhaulref05_Get.mono : ∀ a0 a1 a2 k, LeO (backhaulref05_Get.f k a0 a1 a2) (backhaulref05_Get.f (k + 1) a0 a1 a2) := by
  intro a0 a1 a2 k
  obtain ⟨ih0, ih1, ih2⟩ := backhaulref05_Get.mono_l k
  unfold backhaulref05_Get.f
  repeat' first
      | (with_reducible exact ih0 _ _ _ _)
      | (with_reducible exact ih1 _ _ _ _)
      | (with_reducible exact ih2 _ _ _ _ _)
      | (with_reducible exact LeO.refl _)
      | (with_reducible exact LeO.none _)
      | (with_reducible refine LeO.ite ?_ ?_)
      | (with_reducible refine LeO.bind ?_ (fun _ => ?_))
      | exact ih0 _ _ _ _
      | exact ih1 _ _ _ _
      | exact ih2 _ _ _ _ _
      | exact LeO.none _
      | refine LeO.ite ?_ ?_
      | refine LeO.bind ?_ (fun _ => ?_)
set_option maxHeartbeats 8000000 in
set_option maxRecDepth 100000 in
theorem backhaulref05_Get.calls (k : Nat) (a0 : ByteArray) (a1 : Int) (a2 : Int) (r1 : Int) (r2 : Int) (r3 : Int) (w : World) (h : backhaulref05_Get.f k a0 a1 a2 = some (r1, r2, r3)) :
    Calls Try.prog 38 #[.string a0, .int .i64 a1, .int .i64 a2] w fun e w' => e = .returned (.tuple #[.int .i64 r1, .int .i64 r2, .int .i64 r3]) ∧ Drawn0 w w' := by
  have H : ((backhaulref05_wide.f a2).bind fun t440 => (if t440 = true then (if a1 < 0 then (backhaulref05_Get.j0 k a0 a1 a2 true) else (backhaulref05_Get.j0 k a0 a1 a2 (decide (a1 > (a0.size : Int))))) else (backhaulref05_Get.j0 k a0 a1 a2 true))) = some (r1, r2, r3) := h
  clear h
  have HC4 := Aside0.mk H
  clear H
  go_enter Try.func38, Try.ntmps38
  go_upto_region 1 with (fail)
  go_cut [23] (fun v23 wc => ∃ (kq : Nat) (x23_3 : Bool), v23 = .bool x23_3 ∧ Aside0 (backhaulref05_Get.j0 kq a0 a1 a2 x23_3 = some (r1, r2, r3)) ∧ Aside0 (kq ≤ k) ∧ Drawn0 w wc)
  case first =>
    have H := HC4.out
    clear HC4
    replace H := Option.bind_eq_some_iff.mp H
    obtain ⟨t440, A50, H⟩ := H
    replace H : (if t440 = true then (if a1 < 0 then (backhaulref05_Get.j0 k a0 a1 a2 true) else (backhaulref05_Get.j0 k a0 a1 a2 (decide (a1 > (a0.size : Int))))) else (backhaulref05_Get.j0 k a0 a1 a2 true)) = some (r1, r2, r3) := H
    have A5 := Aside0.mk A50
    clear A50
    by_cases c6 : t440 = true
    · subst c6
      have H1 : (if a1 < 0 then (backhaulref05_Get.j0 k a0 a1 a2 true) else (backhaulref05_Get.j0 k a0 a1 a2 (decide (a1 > (a0.size : Int))))) = some (r1, r2, r3) := by first | (rw [if_pos rfl] at H; exact H) | rfl
      clear H
      have H := H1
      clear H1
      by_cases c7 : a1 < 0
      · rw [if_pos c7] at H
        have c7b0 : decide (a1 < 0) = true := decide_eq_true c7
        clear c7
        (first | rw [c7b0] | (simp only [i64_w, i32_w]; rw [c7b0]) | skip)
        have H' := Aside0.mk H
        clear H
        go_wp2_with (first | ((with_reducible refine gate_callee (f := 70) rfl ?_); refine goesL_ (some 12) rfl rfl Try.func70 (by kernel_rfl) rfl #[.int .i64 a2] rfl (by (try simp only [List.map_toArray, List.map_cons, List.map_nil]); first | done | rfl | (simp only [List.length_drop, List.length_take]; rfl)) ?_; (with_reducible refine (backhaulref05_wide.calls a2 true _ A5.out).mono ?_); rintro e w' ⟨rfl, ⟨nd, rfl⟩⟩; refine ⟨_, rfl, ?_⟩))
        go_meet
        case rel => exact ⟨_, (true), (by first | rfl | (simp; done) | (simp [*]; done)), H', ⟨by first | omega | exact Nat.le_refl _⟩, by repeat (first | exact Drawn0.refl _ | apply Drawn0.step)⟩
      · rw [if_neg c7] at H
        have c7b0 : decide (a1 < 0) = false := decide_eq_false c7
        clear c7
        (first | rw [c7b0] | (simp only [i64_w, i32_w]; rw [c7b0]) | skip)
        have H' := Aside0.mk H
        clear H
        go_wp2_with (first | ((with_reducible refine gate_callee (f := 70) rfl ?_); refine goesL_ (some 12) rfl rfl Try.func70 (by kernel_rfl) rfl #[.int .i64 a2] rfl (by (try simp only [List.map_toArray, List.map_cons, List.map_nil]); first | done | rfl | (simp only [List.length_drop, List.length_take]; rfl)) ?_; (with_reducible refine (backhaulref05_wide.calls a2 true _ A5.out).mono ?_); rintro e w' ⟨rfl, ⟨nd, rfl⟩⟩; refine ⟨_, rfl, ?_⟩))
        go_meet
        case rel => exact ⟨_, (decide (a1 > (a0.size : Int))), (by first | rfl | (simp; done) | (simp [*]; done)), H', ⟨by first | omega | exact Nat.le_refl _⟩, by repeat (first | exact Drawn0.refl _ | apply Drawn0.step)⟩
    · replace c6 := Bool.eq_false_iff.mpr c6
      subst c6
      have H1 : (backhaulref05_Get.j0 k a0 a1 a2 true) = some (r1, r2, r3) := by first | (rw [if_neg (show ¬ (false = true) by decide)] at H; exact H) | rfl
      clear H
      have H := H1
      clear H1
      have H' := Aside0.mk H
      clear H
      go_wp2_with (first | ((with_reducible refine gate_callee (f := 70) rfl ?_); refine goesL_ (some 12) rfl rfl Try.func70 (by kernel_rfl) rfl #[.int .i64 a2] rfl (by (try simp only [List.map_toArray, List.map_cons, List.map_nil]); first | done | rfl | (simp only [List.length_drop, List.length_take]; rfl)) ?_; (with_reducible refine (backhaulref05_wide.calls a2 false _ A5.out).mono ?_); rintro e w' ⟨rfl, ⟨nd, rfl⟩⟩; refine ⟨_, rfl, ?_⟩))
      go_meet
      case rel => exact ⟨_, (true), (by first | rfl | (simp; done) | (simp [*]; done)), H', ⟨by first | omega | exact Nat.le_refl _⟩, by repeat (first | exact Drawn0.refl _ | apply Drawn0.step)⟩
  case rest =>
    clear HC4
    try clear p2
    try clear c3
    try clear c6
    try clear c7
    try clear c7b0
    obtain ⟨kq, x23_3, rfl, HA, HJ3, ⟨mc3, rfl⟩⟩ := hcut
    cases kq with
    | zero => exact absurd HA.out (by simp [backhaulref05_Get.j0])
    | succ kj3 =>
      have H := HA.out
      clear HA
      simp only [backhaulref05_Get.j0] at H
      by_cases c8 : x23_3 = true
      · subst c8
        have H1 : (some (0, 0, 2)) = some (r1, r2, r3) := by first | (rw [if_pos rfl] at H; exact H) | rfl
        clear H
        have H := H1
        clear H1
        simp only [Option.some.injEq, Prod.mk.injEq] at H
        obtain ⟨rfl, rfl, rfl⟩ := H
        go_wp2
        go_ret3
        exact ⟨by first | rfl | (simp; done) | (simp [*]; done), by repeat (first | exact Drawn0.refl _ | apply Drawn0.step)⟩
      · replace c8 := Bool.eq_false_iff.mpr c8
        subst c8
        have H1 : (if (wrap64 ((a0.size : Int) - a1)) < a2 then (some (0, 0, 4)) else (if a2 = 8 then (if 0 ≤ a1 then (if a1 < (a0.size : Int) then (backhaulref05_Get.j1 kj3 a0 a1 a2 (decide ((bt a0 a1) > 127))) else (none)) else (none)) else (backhaulref05_Get.j1 kj3 a0 a1 a2 false))) = some (r1, r2, r3) := by first | (rw [if_neg (show ¬ (false = true) by decide)] at H; exact H) | rfl
        clear H
        have H := H1
        clear H1
        by_cases c9 : (wrap64 ((a0.size : Int) - a1)) < a2
        · rw [if_pos c9] at H
          have c9b0 : decide ((wrap64 ((a0.size : Int) - a1)) < a2) = true := decide_eq_true c9
          clear c9
          simp only [Option.some.injEq, Prod.mk.injEq] at H
          obtain ⟨rfl, rfl, rfl⟩ := H
          go_wp2
          go_ret3
          exact ⟨by first | rfl | (simp; done) | (simp [*]; done), by repeat (first | exact Drawn0.refl _ | apply Drawn0.step)⟩
        · rw [if_neg c9] at H
          have c9b0 : decide ((wrap64 ((a0.size : Int) - a1)) < a2) = false := decide_eq_false c9
          clear c9
          have HC10 := Aside0.mk H
          clear H
          go_upto_region 5 with (fail)
          go_cut [37] (fun v37 wc => ∃ (kq : Nat) (x37_9 : Bool), v37 = .bool x37_9 ∧ Aside0 (backhaulref05_Get.j1 kq a0 a1 a2 x37_9 = some (r1, r2, r3)) ∧ Aside0 (kq ≤ kj3) ∧ Drawn0 w wc)
          case first =>
            have H := HC10.out
            clear HC10
            by_cases c11 : a2 = 8
            · rw [if_pos c11] at H
              have c11b0 : (a2 == 8) = true := beq_iff_eq.mpr c11
              have c11b1 : (a2 != 8) = false := bne_eq_false_iff_eq.mpr c11
              clear c11
              (first | rw [c11b0] | (simp only [i64_w, i32_w]; rw [c11b0]) | skip)
              by_cases c12 : 0 ≤ a1
              · rw [if_pos c12] at H
                have c12b0 : decide (0 ≤ a1) = true := decide_eq_true c12
                clear c12
                by_cases c13 : a1 < (a0.size : Int)
                · rw [if_pos c13] at H
                  have c13b0 : decide (a1 < (a0.size : Int)) = true := decide_eq_true c13
                  clear c13
                  have H' := Aside0.mk H
                  clear H
                  have p14 : 0 ≤ (a1 : Int) := of_decide_eq_true (by first | (with_reducible assumption) | assumption)
                  have q14 : a1 < (a0.size : Int) := of_decide_eq_true (by first | (with_reducible assumption) | assumption)
                  have hx14 := bt_at a0 a1
                  replace p14 := eq_true p14
                  replace q14 := eq_true q14
                  go_wp2
                  go_meet
                  case rel => exact ⟨_, (decide ((bt a0 a1) > 127)), (by first | rfl | (simp; done) | (simp [*]; done)), H', ⟨by have := HJ3.out; first | omega | exact Nat.le_refl _⟩, by repeat (first | exact Drawn0.refl _ | apply Drawn0.step)⟩
                · rw [if_neg c13] at H
                  exact absurd H (by simp)
              · rw [if_neg c12] at H
                exact absurd H (by simp)
            · rw [if_neg c11] at H
              have c11b0 : (a2 == 8) = false := beq_eq_false_iff_ne.mpr c11
              have c11b1 : (a2 != 8) = true := bne_iff_ne.mpr c11
              (first | rw [c11b0] | (simp only [i64_w, i32_w]; rw [c11b0]) | skip)
              have H' := Aside0.mk H
              clear H
              go_wp2
              go_meet
              case rel => exact ⟨_, (false), (by first | rfl | (simp; done) | (simp [*]; done)), H', ⟨by have := HJ3.out; first | omega | exact Nat.le_refl _⟩, by repeat (first | exact Drawn0.refl _ | apply Drawn0.step)⟩
          case rest =>
            clear HC10
            try clear c1
            try clear p1
            try clear q1
            try clear hx1
            try clear p2
            try clear c3
            try clear c6
            try clear p6
            try clear c7
            try clear c7b0
            try clear c8
            try clear c9
            try clear c9b0
            try clear c11
            try clear c11b0
            try clear c11b1
            try clear c12
            try clear c12b0
            try clear c13
            try clear c13b0
            try clear p14
            try clear q14
            try clear hx14
            try clear p14
            try clear p2
            try clear q14
            obtain ⟨kq, x37_9, rfl, HA, HJ9, ⟨mc9, rfl⟩⟩ := hcut
            cases kq with
            | zero => exact absurd HA.out (by simp [backhaulref05_Get.j1])
            | succ kj9 =>
              have H := HA.out
              clear HA
              simp only [backhaulref05_Get.j1] at H
              by_cases c15 : x37_9 = true
              · subst c15
                have H1 : (some (0, 0, 8)) = some (r1, r2, r3) := by first | (rw [if_pos rfl] at H; exact H) | rfl
                clear H
                have H := H1
                clear H1
                simp only [Option.some.injEq, Prod.mk.injEq] at H
                obtain ⟨rfl, rfl, rfl⟩ := H
                go_wp2
                go_ret3
                exact ⟨by first | rfl | (simp; done) | (simp [*]; done), by repeat (first | exact Drawn0.refl _ | apply Drawn0.step)⟩
              · replace c15 := Bool.eq_false_iff.mpr c15
                subst c15
                have H1 : (backhaulref05_Get.l0 kj9 a0 a1 a2 0 a1) = some (r1, r2, r3) := by first | (rw [if_neg (show ¬ (false = true) by decide)] at H; exact H) | rfl
                clear H
                have H := H1
                clear H1
                have H' := Aside0.mk H
                clear H
                go_wp2
                go_loopg [9, 10] kj9 (fun kq v9 v10 w' => ∃ (x9_3 : Int) (x10_3 : Int), v9 = .int .i64 x9_3 ∧ v10 = .int .i64 x10_3 ∧ Aside0 (backhaulref05_Get.l0 kq a0 a1 a2 x9_3 x10_3 = some (r1, r2, r3)) ∧ Aside0 (kq ≤ kj9) ∧ Drawn0 w w')
                case atStart => exact ⟨(0), (a1), (by first | rfl | (simp; done) | (simp [*]; done)), (by first | rfl | (simp; done) | (simp [*]; done)), H', ⟨Nat.le_refl _⟩, by repeat (first | exact Drawn0.refl _ | apply Drawn0.step)⟩
                case round =>
                  clear H'
                  try clear c1
                  try clear p1
                  try clear q1
                  try clear hx1
                  try clear p2
                  try clear c3
                  try clear c6
                  try clear p6
                  try clear c7
                  try clear c7b0
                  try clear c8
                  try clear c9
                  try clear c9b0
                  try clear c11
                  try clear c11b0
                  try clear c11b1
                  try clear c12
                  try clear c12b0
                  try clear c13
                  try clear c13b0
                  try clear p14
                  try clear q14
                  try clear hx14
                  try clear c15
                  try clear p1
                  try clear p14
                  try clear p2
                  try clear p6
                  try clear q1
                  try clear q14
                  obtain ⟨x9_3, x10_3, rfl, rfl, HA, HK3, ⟨m3, rfl⟩⟩ := hrel
                  cases gk with
                  | zero => exact absurd HA.out (by simp [backhaulref05_Get.l0])
                  | succ k3 =>
                    have H := HA.out
                    clear HA
                    simp only [backhaulref05_Get.l0] at H
                    by_cases c16 : x10_3 < (wrap64 (a1 + a2))
                    · rw [if_pos c16] at H
                      have c16b0 : decide (x10_3 < (wrap64 (a1 + a2))) = true := decide_eq_true c16
                      clear c16
                      by_cases c17 : 0 ≤ x10_3
                      · rw [if_pos c17] at H
                        have c17b0 : decide (0 ≤ x10_3) = true := decide_eq_true c17
                        clear c17
                        by_cases c18 : x10_3 < (a0.size : Int)
                        · rw [if_pos c18] at H
                          have c18b0 : decide (x10_3 < (a0.size : Int)) = true := decide_eq_true c18
                          clear c18
                          have H' := Aside0.mk H
                          clear H
                          have p19 : 0 ≤ (x10_3 : Int) := of_decide_eq_true (by first | (with_reducible assumption) | assumption)
                          have q19 : x10_3 < (a0.size : Int) := of_decide_eq_true (by first | (with_reducible assumption) | assumption)
                          have hx19 := bt_at a0 x10_3
                          replace p19 := eq_true p19
                          replace q19 := eq_true q19
                          go_wp2
                          go_roundg k3
                          case measure => have := HJ3.out; have := HJ9.out; have := HK3.out; omega
                          case rel => exact ⟨(wrap64 ((wrap64 (256 * x9_3)) + (wrap64 (bt a0 x10_3)))), (wrap64 (x10_3 + 1)), (by first | rfl | (simp; done) | (simp [*]; done)), (by first | rfl | (simp; done) | (simp [*]; done)), H', ⟨by have := HJ3.out; have := HJ9.out; have := HK3.out; omega⟩, by repeat (first | exact Drawn0.refl _ | apply Drawn0.step)⟩
                        · rw [if_neg c18] at H
                          exact absurd H (by simp)
                      · rw [if_neg c17] at H
                        exact absurd H (by simp)
                    · rw [if_neg c16] at H
                      have c16b0 : decide (x10_3 < (wrap64 (a1 + a2))) = false := decide_eq_false c16
                      clear c16
                      simp only [Option.some.injEq, Prod.mk.injEq] at H
                      obtain ⟨rfl, rfl, rfl⟩ := H
                      go_wp2
                      go_ret3
                      exact ⟨by first | rfl | (simp; done) | (simp [*]; done), by repeat (first | exact Drawn0.refl _ | apply Drawn0.step)⟩

end Go.Proofs.Ytabapiofkipkoaa.F

namespace Go.Proofs.Ytabapiofkipkoaa.F
open Go.RowKit Go.Proofs.YtabapiofkipkoaaX Go.Proofs.YtabapiofkipkoaaW.PrintWords Go.Proofs.YtabapiofkipkoaaW.PrintLast Go.Proofs.YtabapiofkipkoaaW.PrintMore
attribute [local go_sem] max2_int min2_int max_two min_two max_three min_three max_four min_four   -- for this text's walks alone
attribute [local go_sem high] str_geq str_leq str_gtr
set_option linter.unusedVariables false
set_option linter.unusedSimpArgs false

/-! ### backhaulref05_Lay: function 40 -/
def backhaulref05_Lay.f (a0 : ByteArray) : Option (ByteArray × Int) := if (a0.size : Int) > 65535 then (some ((⟨#[]⟩ : ByteArray), 3)) else ((some (([((a0.size : Int) / 256) % 256, (a0.size : Int) % 256] : List Int) : List Int)).bind fun y455 => (if (strOfNums y455).size + a0.size ≤ 9223372036854775807 then (some ((strOfNums y455) ++ a0, 0)) else (none)))
set_option maxHeartbeats 8000000 in
set_option maxRecDepth 100000 in
theorem backhaulref05_Lay.calls (a0 : ByteArray) (r1 : ByteArray) (r2 : Int) (w : World) (h : backhaulref05_Lay.f a0 = some (r1, r2)) :
    Calls Try.prog 40 #[.string a0] w fun e w' => e = .returned (.tuple #[.string r1, .int .i64 r2]) ∧ Below w.heap.size w w' := by
  have HB := Aside0.mk (Below.refl w.heap.size w)
  have H : (if (a0.size : Int) > 65535 then (some ((⟨#[]⟩ : ByteArray), 3)) else ((some (([((a0.size : Int) / 256) % 256, (a0.size : Int) % 256] : List Int) : List Int)).bind fun y455 => (if (strOfNums y455).size + a0.size ≤ 9223372036854775807 then (some ((strOfNums y455) ++ a0, 0)) else (none)))) = some (r1, r2) := h
  clear h
  by_cases c2 : (a0.size : Int) > 65535
  · rw [if_pos c2] at H
    have c2b0 : decide (65535 < (a0.size : Int)) = true := decide_eq_true c2
    have c2b1 : decide (65535 < a0.size) = true := decide_eq_true (by omega)
    clear c2
    simp only [Option.some.injEq, Prod.mk.injEq] at H
    obtain ⟨rfl, rfl⟩ := H
    go_enter Try.func40, Try.ntmps40
    go_wp2
    go_ret2
    exact ⟨by first | rfl | (simp [errW_none, errW_some] <;> rfl) | (simp [*, errW_none, errW_some] <;> rfl), by repeat (first | (with_reducible first | exact HB.out | apply below_alloc | apply pw_below_drewN | apply below_drew1) | exact HB.out)⟩
  · rw [if_neg c2] at H
    have c2b0 : decide (65535 < (a0.size : Int)) = false := decide_eq_false c2
    have c2b1 : decide (65535 < a0.size) = false := decide_eq_false (by omega)
    clear c2
    obtain ⟨y455, hy455⟩ : ∃ y_ : List Int, y_ = (([((a0.size : Int) / 256) % 256, (a0.size : Int) % 256] : List Int)) := ⟨_, rfl⟩
    replace H : (if (strOfNums y455).size + a0.size ≤ 9223372036854775807 then (some ((strOfNums y455) ++ a0, 0)) else (none)) = some (r1, r2) := by first | (rw [hy455]; with_reducible exact H) | (have H2_ := (Option.bind_some _ _).symm.trans H; rw [hy455]; with_reducible exact H2_) | (have H2_ := (Option.bind_some _ _).symm.trans H; with_reducible exact H2_) | with_reducible exact H | (rw [hy455]; exact H) | exact H
    have Ny455 := Aside0.mk hy455
    clear hy455
    by_cases c3 : (strOfNums y455).size + a0.size ≤ 9223372036854775807
    · rw [if_pos c3] at H
      have c3b0 := eq_true c3
      have c3b1 : decide ((strOfNums y455).size + a0.size ≤ 9223372036854775807) = true := decide_eq_true c3
      try have c3b2 : (9223372036854775807 < (strOfNums y455).size + a0.size) = False := eq_false (Nat.not_lt.2 c3)
      simp only [Option.some.injEq, Prod.mk.injEq] at H
      obtain ⟨rfl, rfl⟩ := H
      go_enter Try.func40, Try.ntmps40
      go_wp2_with (first | ((with_reducible refine gate_dst (N := 15) rfl ?_); refine Kd.R_lit (Kd.int .u8) _ 5 ?hg (N := 15) ?hd (xs := ([((a0.size : Int) / 256) % 256, (a0.size : Int) % 256] : List Int)) (inner := [.int .u8 (((a0.size : Int) / 256) % 256), .int .u8 ((a0.size : Int) % 256)]) (ok := fun _ => True) (okp := fun _ => True) ?hr ?hp (fun _ hk => hk) trivial (Below.refl _ _) (Nat.le_refl _) (by simp) ?_; (case hd => rfl); (case hg => rfl); (case hr => first | (go_simp; done) | (go_simp; rfl)); (case hp => exact (Reps.one (show Kd.M (Kd.int .u8) _ _ _ (((a0.size : Int) / 256) % 256) [.int .u8 (((a0.size : Int) / 256) % 256)] from rfl) (Reps.one (show Kd.M (Kd.int .u8) _ _ _ ((a0.size : Int) % 256) [.int .u8 ((a0.size : Int) % 256)] from rfl) (Reps.none _ _)))); intro v456 w4 ho5 hb hg_ hnew_; clear hg_ hnew_; (first | rw [← Ny455.out] at ho5 | (simp only [Int.reduceToNat] at ho5; rw [← Ny455.out] at ho5)); have n0_ := Aside0.mk (Kd.R_lower ho5 (below_size (by repeat (first | (with_reducible first | exact HB.out | apply below_alloc | apply pw_below_drewN | apply below_drew1) | exact HB.out)))); have n1_ := Aside0.mk (below_step (by repeat (first | (with_reducible first | exact HB.out | apply below_alloc | apply pw_below_drewN | apply below_drew1) | exact HB.out)) hb); clear HB; have HO457 := n0_; have HB := n1_; clear n0_ n1_; clear hb ho5; have hcv6 := own_string (P := Try.prog) Try.underlying92 Try.underlying5 Try.underlying9 (Kd.own_of_R HO457.out)))
      go_ret2
      exact ⟨by first | rfl | (simp [errW_none, errW_some] <;> rfl) | (simp [*, errW_none, errW_some] <;> rfl), by repeat (first | (with_reducible first | exact HB.out | apply below_alloc | apply pw_below_drewN | apply below_drew1) | exact HB.out)⟩
    · rw [if_neg c3] at H
      exact absurd H (by simp)

end Go.Proofs.Ytabapiofkipkoaa.F

namespace Go.Proofs.Ytabapiofkipkoaa.F
open Go.RowKit Go.Proofs.YtabapiofkipkoaaX Go.Proofs.YtabapiofkipkoaaW.PrintWords Go.Proofs.YtabapiofkipkoaaW.PrintLast Go.Proofs.YtabapiofkipkoaaW.PrintMore
attribute [local go_sem] max2_int min2_int max_two min_two max_three min_three max_four min_four   -- for this text's walks alone
attribute [local go_sem high] str_geq str_leq str_gtr
set_option linter.unusedVariables false
set_option linter.unusedSimpArgs false

/-! ### backhaulref05_Take: function 42 -/
def backhaulref05_Take.j0 : Nat → ByteArray → Int → Int → Bool → Option (ByteArray × Int × Int)
  | 0, _, _, _, _ => none
  | k + 1, x0, x1, x2, x23 => if x23 = true then (some ((⟨#[]⟩ : ByteArray), 0, 2)) else ((backhaulref05_Get.f k x0 x1 2).bind fun bt458 => (if bt458.2.2 = 0 then (if bt458.1 > x2 then (some ((⟨#[]⟩ : ByteArray), 0, 3)) else (if (wrap64 (bt458.2.1 + bt458.1)) > (x0.size : Int) then (some ((⟨#[]⟩ : ByteArray), 0, 4)) else (if 0 ≤ bt458.2.1 then (if bt458.2.1 ≤ (wrap64 (bt458.2.1 + bt458.1)) then (if (wrap64 (bt458.2.1 + bt458.1)) ≤ (x0.size : Int) then (some (x0.extract (bt458.2.1 : Int).toNat ((wrap64 (bt458.2.1 + bt458.1)) : Int).toNat, wrap64 (bt458.2.1 + bt458.1), 0)) else (none)) else (none)) else (none)))) else (some ((⟨#[]⟩ : ByteArray), 0, bt458.2.2))))
def backhaulref05_Take.f (k : Nat) (a0 : ByteArray) (a1 : Int) (a2 : Int) : Option (ByteArray × Int × Int) := if a2 < 0 then (backhaulref05_Take.j0 k a0 a1 a2 true) else (if a1 < 0 then (backhaulref05_Take.j0 k a0 a1 a2 true) else (backhaulref05_Take.j0 k a0 a1 a2 (decide (a1 > (a0.size : Int)))))
theorem backhaulref05_Take.mono_l : ∀ k, (∀ y0 y1 y2 y3, LeO (backhaulref05_Take.j0 k y0 y1 y2 y3) (backhaulref05_Take.j0 (k + 1) y0 y1 y2 y3))
  | 0 => fun _ _ _ _ r h => by simp [backhaulref05_Take.j0] at h
  | k + 1 => by
    have ih0 := backhaulref05_Take.mono_l k
    · intro y0 y1 y2 y3
      unfold backhaulref05_Take.j0
      repeat' first
      | (with_reducible exact ih0 _ _ _ _)
      | (with_reducible exact backhaulref05_Get.mono _ _ _ _)
      | (with_reducible exact LeO.refl _)
      | (with_reducible exact LeO.none _)
      | (with_reducible refine LeO.ite ?_ ?_)
      | (with_reducible refine LeO.bind ?_ (fun _ => ?_))
      | exact ih0 _ _ _ _
      | exact backhaulref05_Get.mono _ _ _ _
      | exact LeO.none _
      | refine LeO.ite ?_ ?_
      | refine LeO.bind ?_ (fun _ => ?_)
theorem backhaulref05_Take.mono : ∀ a0 a1 a2 k, LeO (backhaulref05_Take.f k a0 a1 a2) (backhaulref05_Take.f (k + 1) a0 a1 a2) := by
  intro a0 a1 a2 k
  have ih0 := backhaulref05_Take.mono_l k
  unfold backhaulref05_Take.f
  repeat' first
      | (with_reducible exact ih0 _ _ _ _)
      | (with_reducible exact backhaulref05_Get.mono _ _ _ _)
      | (with_reducible exact LeO.refl _)
      | (with_reducible exact LeO.none _)
      | (with_reducible refine LeO.ite ?_ ?_)
      | (with_reducible refine LeO.bind ?_ (fun _ => ?_))
      | exact ih0 _ _ _ _
      | exact backhaulref05_Get.mono _ _ _ _
      | exact LeO.none _
      | refine LeO.ite ?_ ?_
      | refine LeO.bind ?_ (fun _ => ?_)
set_option maxHeartbeats 8000000 in
set_option maxRecDepth 100000 in
theorem backhaulref05_Take.calls (k : Nat) (a0 : ByteArray) (a1 : Int) (a2 : Int) (r1 : ByteArray) (r2 : Int) (r3 : Int) (w : World) (h : backhaulref05_Take.f k a0 a1 a2 = some (r1, r2, r3)) :
    Calls Try.prog 42 #[.string a0, .int .i64 a1, .int .i64 a2] w fun e w' => e = .returned (.tuple #[.string r1, .int .i64 r2, .int .i64 r3]) ∧ Drawn0 w w' := by
  have H : (if a2 < 0 then (backhaulref05_Take.j0 k a0 a1 a2 true) else (if a1 < 0 then (backhaulref05_Take.j0 k a0 a1 a2 true) else (backhaulref05_Take.j0 k a0 a1 a2 (decide (a1 > (a0.size : Int)))))) = some (r1, r2, r3) := h
  clear h
  have HC4 := Aside0.mk H
  clear H
  go_enter Try.func42, Try.ntmps42
  go_upto_region 1 with (fail)
  go_cut [23] (fun v23 wc => ∃ (kq : Nat) (x23_3 : Bool), v23 = .bool x23_3 ∧ Aside0 (backhaulref05_Take.j0 kq a0 a1 a2 x23_3 = some (r1, r2, r3)) ∧ Aside0 (kq ≤ k) ∧ Drawn0 w wc)
  case first =>
    have H := HC4.out
    clear HC4
    by_cases c5 : a2 < 0
    · rw [if_pos c5] at H
      have c5b0 : decide (a2 < 0) = true := decide_eq_true c5
      clear c5
      (first | rw [c5b0] | (simp only [i64_w, i32_w]; rw [c5b0]) | skip)
      have H' := Aside0.mk H
      clear H
      go_wp2
      go_meet
      case rel => exact ⟨_, (true), (by first | rfl | (simp; done) | (simp [*]; done)), H', ⟨by first | omega | exact Nat.le_refl _⟩, by repeat (first | exact Drawn0.refl _ | apply Drawn0.step)⟩
    · rw [if_neg c5] at H
      have c5b0 : decide (a2 < 0) = false := decide_eq_false c5
      clear c5
      (first | rw [c5b0] | (simp only [i64_w, i32_w]; rw [c5b0]) | skip)
      by_cases c6 : a1 < 0
      · rw [if_pos c6] at H
        have c6b0 : decide (a1 < 0) = true := decide_eq_true c6
        clear c6
        have H' := Aside0.mk H
        clear H
        go_wp2
        go_meet
        case rel => exact ⟨_, (true), (by first | rfl | (simp; done) | (simp [*]; done)), H', ⟨by first | omega | exact Nat.le_refl _⟩, by repeat (first | exact Drawn0.refl _ | apply Drawn0.step)⟩
      · rw [if_neg c6] at H
        have c6b0 : decide (a1 < 0) = false := decide_eq_false c6
        clear c6
        have H' := Aside0.mk H
        clear H
        go_wp2
        go_meet
        case rel => exact ⟨_, (decide (a1 > (a0.size : Int))), (by first | rfl | (simp; done) | (simp [*]; done)), H', ⟨by first | omega | exact Nat.le_refl _⟩, by repeat (first | exact Drawn0.refl _ | apply Drawn0.step)⟩
  case rest =>
    clear HC4
    try clear p2
    try clear c4
    try clear c5
    try clear c5b0
    try clear c6
    try clear c6b0
    obtain ⟨kq, x23_3, rfl, HA, HJ3, ⟨mc3, rfl⟩⟩ := hcut
    cases kq with
    | zero => exact absurd HA.out (by simp [backhaulref05_Take.j0])
    | succ kj3 =>
      have H := HA.out
      clear HA
      simp only [backhaulref05_Take.j0] at H
      by_cases c7 : x23_3 = true
      · subst c7
        have H1 : (some ((⟨#[]⟩ : ByteArray), 0, 2)) = some (r1, r2, r3) := by first | (rw [if_pos rfl] at H; exact H) | rfl
        clear H
        have H := H1
        clear H1
        simp only [Option.some.injEq, Prod.mk.injEq] at H
        obtain ⟨rfl, rfl, rfl⟩ := H
        go_wp2
        go_ret3
        exact ⟨by first | rfl | (simp; done) | (simp [*]; done), by repeat (first | exact Drawn0.refl _ | apply Drawn0.step)⟩
      · replace c7 := Bool.eq_false_iff.mpr c7
        subst c7
        have H1 : ((backhaulref05_Get.f kj3 a0 a1 2).bind fun bt458 => (if bt458.2.2 = 0 then (if bt458.1 > a2 then (some ((⟨#[]⟩ : ByteArray), 0, 3)) else (if (wrap64 (bt458.2.1 + bt458.1)) > (a0.size : Int) then (some ((⟨#[]⟩ : ByteArray), 0, 4)) else (if 0 ≤ bt458.2.1 then (if bt458.2.1 ≤ (wrap64 (bt458.2.1 + bt458.1)) then (if (wrap64 (bt458.2.1 + bt458.1)) ≤ (a0.size : Int) then (some (a0.extract (bt458.2.1 : Int).toNat ((wrap64 (bt458.2.1 + bt458.1)) : Int).toNat, wrap64 (bt458.2.1 + bt458.1), 0)) else (none)) else (none)) else (none)))) else (some ((⟨#[]⟩ : ByteArray), 0, bt458.2.2)))) = some (r1, r2, r3) := by first | (rw [if_neg (show ¬ (false = true) by decide)] at H; exact H) | rfl
        clear H
        have H := H1
        clear H1
        replace H := Option.bind_eq_some_iff.mp H
        obtain ⟨⟨t458, t459, t460⟩, A80, H⟩ := H
        replace H : (if t460 = 0 then (if t458 > a2 then (some ((⟨#[]⟩ : ByteArray), 0, 3)) else (if (wrap64 (t459 + t458)) > (a0.size : Int) then (some ((⟨#[]⟩ : ByteArray), 0, 4)) else (if 0 ≤ t459 then (if t459 ≤ (wrap64 (t459 + t458)) then (if (wrap64 (t459 + t458)) ≤ (a0.size : Int) then (some (a0.extract (t459 : Int).toNat ((wrap64 (t459 + t458)) : Int).toNat, wrap64 (t459 + t458), 0)) else (none)) else (none)) else (none)))) else (some ((⟨#[]⟩ : ByteArray), 0, t460))) = some (r1, r2, r3) := H
        have A8 := Aside0.mk A80
        clear A80
        by_cases c9 : t460 = 0
        · rw [if_pos c9] at H
          have c9b0 : (t460 == 0) = true := beq_iff_eq.mpr c9
          have c9b1 : (t460 != 0) = false := bne_eq_false_iff_eq.mpr c9
          clear c9
          by_cases c10 : t458 > a2
          · rw [if_pos c10] at H
            have c10b0 : decide (a2 < t458) = true := decide_eq_true c10
            clear c10
            simp only [Option.some.injEq, Prod.mk.injEq] at H
            obtain ⟨rfl, rfl, rfl⟩ := H
            go_wp2_with (first | ((with_reducible refine gate_callee (f := 38) rfl ?_); refine goesL_ (some 27) rfl rfl Try.func38 (by kernel_rfl) rfl #[.string a0, .int .i64 a1, .int .i64 2] rfl (by (try simp only [List.map_toArray, List.map_cons, List.map_nil]); first | done | rfl | (simp only [List.length_drop, List.length_take]; rfl)) ?_; (with_reducible refine (backhaulref05_Get.calls kj3 a0 a1 2 t458 t459 t460 _ A8.out).mono ?_); rintro e w' ⟨rfl, ⟨nd, rfl⟩⟩; refine ⟨_, rfl, ?_⟩))
            go_ret3
            exact ⟨by first | rfl | (simp; done) | (simp [*]; done), by repeat (first | exact Drawn0.refl _ | apply Drawn0.step)⟩
          · rw [if_neg c10] at H
            have c10b0 : decide (a2 < t458) = false := decide_eq_false c10
            clear c10
            by_cases c11 : (wrap64 (t459 + t458)) > (a0.size : Int)
            · rw [if_pos c11] at H
              have c11b0 : decide ((a0.size : Int) < (wrap64 (t459 + t458))) = true := decide_eq_true c11
              clear c11
              simp only [Option.some.injEq, Prod.mk.injEq] at H
              obtain ⟨rfl, rfl, rfl⟩ := H
              go_wp2_with (first | ((with_reducible refine gate_callee (f := 38) rfl ?_); refine goesL_ (some 27) rfl rfl Try.func38 (by kernel_rfl) rfl #[.string a0, .int .i64 a1, .int .i64 2] rfl (by (try simp only [List.map_toArray, List.map_cons, List.map_nil]); first | done | rfl | (simp only [List.length_drop, List.length_take]; rfl)) ?_; (with_reducible refine (backhaulref05_Get.calls kj3 a0 a1 2 t458 t459 t460 _ A8.out).mono ?_); rintro e w' ⟨rfl, ⟨nd, rfl⟩⟩; refine ⟨_, rfl, ?_⟩))
              go_ret3
              exact ⟨by first | rfl | (simp; done) | (simp [*]; done), by repeat (first | exact Drawn0.refl _ | apply Drawn0.step)⟩
            · rw [if_neg c11] at H
              have c11b0 : decide ((a0.size : Int) < (wrap64 (t459 + t458))) = false := decide_eq_false c11
              clear c11
              by_cases c12 : 0 ≤ t459
              · rw [if_pos c12] at H
                have c12b0 := eq_true c12
                have c12b1 : decide (0 ≤ t459) = true := decide_eq_true c12
                clear c12
                by_cases c13 : t459 ≤ (wrap64 (t459 + t458))
                · rw [if_pos c13] at H
                  have c13b0 := eq_true c13
                  have c13b1 : decide (t459 ≤ (wrap64 (t459 + t458))) = true := decide_eq_true c13
                  by_cases c14 : (wrap64 (t459 + t458)) ≤ (a0.size : Int)
                  · rw [if_pos c14] at H
                    have c14b0 := eq_true c14
                    have c14b1 : decide ((wrap64 (t459 + t458)) ≤ (a0.size : Int)) = true := decide_eq_true c14
                    simp only [Option.some.injEq, Prod.mk.injEq] at H
                    obtain ⟨rfl, rfl, rfl⟩ := H
                    go_wp2_with (first | ((with_reducible refine gate_callee (f := 38) rfl ?_); refine goesL_ (some 27) rfl rfl Try.func38 (by kernel_rfl) rfl #[.string a0, .int .i64 a1, .int .i64 2] rfl (by (try simp only [List.map_toArray, List.map_cons, List.map_nil]); first | done | rfl | (simp only [List.length_drop, List.length_take]; rfl)) ?_; (with_reducible refine (backhaulref05_Get.calls kj3 a0 a1 2 t458 t459 t460 _ A8.out).mono ?_); rintro e w' ⟨rfl, ⟨nd, rfl⟩⟩; refine ⟨_, rfl, ?_⟩))
                    go_ret3
                    exact ⟨by first | rfl | (simp; done) | (simp [*]; done), by repeat (first | exact Drawn0.refl _ | apply Drawn0.step)⟩
                  · rw [if_neg c14] at H
                    exact absurd H (by simp)
                · rw [if_neg c13] at H
                  exact absurd H (by simp)
              · rw [if_neg c12] at H
                exact absurd H (by simp)
        · rw [if_neg c9] at H
          have c9b0 : (t460 == 0) = false := beq_eq_false_iff_ne.mpr c9
          have c9b1 : (t460 != 0) = true := bne_iff_ne.mpr c9
          simp only [Option.some.injEq, Prod.mk.injEq] at H
          obtain ⟨rfl, rfl, rfl⟩ := H
          go_wp2_with (first | ((with_reducible refine gate_callee (f := 38) rfl ?_); refine goesL_ (some 27) rfl rfl Try.func38 (by kernel_rfl) rfl #[.string a0, .int .i64 a1, .int .i64 2] rfl (by (try simp only [List.map_toArray, List.map_cons, List.map_nil]); first | done | rfl | (simp only [List.length_drop, List.length_take]; rfl)) ?_; (with_reducible refine (backhaulref05_Get.calls kj3 a0 a1 2 t458 t459 t460 _ A8.out).mono ?_); rintro e w' ⟨rfl, ⟨nd, rfl⟩⟩; refine ⟨_, rfl, ?_⟩))
          go_ret3
          exact ⟨by first | rfl | (simp; done) | (simp [*]; done), by repeat (first | exact Drawn0.refl _ | apply Drawn0.step)⟩

end Go.Proofs.Ytabapiofkipkoaa.F

/- What octet's functions (and the document's) come to: numbers and texts put and got; condition: numbers are of 64 bits. -/
set_option linter.unusedVariables false
namespace Go.Proofs.Ytabapiofkipkoaa.Q
open Go.RowKit Go.Proofs.Ytabapiofkipkoaa.F Go.Proofs.YtabapiofkipkoaaW.PrintWords Go.Proofs.YtabapiofkipkoaaW.PrintLast Go.Proofs.YtabapiofkipkoaaW.PrintMore

theorem wide_dec (w : Int) : (if w = 1 then some true else if w = 2 then some true else if w = 4 then some true else some (w == 8)) = some (decide (wide w)) := by
  unfold wide
  by_cases h1 : w = 1
  · rw [if_pos h1]; simp [h1]
  · rw [if_neg h1]
    by_cases h2 : w = 2
    · rw [if_pos h2]; simp [h2]
    · rw [if_neg h2]
      by_cases h4 : w = 4
      · rw [if_pos h4]; simp [h4]
      · rw [if_neg h4]
        by_cases h8 : w = 8
        · simp [h8]
        · simp [h1, h2, h4, h8]
theorem octet_wide_f (w : Int) : octet_wide.f w = some (decide (wide w)) := by
  unfold octet_wide.f
  exact wide_dec w
theorem ref05_wide_f (w : Int) : backhaulref05_wide.f w = some (decide (wide w)) := by
  unfold backhaulref05_wide.f
  exact wide_dec w
theorem octet_inside_f (s : ByteArray) (a : Int) : octet_inside.f s a = some (decide (0 ≤ a ∧ a ≤ s.size)) := by
  unfold octet_inside.f
  by_cases h : a ≥ 0
  · rw [if_pos h]; congr 1; exact decide_eq_decide.2 ⟨fun x => ⟨h, x⟩, fun x => x.2⟩
  · rw [if_neg h]; congr 1; exact (decide_eq_false (fun x => h x.1)).symm
def natI (l : List UInt8) : List Int := l.map (fun b => (b.toNat : Int))
theorem strOfNums_nat (l : List UInt8) : strOfNums (natI l) = bytesB l := by
  unfold strOfNums natI bytesB
  rw [List.map_map]
  congr 2
  exact (List.map_congr_left fun b _ => by simp).trans (List.map_id l)
theorem byte_mod (n : Int) (h : 0 ≤ n) : n % 256 = (((UInt8.ofNat n.toNat).toNat : Nat) : Int) := by
  rw [toNat_ofNat]; omega
theorem octet_put_l0 (d : Nat) : ∀ (n : Int) (t : List UInt8), 0 ≤ n → d ≤ 8 → Ev (fun k => octet_Put.l0 k n (List.replicate d 0 ++ natI t) ((d : Int) - 1)) (bytesB (beL d n.toNat ++ t), 0) := by
  induction d with
  | zero =>
    intro n t hn hd
    refine Ev.step (fun k => by simp only [octet_Put.l0]; rfl) ?_
    refine Ev.neg (by omega) (Ev.ok ?_)
    simp only [List.replicate_zero, List.nil_append, beL]
    rw [strOfNums_nat]
  | succ d ih =>
    intro n t hn hd
    refine Ev.step (fun k => by simp only [octet_Put.l0]; rfl) ?_
    refine Ev.pos (by omega) (Ev.pos (by omega) (Ev.pos (by simp only [List.length_append, List.length_replicate]; omega) ?_))
    have e1 : ((((d + 1 : Nat) : Int) - 1) : Int).toNat = d := by omega
    have e2 : wrap64 (((d + 1 : Nat) : Int) - 1 - 1) = (d : Int) - 1 := by rw [wrap_eq (by omega) (by omega)]; omega
    have e3 : (List.replicate (d + 1) 0 ++ natI t).set d (n % 256) = List.replicate d 0 ++ natI (UInt8.ofNat n.toNat :: t) := by
      rw [List.replicate_succ', List.append_assoc, List.set_append_right _ _ (by simp)]
      simp only [List.length_replicate, Nat.sub_self, List.cons_append, List.nil_append, List.set_cons_zero, natI, List.map_cons, byte_mod n hn]
    rw [e1, e2, e3]
    refine Ev.eq (ih (n / 256) (UInt8.ofNat n.toNat :: t) (by omega) (by omega)) ?_
    rw [beL, show (n / 256).toNat = n.toNat / 256 by omega, List.append_assoc]
    rfl
theorem octet_put_j0 {n w : Int} (hw : wide w) (hn : 0 ≤ n) (hlt : n < 256 ^ w.toNat) : Ev (fun k => octet_Put.j0 k n w false) (putS n w) := by
  have hw' := wide_nat hw
  refine Ev.step (fun k => by simp only [octet_Put.j0]; rfl) ?_
  refine Ev.neg (by decide) (Ev.pos (by omega) (Ev.pos (by omega) ?_))
  have h := octet_put_l0 w.toNat n [] hn (by omega)
  simp only [natI, List.map_nil, List.append_nil] at h
  rw [wrap_eq (by omega) (by omega), show w - 1 = ((w.toNat : Nat) : Int) - 1 by omega]
  refine Ev.eq h ?_
  unfold putS
  rw [if_pos hw, if_pos ⟨hn, hlt⟩]
theorem octet_put_t {n w : Int} (hw : wide w) (h : ¬ (0 ≤ n ∧ n < 256 ^ w.toNat)) : Ev (fun k => octet_Put.j0 k n w true) (putS n w) := by
  refine Ev.step (fun k => by simp only [octet_Put.j0]; rfl) ?_
  refine Ev.pos trivial (Ev.ok ?_)
  unfold putS
  rw [if_pos hw, if_neg h]
theorem octet_put_f {n : Int} (w : Int) (h1 : n ≤ 9223372036854775807) : Ev (fun k => octet_Put.f k n w) (putS n w) := by
  unfold octet_Put.f
  refine Ev.bindc (octet_wide_f w) ?_
  by_cases hw : wide w
  · refine Ev.pos (decide_eq_true hw) ?_
    refine Ev.ite (fun h => octet_put_t hw (by omega)) (fun h => ?_)
    have key : ∀ b : Bool, (b = true ↔ ¬ n < 256 ^ w.toNat) → Ev (fun k => octet_Put.j0 k n w b) (putS n w) := by
      intro b hb
      cases b with
      | true => exact octet_put_t hw (fun x => (hb.1 rfl) x.2)
      | false => exact octet_put_j0 hw (by omega) (Classical.byContradiction fun x => by have := hb.2 x; cases this)
    rcases hw with rfl | rfl | rfl | rfl
    · rw [show wrap64 (8 * 1) = 8 from wrap_eq (by decide) (by decide)]
      refine Ev.pos (by decide) (Ev.pos (by decide) (key _ ?_))
      rw [decide_eq_true_eq, show shr .i64 n 8 = n / 256 from rfl]
      show n / 256 > 0 ↔ ¬ n < 256
      omega
    · rw [show wrap64 (8 * 2) = 16 from wrap_eq (by decide) (by decide)]
      refine Ev.pos (by decide) (Ev.pos (by decide) (key _ ?_))
      rw [decide_eq_true_eq, show shr .i64 n 16 = n / 65536 from rfl]
      show n / 65536 > 0 ↔ ¬ n < 65536
      omega
    · rw [show wrap64 (8 * 4) = 32 from wrap_eq (by decide) (by decide)]
      refine Ev.pos (by decide) (Ev.pos (by decide) (key _ ?_))
      rw [decide_eq_true_eq, show shr .i64 n 32 = n / 4294967296 from rfl]
      show n / 4294967296 > 0 ↔ ¬ n < 4294967296
      omega
    · refine Ev.neg (by decide) (key false ?_)
      show false = true ↔ ¬ n < 18446744073709551616
      simp
      omega
  · refine Ev.neg (fun x => hw (of_decide_eq_true x)) (Ev.ok ?_)
    unfold putS
    rw [if_neg hw]
theorem ref05_put_l0 (d : Nat) : ∀ (n w : Int) (i : Nat) (t : List UInt8), 0 ≤ n → n ≤ 9223372036854775807 → w ≤ 8 → w - i = d → t.length ≤ i → Ev (fun k => backhaulref05_Put.l0 k n w (bytesB t) (i : Int)) (if n < 256 ^ d then (bytesB (beL d n.toNat ++ t), 0) else (⟨#[]⟩, 8)) := by
  induction d with
  | zero =>
    intro n w i t hn hn' hw hd ht
    refine Ev.step (fun k => by simp only [backhaulref05_Put.l0]; rfl) ?_
    refine Ev.neg (by omega) (Ev.ite (fun h => Ev.ok ?_) (fun h => Ev.ok ?_))
    · rw [if_neg (show ¬ n < 256 ^ 0 by show ¬ n < 1; omega)]
    · rw [if_pos (show n < 256 ^ 0 by show n < 1; omega)]; rfl
  | succ d ih =>
    intro n w i t hn hn' hw hd ht
    refine Ev.step (fun k => by simp only [backhaulref05_Put.l0]; rfl) ?_
    refine Ev.pos (by omega) (Ev.bindc rfl ?_)
    have e1 : strOfNums [(Int.tmod n 256) % 256] = bytesB [UInt8.ofNat n.toNat] := by
      rw [Int.tmod_eq_emod_of_nonneg hn, Int.emod_emod, byte_mod n hn]
      exact strOfNums_nat [UInt8.ofNat n.toNat]
    have e2 : wrap64 (Int.tdiv n 256) = n / 256 := by
      rw [Int.tdiv_eq_ediv_of_nonneg hn, wrap_eq (by omega) (by omega)]
    rw [e1, e2, wrap_eq (by omega) (by omega), bytesB_append]
    refine Ev.pos (by simp only [bytesB_size, List.length_cons, List.length_nil]; omega) ?_
    refine Ev.eq (ih (n / 256) w (i + 1) _ (by omega) (by omega) hw (by omega) (by simp only [List.length_append, List.length_cons, List.length_nil]; omega)) ?_
    have e3 : n / 256 < 256 ^ d ↔ n < 256 ^ (d + 1) := by
      rw [Int.pow_succ]
      generalize (256 : Int) ^ d = P
      omega
    by_cases h : n / 256 < 256 ^ d
    · rw [if_pos h, if_pos (e3.1 h), beL, show (n / 256).toNat = n.toNat / 256 by omega, List.append_assoc]
    · rw [if_neg h, if_neg (fun x => h (e3.2 x))]
theorem ref05_put_f {n : Int} (w : Int) (h1 : n ≤ 9223372036854775807) : Ev (fun k => backhaulref05_Put.f k n w) (putS n w) := by
  unfold backhaulref05_Put.f putS
  refine Ev.bindc (ref05_wide_f w) ?_
  by_cases hw : wide w
  · have hw' := wide_nat hw
    rw [if_pos hw]
    refine Ev.pos (decide_eq_true hw) (Ev.ite (fun h => Ev.ok ?_) (fun h => ?_))
    · rw [if_neg (by omega)]
    · refine Ev.eq (ref05_put_l0 w.toNat n w 0 [] (by omega) h1 (by omega) (by omega) (by simp)) ?_
      rw [List.append_nil]
      by_cases hlt : n < 256 ^ w.toNat
      · rw [if_pos hlt, if_pos ⟨by omega, hlt⟩]
      · rw [if_neg hlt, if_neg (fun x => hlt x.2)]
  · rw [if_neg hw]
    exact Ev.neg (fun x => hw (of_decide_eq_true x)) (Ev.ok rfl)
theorem numAt_succ {s : ByteArray} {a i : Nat} (h : a + i < s.size) : (numAt s a (i + 1) : Int) = 256 * (numAt s a i : Int) + bt s ((a + i : Nat) : Int) := by
  have hl : a + i < s.data.toList.length := by rw [size_data]; exact h
  unfold numAt
  rw [List.take_succ_eq_append_getElem (by rw [List.length_drop]; omega), beN_append, bt_data s (a + i) h, List.getElem_drop]
  omega
theorem numAt_lt' {s : ByteArray} {a i : Nat} (h : a + i ≤ s.size) : (numAt s a i : Int) < 256 ^ i := pow_cast (numAt_lt h)
theorem pow_le8 {i : Nat} (h : i ≤ 7) : (256 : Int) ^ i ≤ 72057594037927936 := by
  have : i = 0 ∨ i = 1 ∨ i = 2 ∨ i = 3 ∨ i = 4 ∨ i = 5 ∨ i = 6 ∨ i = 7 := by omega
  rcases this with rfl | rfl | rfl | rfl | rfl | rfl | rfl | rfl <;> decide
theorem bt_range (s : ByteArray) (i : Int) : 0 ≤ bt s i ∧ bt s i < 256 := by
  unfold bt
  split
  · rename_i h
    have := (s[i.toNat]'h).toNat_lt
    omega
  · omega
theorem or_byte {x y : Int} (h0 : 0 ≤ x) (h1 : x < 72057594037927936) (h2 : 0 ≤ y) (h3 : y < 256) : Go.bits .or .u64 (IntKind.u64.wrap (x * 256)) (IntKind.u64.wrap y) = 256 * x + y := by
  rw [u64_eq (x := x * 256) (by omega) (by omega), u64_eq (x := y) (by omega) (by omega)]
  rw [bits_join .u64 64 (by decide) (fun n h0 h1 => u64_eq h0 h1) 8 (x * 256) y (by omega) (by omega) (by omega) (by omega) (by omega) (by omega)]
  omega
theorem getS_in {s : ByteArray} {a w : Int} (hw : wide w) (h0 : 0 ≤ a) (h1 : a + w ≤ s.size) : getS s a w = if (numAt s a.toNat w.toNat : Int) > 9223372036854775807 then (0, 0, 8) else ((numAt s a.toNat w.toNat : Int), a + w, 0) := by
  have hw' := wide_nat hw
  unfold getS
  rw [if_pos ⟨hw, h0, by omega⟩, if_neg (by omega)]
theorem octet_get_l0 {s : ByteArray} {a w : Int} (hs : s.size ≤ 9223372036854775807) (hw : wide w) (h0 : 0 ≤ a) (h1 : a + w ≤ s.size) (d : Nat) : ∀ i : Nat, w - i = d → Ev (fun k => octet_Get.l0 k s a w (numAt s a.toNat i : Int) w (i : Int)) (getS s a w) := by
  have hw' := wide_nat hw
  induction d with
  | zero =>
    intro i hi
    refine Ev.step (fun k => by simp only [octet_Get.l0]; rfl) ?_
    refine Ev.neg (by omega) ?_
    rw [getS_in hw h0 h1, show w.toNat = i by omega]
    refine Ev.ite (fun h => ?_) (fun h => ?_)
    · rw [if_pos h]; exact Ev.ok rfl
    · rw [if_neg h, wrap_eq (x := (numAt s a.toNat i : Int)) (by omega) (by omega), wrap_eq (by omega) (by omega)]
      exact Ev.ok rfl
  | succ d ih =>
    intro i hi
    have hlt := numAt_lt' (s := s) (a := a.toNat) (i := i) (by omega)
    have hp := pow_le8 (i := i) (by omega)
    refine Ev.step (fun k => by simp only [octet_Get.l0]; rfl) ?_
    rw [wrap_eq (x := a + (i : Int)) (by omega) (by omega), wrap_eq (x := (i : Int) + 1) (by omega) (by omega)]
    refine Ev.pos (by omega) (Ev.pos (by omega) (Ev.pos (by omega) ?_))
    have hb := bt_range s (a + i)
    rw [or_byte (by omega) (by omega) hb.1 hb.2]
    have e := numAt_succ (s := s) (a := a.toNat) (i := i) (by omega)
    rw [show ((a.toNat + i : Nat) : Int) = a + i by omega] at e
    rw [← e]
    exact ih (i + 1) (by omega)
theorem octet_get_f {s : ByteArray} (a w : Int) (hs : s.size ≤ 9223372036854775807) : Ev (fun k => octet_Get.f k s a w) (getS s a w) := by
  have bad : ¬ (wide w ∧ 0 ≤ a ∧ a ≤ s.size) → Ev (fun k => octet_Get.j0 k s a w true) (getS s a w) := by
    intro h
    refine Ev.step (fun k => by simp only [octet_Get.j0]; rfl) ?_
    refine Ev.pos trivial (Ev.ok ?_)
    unfold getS
    rw [if_neg h]
  unfold octet_Get.f
  refine Ev.bindc (octet_wide_f w) ?_
  by_cases hw : wide w
  · have hw' := wide_nat hw
    refine Ev.pos (decide_eq_true hw) (Ev.bindc (octet_inside_f s a) ?_)
    by_cases ha : 0 ≤ a ∧ a ≤ s.size
    · rw [decide_eq_true ha]
      refine Ev.step (fun k => by simp only [octet_Get.j0]; rfl) ?_
      refine Ev.neg (by decide) ?_
      rw [wrap_eq (by omega) (by omega)]
      refine Ev.ite (fun h => Ev.ok ?_) (fun h => ?_)
      · unfold getS
        rw [if_pos ⟨hw, ha⟩, if_pos h]
      · exact octet_get_l0 hs hw ha.1 (by omega) w.toNat 0 (by omega)
    · rw [decide_eq_false ha]
      exact bad (fun x => ha x.2)
  · exact Ev.neg (fun x => hw (of_decide_eq_true x)) (bad (fun x => hw x.1))
theorem ref05_get_l0 {s : ByteArray} {a w : Int} (hs : s.size ≤ 9223372036854775807) (hw : wide w) (h0 : 0 ≤ a) (h1 : a + w ≤ s.size) (hm : (numAt s a.toNat w.toNat : Int) ≤ 9223372036854775807) (d : Nat) : ∀ i : Nat, w - i = d → (numAt s a.toNat i : Int) * 256 ^ d ≤ 9223372036854775807 → Ev (fun k => backhaulref05_Get.l0 k s a w (numAt s a.toNat i : Int) (a + i)) ((numAt s a.toNat w.toNat : Int), a + w, 0) := by
  have hw' := wide_nat hw
  induction d with
  | zero =>
    intro i hi hb
    refine Ev.step (fun k => by simp only [backhaulref05_Get.l0]; rfl) ?_
    rw [wrap_eq (x := a + w) (by omega) (by omega)]
    refine Ev.neg (by omega) (Ev.ok ?_)
    rw [show w.toNat = i by omega]
  | succ d ih =>
    intro i hi hb
    have hlt := numAt_lt' (s := s) (a := a.toNat) (i := i) (by omega)
    have hp := pow_le8 (i := i) (by omega)
    have hb' := bt_range s (a + i)
    have e := numAt_succ (s := s) (a := a.toNat) (i := i) (by omega)
    rw [show ((a.toNat + i : Nat) : Int) = a + i by omega] at e
    have hpos : (0 : Int) < 256 ^ d := Int.pow_pos (by decide)
    have hle : (numAt s a.toNat (i + 1) : Int) * 256 ^ d ≤ 9223372036854775807 := by
      have key := numAt_split (s := s) (a := a.toNat) (i := i + 1) (d := d) (by omega)
      rw [show i + 1 + d = w.toNat by omega] at key
      have h2 : (0 : Int) ≤ (numAt s (a.toNat + (i + 1)) d : Int) := by omega
      omega
    have hone : (numAt s a.toNat (i + 1) : Int) ≤ 9223372036854775807 := by
      have h3 : (numAt s a.toNat (i + 1) : Int) * 1 ≤ (numAt s a.toNat (i + 1) : Int) * 256 ^ d := Int.mul_le_mul_of_nonneg_left (by omega) (by omega)
      omega
    refine Ev.step (fun k => by simp only [backhaulref05_Get.l0]; rfl) ?_
    rw [wrap_eq (x := a + w) (by omega) (by omega), wrap_eq (x := 256 * (numAt s a.toNat i : Int)) (by omega) (by omega), wrap_eq (x := bt s (a + i)) (by omega) (by omega), wrap_eq (x := 256 * (numAt s a.toNat i : Int) + bt s (a + i)) (by omega) (by omega), wrap_eq (x := a + (i : Int) + 1) (by omega) (by omega)]
    refine Ev.pos (by omega) (Ev.pos (by omega) (Ev.pos (by omega) ?_))
    rw [← e, show a + (i : Int) + 1 = a + ((i + 1 : Nat) : Int) by omega]
    exact ih (i + 1) (by omega) hle
theorem ref05_get_f {s : ByteArray} (a w : Int) (hs : s.size ≤ 9223372036854775807) : Ev (fun k => backhaulref05_Get.f k s a w) (getS s a w) := by
  have bad : ¬ (wide w ∧ 0 ≤ a ∧ a ≤ s.size) → Ev (fun k => backhaulref05_Get.j0 k s a w true) (getS s a w) := by
    intro h
    refine Ev.step (fun k => by simp only [backhaulref05_Get.j0]; rfl) ?_
    refine Ev.pos trivial (Ev.ok ?_)
    unfold getS
    rw [if_neg h]
  unfold backhaulref05_Get.f
  refine Ev.bindc (ref05_wide_f w) ?_
  by_cases hw : wide w
  · have hw' := wide_nat hw
    refine Ev.pos (decide_eq_true hw) (Ev.ite (fun h => bad (by omega)) (fun h => ?_))
    by_cases h1 : a > s.size
    · rw [decide_eq_true (show a > (s.size : Int) from h1)]
      exact bad (by omega)
    · rw [decide_eq_false (show ¬ a > (s.size : Int) from h1)]
      refine Ev.step (fun k => by simp only [backhaulref05_Get.j0]; rfl) ?_
      refine Ev.neg (by decide) ?_
      rw [wrap_eq (by omega) (by omega)]
      refine Ev.ite (fun h2 => Ev.ok ?_) (fun h2 => ?_)
      · unfold getS
        rw [if_pos ⟨hw, by omega, by omega⟩, if_pos h2]
      · rw [getS_in hw (by omega) (by omega)]
        have fin : (numAt s a.toNat w.toNat : Int) ≤ 9223372036854775807 → Ev (fun k => backhaulref05_Get.j1 k s a w false) (if (numAt s a.toNat w.toNat : Int) > 9223372036854775807 then (0, 0, 8) else ((numAt s a.toNat w.toNat : Int), a + w, 0)) := by
          intro hm
          rw [if_neg (by omega)]
          refine Ev.step (fun k => by simp only [backhaulref05_Get.j1]; rfl) ?_
          refine Ev.neg (by decide) ?_
          have := ref05_get_l0 hs hw (by omega) (by omega) hm w.toNat 0 (by omega) (by show (0 : Int) * _ ≤ _; omega)
          rw [show a + ((0 : Nat) : Int) = a by omega] at this
          exact this
        refine Ev.ite (fun h3 => ?_) (fun h3 => ?_)
        · subst h3
          refine Ev.pos (by omega) (Ev.pos (by omega) ?_)
          have key : (numAt s a.toNat (Int.toNat 8) : Int) = (numAt s a.toNat 1 : Int) * 256 ^ 7 + (numAt s (a.toNat + 1) 7 : Int) := numAt_split (s := s) (a := a.toNat) (i := 1) (d := 7) (by omega)
          have hl := numAt_lt' (s := s) (a := a.toNat + 1) (i := 7) (by omega)
          have e : (numAt s a.toNat 1 : Int) = 256 * (numAt s a.toNat 0 : Int) + bt s ((a.toNat + 0 : Nat) : Int) := numAt_succ (s := s) (a := a.toNat) (i := 0) (by omega)
          have e0 : (numAt s a.toNat 0 : Int) = 0 := by unfold numAt; simp [beN]
          rw [e0, show ((a.toNat + 0 : Nat) : Int) = a by omega] at e
          have p7 : (256 : Int) ^ 7 = 72057594037927936 := by decide
          rw [p7] at key hl
          by_cases h4 : bt s a > 127
          · rw [decide_eq_true h4]
            refine Ev.step (fun k => by simp only [backhaulref05_Get.j1]; rfl) ?_
            refine Ev.pos trivial (Ev.ok ?_)
            rw [if_pos (by omega)]
          · rw [decide_eq_false h4]
            exact fin (by omega)
        · have hl := numAt_lt' (s := s) (a := a.toNat) (i := w.toNat) (by omega)
          have h4 : w.toNat ≤ 4 := by unfold wide at hw; omega
          have hp := pow_le8 (i := w.toNat) (by omega)
          exact fin (by omega)
  · exact Ev.neg (fun x => hw (of_decide_eq_true x)) (bad (fun x => hw x.1))
theorem getS2_lt {s : ByteArray} {a n tt : Int} (h : getS s a 2 = (n, tt, 0)) : n < 65536 := (putS_ok (put_of_get h)).2.2.1
theorem octet_lay_f {t : ByteArray} (ht : t.size ≤ 4611686018427387904) : Ev (fun k => octet_Lay.f k t) (layS t) := by
  unfold octet_Lay.f layS
  refine Ev.ite (fun h => Ev.ok ?_) (fun h => ?_)
  · rw [if_pos (by omega)]
  · rw [if_neg (by omega)]
    refine Ev.bind (octet_put_f 2 (by omega)) ?_
    rw [put2 (by omega)]
    refine Ev.pos ?_ (Ev.ok rfl)
    simp only [bytesB_size, beL_length]; omega
theorem ref05_lay_f {t : ByteArray} (ht : t.size ≤ 4611686018427387904) : backhaulref05_Lay.f t = some (layS t) := by
  unfold backhaulref05_Lay.f layS
  by_cases h : (t.size : Int) > 65535
  · rw [if_pos h, if_pos (by omega)]
  · rw [if_neg h, if_neg (by omega), Option.bind_some]
    have e : strOfNums [((t.size : Int) / 256) % 256, (t.size : Int) % 256] = bytesB (beL 2 t.size) := by
      rw [byte_mod _ (by omega), byte_mod (t.size : Int) (by omega)]
      rw [show ((t.size : Int) / 256).toNat = t.size / 256 by omega, Int.toNat_natCast]
      exact strOfNums_nat [UInt8.ofNat (t.size / 256), UInt8.ofNat t.size]
    rw [e, if_pos (by simp only [bytesB_size, beL_length]; omega)]
theorem octet_take_f {s : ByteArray} (a m : Int) (hs : s.size ≤ 4611686018427387904) : Ev (fun k => octet_Take.f k s a m) (takeS s a m) := by
  unfold octet_Take.f takeS
  refine Ev.ite (fun h => ?_) (fun h => ?_)
  · rw [if_pos h]; exact Ev.ok rfl
  · rw [if_neg h]
    refine Ev.bind (octet_get_f a 2 (by omega)) ?_
    refine Ev.ite (fun h1 => ?_) (fun h1 => ?_)
    · rw [if_pos h1]
      have hg : getS s a 2 = ((getS s a 2).1, (getS s a 2).2.1, 0) := by rw [← h1]
      obtain ⟨_, h2, h3, h4, h5, h6, h7⟩ := getS_ok hg
      refine Ev.ite (fun h8 => ?_) (fun h8 => ?_)
      · rw [if_pos h8]; exact Ev.ok rfl
      · rw [if_neg h8, wrap_eq (x := (s.size : Int) - (getS s a 2).2.1) (by omega) (by omega)]
        refine Ev.ite (fun h9 => ?_) (fun h9 => ?_)
        · rw [if_pos h9]; exact Ev.ok rfl
        · rw [if_neg h9, wrap_eq (by omega) (by omega)]
          exact Ev.pos (by omega) (Ev.pos (by omega) (Ev.pos (by omega) (Ev.ok rfl)))
    · rw [if_neg h1]; exact Ev.ok rfl
theorem ref05_take_f {s : ByteArray} (a m : Int) (hs : s.size ≤ 4611686018427387904) : Ev (fun k => backhaulref05_Take.f k s a m) (takeS s a m) := by
  have bad : m < 0 ∨ a < 0 ∨ a > s.size → Ev (fun k => backhaulref05_Take.j0 k s a m true) (takeS s a m) := by
    intro h
    refine Ev.step (fun k => by simp only [backhaulref05_Take.j0]; rfl) ?_
    refine Ev.pos trivial (Ev.ok ?_)
    unfold takeS
    by_cases hm : m < 0
    · rw [if_pos hm]
    · rw [if_neg hm]
      have e : getS s a 2 = (0, 0, 2) := by unfold getS; rw [if_neg (by omega)]
      rw [e]; rfl
  unfold backhaulref05_Take.f
  refine Ev.ite (fun h => bad (.inl h)) (fun h => Ev.ite (fun h1 => bad (.inr (.inl h1))) (fun h1 => ?_))
  by_cases h2 : a > (s.size : Int)
  · rw [decide_eq_true h2]; exact bad (.inr (.inr h2))
  · rw [decide_eq_false h2]
    refine Ev.step (fun k => by simp only [backhaulref05_Take.j0]; rfl) ?_
    refine Ev.neg (by decide) (Ev.bind (ref05_get_f a 2 (by omega)) ?_)
    unfold takeS
    rw [if_neg h]
    refine Ev.ite (fun h1 => ?_) (fun h1 => ?_)
    · rw [if_pos h1]
      have hg : getS s a 2 = ((getS s a 2).1, (getS s a 2).2.1, 0) := by rw [← h1]
      obtain ⟨_, h2, h3, h4, h5, h6, h7⟩ := getS_ok hg
      refine Ev.ite (fun h8 => ?_) (fun h8 => ?_)
      · rw [if_pos h8]; exact Ev.ok rfl
      · have h10 := getS2_lt hg
        rw [if_neg h8, wrap_eq (x := (getS s a 2).2.1 + (getS s a 2).1) (by omega) (by omega)]
        refine Ev.ite (fun h9 => ?_) (fun h9 => ?_)
        · rw [if_pos (by omega)]; exact Ev.ok rfl
        · rw [if_neg (show ¬ (getS s a 2).1 > (s.size : Int) - (getS s a 2).2.1 by omega)]
          exact Ev.pos (by omega) (Ev.pos (by omega) (Ev.pos (by omega) (Ev.ok rfl)))
    · rw [if_neg h1]; exact Ev.ok rfl
end Go.Proofs.Ytabapiofkipkoaa.Q

namespace Go.Proofs.Ytabapiofkipkoaa.F
open Go.RowKit Go.Proofs.YtabapiofkipkoaaX Go.Proofs.YtabapiofkipkoaaW.PrintWords Go.Proofs.YtabapiofkipkoaaW.PrintLast Go.Proofs.YtabapiofkipkoaaW.PrintMore
attribute [local go_sem] max2_int min2_int max_two min_two max_three min_three max_four min_four   -- for this text's walks alone
attribute [local go_sem high] str_geq str_leq str_gtr
set_option linter.unusedVariables false
set_option linter.unusedSimpArgs false

/-! ### backhaulref01_Class: function 50 -/
mutual
def backhaulref01_Class.j0 : Nat → Int → Bool → Option (Int)
  | 0, _, _ => none
  | k + 1, x0, x16 => if x16 = true then (some 1) else (if x0 ≥ 48 then (backhaulref01_Class.j1 k x0 (decide (x0 ≤ 57))) else (backhaulref01_Class.j1 k x0 false))
def backhaulref01_Class.j1 : Nat → Int → Bool → Option (Int)
  | 0, _, _ => none
  | k + 1, x0, x22 => if x22 = true then (some 2) else (if x0 = 45 then (some 3) else (some 0))
end
def backhaulref01_Class.f (k : Nat) (a0 : Int) : Option (Int) := if a0 ≥ 65 then (if a0 ≤ 90 then (backhaulref01_Class.j0 k a0 true) else (if a0 ≥ 97 then (backhaulref01_Class.j0 k a0 (decide (a0 ≤ 122))) else (backhaulref01_Class.j0 k a0 false))) else (if a0 ≥ 97 then (backhaulref01_Class.j0 k a0 (decide (a0 ≤ 122))) else (backhaulref01_Class.j0 k a0 false))
theorem backhaulref01_Class.mono_l : ∀ k, (∀ y0 y1, LeO (backhaulref01_Class.j0 k y0 y1) (backhaulref01_Class.j0 (k + 1) y0 y1)) ∧ (∀ y0 y1, LeO (backhaulref01_Class.j1 k y0 y1) (backhaulref01_Class.j1 (k + 1) y0 y1))
  | 0 => ⟨fun _ _ r h => by simp [backhaulref01_Class.j0] at h, fun _ _ r h => by simp [backhaulref01_Class.j1] at h⟩
  | k + 1 => by
    obtain ⟨ih0, ih1⟩ := backhaulref01_Class.mono_l k
    refine ⟨?_, ?_⟩
    · intro y0 y1
      unfold backhaulref01_Class.j0
      repeat' first
      | (with_reducible exact ih0 _ _)
      | (with_reducible exact ih1 _ _)
      | (with_reducible exact LeO.refl _)
      | (with_reducible exact LeO.none _)
      | (with_reducible refine LeO.ite ?_ ?_)
      | (with_reducible refine LeO.bind ?_ (fun _ => ?_))
      | exact ih0 _ _
      | exact ih1 _ _
      | exact LeO.none _
      | refine LeO.ite ?_ ?_
      | refine LeO.bind ?_ (fun _ => ?_)
    · intro y0 y1
      unfold backhaulref01_Class.j1
      repeat' first
      | (with_reducible exact ih0 _ _)
      | (with_reducible exact ih1 _ _)
      | (with_reducible exact LeO.refl _)
      | (with_reducible exact LeO.none _)
      | (with_reducible refine LeO.ite ?_ ?_)
      | (with_reducible refine LeO.bind ?_ (fun _ => ?_))
      | exact ih0 _ _
      | exact ih1 _ _
      | exact LeO.none _
      | refine LeO.ite ?_ ?_
      | refine LeO.bind ?_ (fun _ => ?_)
theorem backhaulref01_Class.mono : ∀ a0 k, LeO (backhaulref01_Class.f k a0) (backhaulref01_Class.f (k + 1) a0) := by
  intro a0 k
  obtain ⟨ih0, ih1⟩ := backhaulref01_Class.mono_l k
  unfold backhaulref01_Class.f
  repeat' first
      | (with_reducible exact ih0 _ _)
      | (with_reducible exact ih1 _ _)
      | (with_reducible exact LeO.refl _)
      | (with_reducible exact LeO.none _)
      | (with_reducible refine LeO.ite ?_ ?_)
      | (with_reducible refine LeO.bind ?_ (fun _ => ?_))
      | exact ih0 _ _
      | exact ih1 _ _
      | exact LeO.none _
      | refine LeO.ite ?_ ?_
      | refine LeO.bind ?_ (fun _ => ?_)
set_option maxHeartbeats 8000000 in
set_option maxRecDepth 100000 in
theorem backhaulref01_Class.calls (k : Nat) (a0 : Int) (r : Int) (w : World) (h : backhaulref01_Class.f k a0 = some r) :
    Calls Try.prog 50 #[.int .i32 a0] w fun e w' => e = .returned (.int .i64 r) ∧ Drawn0 w w' := by
  have H : (if a0 ≥ 65 then (if a0 ≤ 90 then (backhaulref01_Class.j0 k a0 true) else (if a0 ≥ 97 then (backhaulref01_Class.j0 k a0 (decide (a0 ≤ 122))) else (backhaulref01_Class.j0 k a0 false))) else (if a0 ≥ 97 then (backhaulref01_Class.j0 k a0 (decide (a0 ≤ 122))) else (backhaulref01_Class.j0 k a0 false))) = some r := h
  clear h
  have HC2 := Aside0.mk H
  clear H
  go_enter Try.func50, Try.ntmps50
  go_upto_region 1 with (fail)
  go_cut [16] (fun v16 wc => ∃ (kq : Nat) (x16_1 : Bool), v16 = .bool x16_1 ∧ Aside0 (backhaulref01_Class.j0 kq a0 x16_1 = some r) ∧ Aside0 (kq ≤ k) ∧ Drawn0 w wc)
  case first =>
    have H := HC2.out
    clear HC2
    by_cases c3 : a0 ≥ 65
    · rw [if_pos c3] at H
      have c3b0 : decide (65 ≤ a0) = true := decide_eq_true c3
      clear c3
      (first | rw [c3b0] | (simp only [i64_w, i32_w]; rw [c3b0]) | skip)
      by_cases c4 : a0 ≤ 90
      · rw [if_pos c4] at H
        have c4b0 : decide (a0 ≤ 90) = true := decide_eq_true c4
        clear c4
        have H' := Aside0.mk H
        clear H
        go_wp2
        go_meet
        case rel => exact ⟨_, (true), (by first | rfl | (simp; done) | (simp [*]; done)), H', ⟨by first | omega | exact Nat.le_refl _⟩, by repeat (first | exact Drawn0.refl _ | apply Drawn0.step)⟩
      · rw [if_neg c4] at H
        have c4b0 : decide (a0 ≤ 90) = false := decide_eq_false c4
        clear c4
        by_cases c5 : a0 ≥ 97
        · rw [if_pos c5] at H
          have c5b0 : decide (97 ≤ a0) = true := decide_eq_true c5
          clear c5
          have H' := Aside0.mk H
          clear H
          go_wp2
          go_meet
          case rel => exact ⟨_, (decide (a0 ≤ 122)), (by first | rfl | (simp; done) | (simp [*]; done)), H', ⟨by first | omega | exact Nat.le_refl _⟩, by repeat (first | exact Drawn0.refl _ | apply Drawn0.step)⟩
        · rw [if_neg c5] at H
          have c5b0 : decide (97 ≤ a0) = false := decide_eq_false c5
          clear c5
          have H' := Aside0.mk H
          clear H
          go_wp2
          go_meet
          case rel => exact ⟨_, (false), (by first | rfl | (simp; done) | (simp [*]; done)), H', ⟨by first | omega | exact Nat.le_refl _⟩, by repeat (first | exact Drawn0.refl _ | apply Drawn0.step)⟩
    · rw [if_neg c3] at H
      have c3b0 : decide (65 ≤ a0) = false := decide_eq_false c3
      clear c3
      (first | rw [c3b0] | (simp only [i64_w, i32_w]; rw [c3b0]) | skip)
      by_cases c6 : a0 ≥ 97
      · rw [if_pos c6] at H
        have c6b0 : decide (97 ≤ a0) = true := decide_eq_true c6
        clear c6
        have H' := Aside0.mk H
        clear H
        go_wp2
        go_meet
        case rel => exact ⟨_, (decide (a0 ≤ 122)), (by first | rfl | (simp; done) | (simp [*]; done)), H', ⟨by first | omega | exact Nat.le_refl _⟩, by repeat (first | exact Drawn0.refl _ | apply Drawn0.step)⟩
      · rw [if_neg c6] at H
        have c6b0 : decide (97 ≤ a0) = false := decide_eq_false c6
        clear c6
        have H' := Aside0.mk H
        clear H
        go_wp2
        go_meet
        case rel => exact ⟨_, (false), (by first | rfl | (simp; done) | (simp [*]; done)), H', ⟨by first | omega | exact Nat.le_refl _⟩, by repeat (first | exact Drawn0.refl _ | apply Drawn0.step)⟩
  case rest =>
    clear HC2
    try clear p2
    try clear c3
    try clear c3b0
    try clear c4
    try clear c4b0
    try clear c5
    try clear c5b0
    try clear c6
    try clear c6b0
    obtain ⟨kq, x16_1, rfl, HA, HJ1, ⟨mc1, rfl⟩⟩ := hcut
    cases kq with
    | zero => exact absurd HA.out (by simp [backhaulref01_Class.j0])
    | succ kj1 =>
      have H := HA.out
      clear HA
      simp only [backhaulref01_Class.j0] at H
      by_cases c7 : x16_1 = true
      · subst c7
        have H1 : (some 1) = some r := by first | (rw [if_pos rfl] at H; exact H) | rfl
        clear H
        have H := H1
        clear H1
        obtain rfl := Option.some.inj H
        go_wp2
        go_ret
        exact ⟨by first | rfl | (simp; done) | (simp [*]; done), by repeat (first | exact Drawn0.refl _ | apply Drawn0.step)⟩
      · replace c7 := Bool.eq_false_iff.mpr c7
        subst c7
        have H1 : (if a0 ≥ 48 then (backhaulref01_Class.j1 kj1 a0 (decide (a0 ≤ 57))) else (backhaulref01_Class.j1 kj1 a0 false)) = some r := by first | (rw [if_neg (show ¬ (false = true) by decide)] at H; exact H) | rfl
        clear H
        have H := H1
        clear H1
        have HC8 := Aside0.mk H
        clear H
        go_upto_region 3 with (fail)
        go_cut [22] (fun v22 wc => ∃ (kq : Nat) (x22_7 : Bool), v22 = .bool x22_7 ∧ Aside0 (backhaulref01_Class.j1 kq a0 x22_7 = some r) ∧ Aside0 (kq ≤ kj1) ∧ Drawn0 w wc)
        case first =>
          have H := HC8.out
          clear HC8
          by_cases c9 : a0 ≥ 48
          · rw [if_pos c9] at H
            have c9b0 : decide (48 ≤ a0) = true := decide_eq_true c9
            clear c9
            (first | rw [c9b0] | (simp only [i64_w, i32_w]; rw [c9b0]) | skip)
            have H' := Aside0.mk H
            clear H
            go_wp2
            go_meet
            case rel => exact ⟨_, (decide (a0 ≤ 57)), (by first | rfl | (simp; done) | (simp [*]; done)), H', ⟨by have := HJ1.out; first | omega | exact Nat.le_refl _⟩, by repeat (first | exact Drawn0.refl _ | apply Drawn0.step)⟩
          · rw [if_neg c9] at H
            have c9b0 : decide (48 ≤ a0) = false := decide_eq_false c9
            clear c9
            (first | rw [c9b0] | (simp only [i64_w, i32_w]; rw [c9b0]) | skip)
            have H' := Aside0.mk H
            clear H
            go_wp2
            go_meet
            case rel => exact ⟨_, (false), (by first | rfl | (simp; done) | (simp [*]; done)), H', ⟨by have := HJ1.out; first | omega | exact Nat.le_refl _⟩, by repeat (first | exact Drawn0.refl _ | apply Drawn0.step)⟩
        case rest =>
          clear HC8
          try clear c1
          try clear p2
          try clear c3
          try clear c3b0
          try clear c4
          try clear c4b0
          try clear c5
          try clear c5b0
          try clear c6
          try clear c6b0
          try clear c7
          try clear c9
          try clear c9b0
          try clear p2
          obtain ⟨kq, x22_7, rfl, HA, HJ7, ⟨mc7, rfl⟩⟩ := hcut
          cases kq with
          | zero => exact absurd HA.out (by simp [backhaulref01_Class.j1])
          | succ kj7 =>
            have H := HA.out
            clear HA
            simp only [backhaulref01_Class.j1] at H
            by_cases c10 : x22_7 = true
            · subst c10
              have H1 : (some 2) = some r := by first | (rw [if_pos rfl] at H; exact H) | rfl
              clear H
              have H := H1
              clear H1
              obtain rfl := Option.some.inj H
              go_wp2
              go_ret
              exact ⟨by first | rfl | (simp; done) | (simp [*]; done), by repeat (first | exact Drawn0.refl _ | apply Drawn0.step)⟩
            · replace c10 := Bool.eq_false_iff.mpr c10
              subst c10
              have H1 : (if a0 = 45 then (some 3) else (some 0)) = some r := by first | (rw [if_neg (show ¬ (false = true) by decide)] at H; exact H) | rfl
              clear H
              have H := H1
              clear H1
              by_cases c11 : a0 = 45
              · rw [if_pos c11] at H
                have c11b0 : (a0 == 45) = true := beq_iff_eq.mpr c11
                have c11b1 : (a0 != 45) = false := bne_eq_false_iff_eq.mpr c11
                clear c11
                obtain rfl := Option.some.inj H
                go_wp2
                go_ret
                exact ⟨by first | rfl | (simp; done) | (simp [*]; done), by repeat (first | exact Drawn0.refl _ | apply Drawn0.step)⟩
              · rw [if_neg c11] at H
                have c11b0 : (a0 == 45) = false := beq_eq_false_iff_ne.mpr c11
                have c11b1 : (a0 != 45) = true := bne_iff_ne.mpr c11
                obtain rfl := Option.some.inj H
                go_wp2
                go_ret
                exact ⟨by first | rfl | (simp; done) | (simp [*]; done), by repeat (first | exact Drawn0.refl _ | apply Drawn0.step)⟩

end Go.Proofs.Ytabapiofkipkoaa.F

namespace Go.Proofs.Ytabapiofkipkoaa.F
open Go.RowKit Go.Proofs.YtabapiofkipkoaaX Go.Proofs.YtabapiofkipkoaaW.PrintWords Go.Proofs.YtabapiofkipkoaaW.PrintLast Go.Proofs.YtabapiofkipkoaaW.PrintMore
attribute [local go_sem] max2_int min2_int max_two min_two max_three min_three max_four min_four   -- for this text's walks alone
attribute [local go_sem high] str_geq str_leq str_gtr
set_option linter.unusedVariables false
set_option linter.unusedSimpArgs false

/-! ### backhaulref01_Value: function 52 -/
def backhaulref01_Value.l0 : Nat → Int → ByteArray → Int → Option (Int)
  | 0, _, _, _ => none
  | k + 1, x0, x3, x4 => if x4 < (x3.size : Int) then (if 0 ≤ x4 then (if (wrap32 (bt x3 x4)) = x0 then (some x4) else (backhaulref01_Value.l0 k x0 x3 (wrap64 (x4 + 1)))) else (none)) else (some (-1))
def backhaulref01_Value.f (k : Nat) (a0 : Int) : Option (Int) := backhaulref01_Value.l0 k a0 (⟨#[48, 49, 50, 51, 52, 53, 54, 55, 56, 57, 65, 66, 67, 68, 69, 70, 71, 72, 73, 74, 75, 76, 77, 78, 79, 80, 81, 82, 83, 84, 85, 86, 87, 88, 89, 90, 42]⟩ : ByteArray) 0
theorem backhaulref01_Value.mono_l : ∀ k, (∀ y0 y1 y2, LeO (backhaulref01_Value.l0 k y0 y1 y2) (backhaulref01_Value.l0 (k + 1) y0 y1 y2))
  | 0 => fun _ _ _ r h => by simp [backhaulref01_Value.l0] at h
  | k + 1 => by
    have ih0 := backhaulref01_Value.mono_l k
    · intro y0 y1 y2
      unfold backhaulref01_Value.l0
      repeat' first
      | (with_reducible exact ih0 _ _ _)
      | (with_reducible exact LeO.refl _)
      | (with_reducible exact LeO.none _)
      | (with_reducible refine LeO.ite ?_ ?_)
      | (with_reducible refine LeO.bind ?_ (fun _ => ?_))
      | exact ih0 _ _ _
      | exact LeO.none _
      | refine LeO.ite ?_ ?_
      | refine LeO.bind ?_ (fun _ => ?_)
theorem backhaulref01_Value.mono : ∀ a0 k, LeO (backhaulref01_Value.f k a0) (backhaulref01_Value.f (k + 1) a0) := by
  intro a0 k
  have ih0 := backhaulref01_Value.mono_l k
  unfold backhaulref01_Value.f
  repeat' first
      | (with_reducible exact ih0 _ _ _)
      | (with_reducible exact LeO.refl _)
      | (with_reducible exact LeO.none _)
      | (with_reducible refine LeO.ite ?_ ?_)
      | (with_reducible refine LeO.bind ?_ (fun _ => ?_))
      | exact ih0 _ _ _
      | exact LeO.none _
      | refine LeO.ite ?_ ?_
      | refine LeO.bind ?_ (fun _ => ?_)
set_option maxHeartbeats 8000000 in
set_option maxRecDepth 100000 in
theorem backhaulref01_Value.calls (k : Nat) (a0 : Int) (r : Int) (w : World) (h : backhaulref01_Value.f k a0 = some r) :
    Calls Try.prog 52 #[.int .i32 a0] w fun e w' => e = .returned (.int .i64 r) ∧ Drawn0 w w' := by
  have H : (backhaulref01_Value.l0 k a0 (⟨#[48, 49, 50, 51, 52, 53, 54, 55, 56, 57, 65, 66, 67, 68, 69, 70, 71, 72, 73, 74, 75, 76, 77, 78, 79, 80, 81, 82, 83, 84, 85, 86, 87, 88, 89, 90, 42]⟩ : ByteArray) 0) = some r := h
  clear h
  have H' := Aside0.mk H
  clear H
  go_enter Try.func52, Try.ntmps52
  go_wp2
  go_loopg [4] k (fun kq v4 w' => ∃ (x4_1 : Int), v4 = .int .i64 x4_1 ∧ Aside0 (backhaulref01_Value.l0 kq a0 (⟨#[48, 49, 50, 51, 52, 53, 54, 55, 56, 57, 65, 66, 67, 68, 69, 70, 71, 72, 73, 74, 75, 76, 77, 78, 79, 80, 81, 82, 83, 84, 85, 86, 87, 88, 89, 90, 42]⟩ : ByteArray) x4_1 = some r) ∧ Aside0 (kq ≤ k) ∧ Drawn0 w w')
  case atStart => exact ⟨(0), (by first | rfl | (simp; done) | (simp [*]; done)), H', ⟨Nat.le_refl _⟩, by repeat (first | exact Drawn0.refl _ | apply Drawn0.step)⟩
  case round =>
    clear H'
    obtain ⟨x4_1, rfl, HA, HK1, ⟨m1, rfl⟩⟩ := hrel
    cases gk with
    | zero => exact absurd HA.out (by simp [backhaulref01_Value.l0])
    | succ k1 =>
      have H := HA.out
      clear HA
      simp only [backhaulref01_Value.l0] at H
      by_cases c2 : x4_1 < ((⟨#[48, 49, 50, 51, 52, 53, 54, 55, 56, 57, 65, 66, 67, 68, 69, 70, 71, 72, 73, 74, 75, 76, 77, 78, 79, 80, 81, 82, 83, 84, 85, 86, 87, 88, 89, 90, 42]⟩ : ByteArray).size : Int)
      · rw [if_pos c2] at H
        have c2b0 : decide (x4_1 < ((⟨#[48, 49, 50, 51, 52, 53, 54, 55, 56, 57, 65, 66, 67, 68, 69, 70, 71, 72, 73, 74, 75, 76, 77, 78, 79, 80, 81, 82, 83, 84, 85, 86, 87, 88, 89, 90, 42]⟩ : ByteArray).size : Int)) = true := decide_eq_true c2
        have c2b0z : decide (x4_1 < 37) = true := decide_eq_true c2
        clear c2
        by_cases c3 : 0 ≤ x4_1
        · rw [if_pos c3] at H
          have c3b0 : decide (0 ≤ x4_1) = true := decide_eq_true c3
          clear c3
          by_cases c5 : (wrap32 (bt (⟨#[48, 49, 50, 51, 52, 53, 54, 55, 56, 57, 65, 66, 67, 68, 69, 70, 71, 72, 73, 74, 75, 76, 77, 78, 79, 80, 81, 82, 83, 84, 85, 86, 87, 88, 89, 90, 42]⟩ : ByteArray) x4_1)) = a0
          · rw [if_pos c5] at H
            have c5b0 : ((wrap32 (bt (⟨#[48, 49, 50, 51, 52, 53, 54, 55, 56, 57, 65, 66, 67, 68, 69, 70, 71, 72, 73, 74, 75, 76, 77, 78, 79, 80, 81, 82, 83, 84, 85, 86, 87, 88, 89, 90, 42]⟩ : ByteArray) x4_1)) == a0) = true := beq_iff_eq.mpr c5
            have c5b1 : ((wrap32 (bt (⟨#[48, 49, 50, 51, 52, 53, 54, 55, 56, 57, 65, 66, 67, 68, 69, 70, 71, 72, 73, 74, 75, 76, 77, 78, 79, 80, 81, 82, 83, 84, 85, 86, 87, 88, 89, 90, 42]⟩ : ByteArray) x4_1)) != a0) = false := bne_eq_false_iff_eq.mpr c5
            clear c5
            obtain rfl := Option.some.inj H
            have p4 : 0 ≤ (x4_1 : Int) := of_decide_eq_true (by first | (with_reducible assumption) | assumption)
            have q4 : x4_1 < (37 : Int) := of_decide_eq_true (by first | (with_reducible assumption) | assumption)
            have hx4 := bt_at (⟨#[48, 49, 50, 51, 52, 53, 54, 55, 56, 57, 65, 66, 67, 68, 69, 70, 71, 72, 73, 74, 75, 76, 77, 78, 79, 80, 81, 82, 83, 84, 85, 86, 87, 88, 89, 90, 42]⟩ : ByteArray) x4_1
            replace p4 := eq_true p4
            replace q4 := eq_true q4
            go_wp2
            go_ret
            exact ⟨by first | rfl | (simp; done) | (simp [*]; done), by repeat (first | exact Drawn0.refl _ | apply Drawn0.step)⟩
          · rw [if_neg c5] at H
            have c5b0 : ((wrap32 (bt (⟨#[48, 49, 50, 51, 52, 53, 54, 55, 56, 57, 65, 66, 67, 68, 69, 70, 71, 72, 73, 74, 75, 76, 77, 78, 79, 80, 81, 82, 83, 84, 85, 86, 87, 88, 89, 90, 42]⟩ : ByteArray) x4_1)) == a0) = false := beq_eq_false_iff_ne.mpr c5
            have c5b1 : ((wrap32 (bt (⟨#[48, 49, 50, 51, 52, 53, 54, 55, 56, 57, 65, 66, 67, 68, 69, 70, 71, 72, 73, 74, 75, 76, 77, 78, 79, 80, 81, 82, 83, 84, 85, 86, 87, 88, 89, 90, 42]⟩ : ByteArray) x4_1)) != a0) = true := bne_iff_ne.mpr c5
            have H' := Aside0.mk H
            clear H
            have p4 : 0 ≤ (x4_1 : Int) := of_decide_eq_true (by first | (with_reducible assumption) | assumption)
            have q4 : x4_1 < (37 : Int) := of_decide_eq_true (by first | (with_reducible assumption) | assumption)
            have hx4 := bt_at (⟨#[48, 49, 50, 51, 52, 53, 54, 55, 56, 57, 65, 66, 67, 68, 69, 70, 71, 72, 73, 74, 75, 76, 77, 78, 79, 80, 81, 82, 83, 84, 85, 86, 87, 88, 89, 90, 42]⟩ : ByteArray) x4_1
            replace p4 := eq_true p4
            replace q4 := eq_true q4
            go_wp2
            go_roundg k1
            case measure => have := HK1.out; omega
            case rel => exact ⟨(wrap64 (x4_1 + 1)), (by first | rfl | (simp; done) | (simp [*]; done)), H', ⟨by have := HK1.out; omega⟩, by repeat (first | exact Drawn0.refl _ | apply Drawn0.step)⟩
        · rw [if_neg c3] at H
          exact absurd H (by simp)
      · rw [if_neg c2] at H
        have c2b0 : decide (x4_1 < ((⟨#[48, 49, 50, 51, 52, 53, 54, 55, 56, 57, 65, 66, 67, 68, 69, 70, 71, 72, 73, 74, 75, 76, 77, 78, 79, 80, 81, 82, 83, 84, 85, 86, 87, 88, 89, 90, 42]⟩ : ByteArray).size : Int)) = false := decide_eq_false c2
        have c2b0z : decide (x4_1 < 37) = false := decide_eq_false c2
        clear c2
        obtain rfl := Option.some.inj H
        go_wp2
        go_ret
        exact ⟨by first | rfl | (simp; done) | (simp [*]; done), by repeat (first | exact Drawn0.refl _ | apply Drawn0.step)⟩

end Go.Proofs.Ytabapiofkipkoaa.F

namespace Go.Proofs.Ytabapiofkipkoaa.F
open Go.RowKit Go.Proofs.YtabapiofkipkoaaX Go.Proofs.YtabapiofkipkoaaW.PrintWords Go.Proofs.YtabapiofkipkoaaW.PrintLast Go.Proofs.YtabapiofkipkoaaW.PrintMore
attribute [local go_sem] max2_int min2_int max_two min_two max_three min_three max_four min_four   -- for this text's walks alone
attribute [local go_sem high] str_geq str_leq str_gtr
set_option linter.unusedVariables false
set_option linter.unusedSimpArgs false

/-! ### backhaulref01_Fold: function 55 -/
mutual
def backhaulref01_Fold.j0 : Nat → ByteArray → Bool → Option (ByteArray × Int)
  | 0, _, _ => none
  | k + 1, x0, x27 => if x27 = true then (some ((⟨#[]⟩ : ByteArray), 9)) else (backhaulref01_Fold.l0 k x0 ([] : List Int) 0)
def backhaulref01_Fold.l0 : Nat → ByteArray → List Int → Int → Option (ByteArray × Int)
  | 0, _, _, _ => none
  | k + 1, x0, x4, x5 => if x5 < (x0.size : Int) then (if 0 ≤ x5 then ((backhaulref01_Class.f k (wrap32 (bt x0 x5))).bind fun t606 => (if t606 = 0 then (backhaulref01_Fold.j2 k x0 x4 x5 (bt x0 x5) true) else (if (bt x0 x5) = 45 then (if 0 ≤ (wrap64 (x5 - 1)) then (if (wrap64 (x5 - 1)) < (x0.size : Int) then (backhaulref01_Fold.j2 k x0 x4 x5 (bt x0 x5) ((bt x0 (wrap64 (x5 - 1))) == 45)) else (none)) else (none)) else (backhaulref01_Fold.j2 k x0 x4 x5 (bt x0 x5) false)))) else (none)) else (some (strOfNums x4, 0))
def backhaulref01_Fold.j2 : Nat → ByteArray → List Int → Int → Int → Bool → Option (ByteArray × Int)
  | 0, _, _, _, _, _ => none
  | k + 1, x0, x4, x5, x6, x51 => if x51 = true then (some ((⟨#[]⟩ : ByteArray), 9)) else (if x6 ≥ 97 then (if x6 ≤ 122 then (if x4.length < 140737488355328 then (backhaulref01_Fold.l0 k x0 (x4 ++ [(x6 - 32) % 256]) (wrap64 (x5 + 1))) else (none)) else (if x4.length < 140737488355328 then (backhaulref01_Fold.l0 k x0 (x4 ++ [x6]) (wrap64 (x5 + 1))) else (none))) else (if x4.length < 140737488355328 then (backhaulref01_Fold.l0 k x0 (x4 ++ [x6]) (wrap64 (x5 + 1))) else (none)))
end
def backhaulref01_Fold.f (k : Nat) (a0 : ByteArray) : Option (ByteArray × Int) := if (a0.size : Int) = 0 then (backhaulref01_Fold.j0 k a0 true) else (if (a0.size : Int) > 16 then (backhaulref01_Fold.j0 k a0 true) else (if 0 < (a0.size : Int) then (if (bt a0 0) = 45 then (backhaulref01_Fold.j0 k a0 true) else (if 0 ≤ (wrap64 ((a0.size : Int) - 1)) then (if (wrap64 ((a0.size : Int) - 1)) < (a0.size : Int) then (backhaulref01_Fold.j0 k a0 ((bt a0 (wrap64 ((a0.size : Int) - 1))) == 45)) else (none)) else (none))) else (none)))
theorem backhaulref01_Fold.mono_l : ∀ k, (∀ y0 y1, LeO (backhaulref01_Fold.j0 k y0 y1) (backhaulref01_Fold.j0 (k + 1) y0 y1)) ∧ (∀ y0 y1 y2, LeO (backhaulref01_Fold.l0 k y0 y1 y2) (backhaulref01_Fold.l0 (k + 1) y0 y1 y2)) ∧ (∀ y0 y1 y2 y3 y4, LeO (backhaulref01_Fold.j2 k y0 y1 y2 y3 y4) (backhaulref01_Fold.j2 (k + 1) y0 y1 y2 y3 y4))
  | 0 => ⟨fun _ _ r h => by simp [backhaulref01_Fold.j0] at h, fun _ _ _ r h => by simp [backhaulref01_Fold.l0] at h, fun _ _ _ _ _ r h => by simp [backhaulref01_Fold.j2] at h⟩
  | k + 1 => by
    obtain ⟨ih0, ih1, ih2⟩ := backhaulref01_Fold.mono_l k
    refine ⟨?_, ?_, ?_⟩
    · intro y0 y1
      unfold backhaulref01_Fold.j0
      repeat' first
      | (with_reducible exact ih0 _ _)
      | (with_reducible exact ih1 _ _ _)
      | (with_reducible exact ih2 _ _ _ _ _)
      | (with_reducible exact backhaulref01_Class.mono _ _)
      | (with_reducible exact LeO.refl _)
      | (with_reducible exact LeO.none _)
      | (with_reducible refine LeO.ite ?_ ?_)
      | (with_reducible refine LeO.bind ?_ (fun _ => ?_))
      | exact ih0 _ _
      | exact ih1 _ _ _
      | exact ih2 _ _ _ _ _
      | exact backhaulref01_Class.mono _ _
      | exact LeO.none _
      | refine LeO.ite ?_ ?_
      | refine LeO.bind ?_ (fun _ => ?_)
    · intro y0 y1 y2
      unfold backhaulref01_Fold.l0
      repeat' first
      | (with_reducible exact ih0 _ _)
      | (with_reducible exact ih1 _ _ _)
      | (with_reducible exact ih2 _ _ _ _ _)
      | (with_reducible exact backhaulref01_Class.mono _ _)
      | (with_reducible exact LeO.refl _)
      | (with_reducible exact LeO.none _)
      | (with_reducible refine LeO.ite ?_ ?_)
      | (with_reducible refine LeO.bind ?_ (fun _ => ?_))
      | exact ih0 _ _
      | exact ih1 _ _ _
      | exact ih2 _ _ _ _ _
      | exact backhaulref01_Class.mono _ _
      | exact LeO.none _
      | refine LeO.ite ?_ ?_
      | refine LeO.bind ?_ (fun _ => ?_)
    · intro y0 y1 y2 y3 y4
      unfold backhaulref01_Fold.j2
      repeat' first
      | (with_reducible exact ih0 _ _)
      | (with_reducible exact ih1 _ _ _)
      | (with_reducible exact ih2 _ _ _ _ _)
      | (with_reducible exact backhaulref01_Class.mono _ _)
      | (with_reducible exact LeO.refl _)
      | (with_reducible exact LeO.none _)
      | (with_reducible refine LeO.ite ?_ ?_)
      | (with_reducible refine LeO.bind ?_ (fun _ => ?_))
      | exact ih0 _ _
      | exact ih1 _ _ _
      | exact ih2 _ _ _ _ _
      | exact backhaulref01_Class.mono _ _
      | exact LeO.none _
      | refine LeO.ite ?_ ?_
      | refine LeO.bind ?_ (fun _ => ?_)
theorem backhaulref01_Fold.mono : ∀ a0 k, LeO (backhaulref01_Fold.f k a0) (backhaulref01_Fold.f (k + 1) a0) := by
  intro a0 k
  obtain ⟨ih0, ih1, ih2⟩ := backhaulref01_Fold.mono_l k
  unfold backhaulref01_Fold.f
  repeat' first
      | (with_reducible exact ih0 _ _)
      | (with_reducible exact ih1 _ _ _)
      | (with_reducible exact ih2 _ _ _ _ _)
      | (with_reducible exact backhaulref01_Class.mono _ _)
      | (with_reducible exact LeO.refl _)
      | (with_reducible exact LeO.none _)
      | (with_reducible refine LeO.ite ?_ ?_)
      | (with_reducible refine LeO.bind ?_ (fun _ => ?_))
      | exact ih0 _ _
      | exact ih1 _ _ _
      | exact ih2 _ _ _ _ _
      | exact backhaulref01_Class.mono _ _
      | exact LeO.none _
      | refine LeO.ite ?_ ?_
      | refine LeO.bind ?_ (fun _ => ?_)
set_option maxHeartbeats 8000000 in
set_option maxRecDepth 100000 in
theorem backhaulref01_Fold.calls (k : Nat) (a0 : ByteArray) (r1 : ByteArray) (r2 : Int) (w : World) (h : backhaulref01_Fold.f k a0 = some (r1, r2)) :
    Calls Try.prog 55 #[.string a0] w fun e w' => e = .returned (.tuple #[.string r1, .int .i64 r2]) ∧ Below w.heap.size w w' := by
  have HB := Aside0.mk (Below.refl w.heap.size w)
  have H : (if (a0.size : Int) = 0 then (backhaulref01_Fold.j0 k a0 true) else (if (a0.size : Int) > 16 then (backhaulref01_Fold.j0 k a0 true) else (if 0 < (a0.size : Int) then (if (bt a0 0) = 45 then (backhaulref01_Fold.j0 k a0 true) else (if 0 ≤ (wrap64 ((a0.size : Int) - 1)) then (if (wrap64 ((a0.size : Int) - 1)) < (a0.size : Int) then (backhaulref01_Fold.j0 k a0 ((bt a0 (wrap64 ((a0.size : Int) - 1))) == 45)) else (none)) else (none))) else (none)))) = some (r1, r2) := h
  clear h
  have HC2 := Aside0.mk H
  clear H
  go_enter Try.func55, Try.ntmps55
  go_upto_region 1 with (fail)
  go_cut [27] (fun v27 wc => ∃ (kq : Nat) (x27_1 : Bool), v27 = .bool x27_1 ∧ Aside0 (backhaulref01_Fold.j0 kq a0 x27_1 = some (r1, r2)) ∧ Aside0 (kq ≤ k) ∧ Aside0 (Below w.heap.size w wc))
  case first =>
    have H := HC2.out
    clear HC2
    by_cases c3 : (a0.size : Int) = 0
    · rw [if_pos c3] at H
      have c3b0 : ((a0.size : Int) == 0) = true := beq_iff_eq.mpr c3
      have c3b1 : ((a0.size : Int) != 0) = false := bne_eq_false_iff_eq.mpr c3
      clear c3
      (first | rw [c3b0] | (simp only [i64_w, i32_w]; rw [c3b0]) | skip)
      have H' := Aside0.mk H
      clear H
      go_wp2
      go_meet
      case rel => exact ⟨_, (true), (by first | rfl | (simp; done) | (simp [*]; done)), H', ⟨by first | omega | exact Nat.le_refl _⟩, ⟨by repeat (first | (with_reducible first | exact HB.out | apply below_alloc | apply pw_below_drewN | apply below_drew1) | exact HB.out)⟩⟩
    · rw [if_neg c3] at H
      have c3b0 : ((a0.size : Int) == 0) = false := beq_eq_false_iff_ne.mpr c3
      have c3b1 : ((a0.size : Int) != 0) = true := bne_iff_ne.mpr c3
      (first | rw [c3b0] | (simp only [i64_w, i32_w]; rw [c3b0]) | skip)
      by_cases c4 : (a0.size : Int) > 16
      · rw [if_pos c4] at H
        have c4b0 : decide (16 < (a0.size : Int)) = true := decide_eq_true c4
        have c4b1 : decide (16 < a0.size) = true := decide_eq_true (by omega)
        clear c4
        have H' := Aside0.mk H
        clear H
        go_wp2
        go_meet
        case rel => exact ⟨_, (true), (by first | rfl | (simp; done) | (simp [*]; done)), H', ⟨by first | omega | exact Nat.le_refl _⟩, ⟨by repeat (first | (with_reducible first | exact HB.out | apply below_alloc | apply pw_below_drewN | apply below_drew1) | exact HB.out)⟩⟩
      · rw [if_neg c4] at H
        have c4b0 : decide (16 < (a0.size : Int)) = false := decide_eq_false c4
        have c4b1 : decide (16 < a0.size) = false := decide_eq_false (by omega)
        clear c4
        by_cases c5 : 0 < (a0.size : Int)
        · rw [if_pos c5] at H
          have c5b0 : decide (0 < (a0.size : Int)) = true := decide_eq_true c5
          have c5b1 : decide (0 < a0.size) = true := decide_eq_true (by omega)
          clear c5
          by_cases c7 : (bt a0 0) = 45
          · rw [if_pos c7] at H
            have c7b0 : ((bt a0 0) == 45) = true := beq_iff_eq.mpr c7
            have c7b1 : ((bt a0 0) != 45) = false := bne_eq_false_iff_eq.mpr c7
            clear c7
            have H' := Aside0.mk H
            clear H
            have p6 : 0 ≤ (0 : Int) := (by omega)
            have q6 : 0 < a0.size := (by have : (0 : Int) < (a0.size : Int) := of_decide_eq_true (by first | (with_reducible assumption) | assumption); omega)
            have hx6 : ∀ h : 0 < a0.size, ((a0[0]'h).toNat : Int) = bt a0 0 := bt_at a0 0
            clear p6
            have qi6 : (0 < (a0.size : Int)) = True := eq_true (of_decide_eq_true (by first | (with_reducible assumption) | assumption))
            replace q6 := eq_true q6
            go_wp2
            go_meet
            case rel => exact ⟨_, (true), (by first | rfl | (simp; done) | (simp [*]; done)), H', ⟨by first | omega | exact Nat.le_refl _⟩, ⟨by repeat (first | (with_reducible first | exact HB.out | apply below_alloc | apply pw_below_drewN | apply below_drew1) | exact HB.out)⟩⟩
          · rw [if_neg c7] at H
            have c7b0 : ((bt a0 0) == 45) = false := beq_eq_false_iff_ne.mpr c7
            have c7b1 : ((bt a0 0) != 45) = true := bne_iff_ne.mpr c7
            obtain ⟨ji8, hji8⟩ : ∃ j_ : Int, (wrap64 ((a0.size : Int) - 1)) = j_ := ⟨_, rfl⟩
            replace H : (if 0 ≤ (ji8) then (if (ji8) < (a0.size : Int) then (backhaulref01_Fold.j0 k a0 ((bt a0 (ji8)) == 45)) else (none)) else (none)) = some (r1, r2) := by first | (rw [hji8] at H; exact H) | (simp only [hji8] at H ⊢; exact H)
            have hji8w : (IntKind.i64.wrap ((a0.size : Int) - 1)) = ji8 := (i64_w _).trans hji8
            by_cases c9 : 0 ≤ (ji8)
            · rw [if_pos c9] at H
              have c9b0 : decide (0 ≤ (ji8)) = true := decide_eq_true c9
              clear c9
              by_cases c10 : (ji8) < (a0.size : Int)
              · rw [if_pos c10] at H
                have c10b0 : decide ((ji8) < (a0.size : Int)) = true := decide_eq_true c10
                clear c10
                have H' := Aside0.mk H
                clear H
                have p6 : 0 ≤ (0 : Int) := (by omega)
                have q6 : 0 < a0.size := (by have : (0 : Int) < (a0.size : Int) := of_decide_eq_true (by first | (with_reducible assumption) | assumption); omega)
                have hx6 : ∀ h : 0 < a0.size, ((a0[0]'h).toNat : Int) = bt a0 0 := bt_at a0 0
                clear p6
                have qi6 : (0 < (a0.size : Int)) = True := eq_true (of_decide_eq_true (by first | (with_reducible assumption) | assumption))
                replace q6 := eq_true q6
                have p11 : 0 ≤ ((ji8) : Int) := of_decide_eq_true (by first | (with_reducible assumption) | assumption)
                have q11 : (ji8) < (a0.size : Int) := of_decide_eq_true (by first | (with_reducible assumption) | assumption)
                have hx11 := bt_at a0 (ji8)
                replace p11 := eq_true p11
                replace q11 := eq_true q11
                go_wp2
                go_meet
                case rel => exact ⟨_, (((bt a0 (ji8)) == 45)), (by first | rfl | (simp; done) | (simp only [← hji8] <;> (first | rfl | simp)) | (simp [*]; done)), H', ⟨by first | omega | exact Nat.le_refl _⟩, ⟨by repeat (first | (with_reducible first | exact HB.out | apply below_alloc | apply pw_below_drewN | apply below_drew1) | exact HB.out)⟩⟩
              · rw [if_neg c10] at H
                exact absurd H (by simp)
            · rw [if_neg c9] at H
              exact absurd H (by simp)
        · rw [if_neg c5] at H
          exact absurd H (by simp)
  case rest =>
    clear HC2
    try clear c1
    try clear p1
    try clear q1
    try clear hx1
    try clear p2
    try clear c3
    try clear c3b0
    try clear c3b1
    try clear c4
    try clear c4b0
    try clear c4b1
    try clear c5
    try clear c5b0
    try clear c5b1
    try clear p6
    try clear q6
    try clear hx6
    try clear qi6
    try clear c7
    try clear c7b0
    try clear c7b1
    try clear c9
    try clear c9b0
    try clear c10
    try clear c10b0
    try clear p11
    try clear q11
    try clear hx11
    try clear p11
    try clear p6
    try clear q11
    try clear q6
    obtain ⟨kq, x27_1, rfl, HA, HJ1, HB⟩ := hcut
    cases kq with
    | zero => exact absurd HA.out (by simp [backhaulref01_Fold.j0])
    | succ kj1 =>
      have H := HA.out
      clear HA
      simp only [backhaulref01_Fold.j0] at H
      by_cases c12 : x27_1 = true
      · subst c12
        have H1 : (some ((⟨#[]⟩ : ByteArray), 9)) = some (r1, r2) := by first | (rw [if_pos rfl] at H; exact H) | rfl
        clear H
        have H := H1
        clear H1
        simp only [Option.some.injEq, Prod.mk.injEq] at H
        obtain ⟨rfl, rfl⟩ := H
        go_wp2
        go_ret2
        exact ⟨by first | rfl | (simp [errW_none, errW_some] <;> rfl) | (simp [*, errW_none, errW_some] <;> rfl), by repeat (first | (with_reducible first | exact HB.out | apply below_alloc | apply pw_below_drewN | apply below_drew1) | exact HB.out)⟩
      · replace c12 := Bool.eq_false_iff.mpr c12
        subst c12
        have H1 : (backhaulref01_Fold.l0 kj1 a0 ([] : List Int) 0) = some (r1, r2) := by first | (rw [if_neg (show ¬ (false = true) by decide)] at H; exact H) | rfl
        clear H
        have H := H1
        clear H1
        have H' := Aside0.mk H
        clear H
        go_wp2
        go_loopg [4, 5] kj1 (fun kq v4 v5 w' => ∃ (x4_2 : List Int) (x5_2 : Int), v5 = .int .i64 x5_2 ∧ Aside0 (backhaulref01_Fold.l0 kq a0 x4_2 x5_2 = some (r1, r2)) ∧ Aside0 (kq ≤ kj1) ∧ Aside0 (Kd.R (Kd.int .u8) 5 w' w.heap.size (fun _ => True) v4 x4_2) ∧ Aside0 (Below w.heap.size w w'))
        case atStart => exact ⟨(([] : List Int)), (0), (by first | rfl | (simp; done) | (simp [*]; done)), H', ⟨Nat.le_refl _⟩, ⟨by first | exact Kd.R_nil _ _ _ _ _ | exact Kd.N_nil _ _ _ _ _ | exact Kd.V_nil _ _ _ _ _ | exact Kd.Q_nil _ _ _ _ _ | exact Kd.S_nil _ _ _ _ _⟩, ⟨by repeat (first | (with_reducible first | exact HB.out | apply below_alloc | apply pw_below_drewN | apply below_drew1) | exact HB.out)⟩⟩
        case round =>
          clear H'
          try clear c1
          try clear p1
          try clear q1
          try clear hx1
          try clear p2
          try clear c3
          try clear c3b0
          try clear c3b1
          try clear c4
          try clear c4b0
          try clear c4b1
          try clear c5
          try clear c5b0
          try clear c5b1
          try clear p6
          try clear q6
          try clear hx6
          try clear qi6
          try clear c7
          try clear c7b0
          try clear c7b1
          try clear c9
          try clear c9b0
          try clear c10
          try clear c10b0
          try clear p11
          try clear q11
          try clear hx11
          try clear c12
          try clear p1
          try clear p11
          try clear p2
          try clear p6
          try clear q1
          try clear q11
          try clear q6
          obtain ⟨x4_2, x5_2, rfl, HA, HK2, HO_4, HB⟩ := hrel
          cases gk with
          | zero => exact absurd HA.out (by simp [backhaulref01_Fold.l0])
          | succ k2 =>
            have H := HA.out
            clear HA
            simp only [backhaulref01_Fold.l0] at H
            by_cases c13 : x5_2 < (a0.size : Int)
            · rw [if_pos c13] at H
              have c13b0 : decide (x5_2 < (a0.size : Int)) = true := decide_eq_true c13
              clear c13
              by_cases c14 : 0 ≤ x5_2
              · rw [if_pos c14] at H
                have c14b0 : decide (0 ≤ x5_2) = true := decide_eq_true c14
                clear c14
                have HC16 := Aside0.mk H
                clear H
                have p15 : 0 ≤ (x5_2 : Int) := of_decide_eq_true (by first | (with_reducible assumption) | assumption)
                have q15 : x5_2 < (a0.size : Int) := of_decide_eq_true (by first | (with_reducible assumption) | assumption)
                have hx15 := bt_at a0 x5_2
                replace p15 := eq_true p15
                replace q15 := eq_true q15
                go_upto_region 8 with (fail)
                go_cut [51] (fun v51 wc => ∃ (kq : Nat) (x51_15 : Bool), v51 = .bool x51_15 ∧ Aside0 (backhaulref01_Fold.j2 kq a0 x4_2 x5_2 (bt a0 x5_2) x51_15 = some (r1, r2)) ∧ Aside0 (kq ≤ k2) ∧ Aside0 (Kd.R (Kd.int .u8) 5 wc w.heap.size (fun _ => True) u4 x4_2) ∧ Aside0 (Below w.heap.size w wc))
                case first =>
                  have H := HC16.out
                  clear HC16
                  replace H := Option.bind_eq_some_iff.mp H
                  obtain ⟨t606, A170, H⟩ := H
                  replace H : (if t606 = 0 then (backhaulref01_Fold.j2 k2 a0 x4_2 x5_2 (bt a0 x5_2) true) else (if (bt a0 x5_2) = 45 then (if 0 ≤ (wrap64 (x5_2 - 1)) then (if (wrap64 (x5_2 - 1)) < (a0.size : Int) then (backhaulref01_Fold.j2 k2 a0 x4_2 x5_2 (bt a0 x5_2) ((bt a0 (wrap64 (x5_2 - 1))) == 45)) else (none)) else (none)) else (backhaulref01_Fold.j2 k2 a0 x4_2 x5_2 (bt a0 x5_2) false))) = some (r1, r2) := H
                  have A17 := Aside0.mk A170
                  clear A170
                  by_cases c18 : t606 = 0
                  · rw [if_pos c18] at H
                    have c18b0 : (t606 == 0) = true := beq_iff_eq.mpr c18
                    have c18b1 : (t606 != 0) = false := bne_eq_false_iff_eq.mpr c18
                    clear c18
                    (first | rw [c18b0] | (simp only [i64_w, i32_w]; rw [c18b0]) | skip)
                    have H' := Aside0.mk H
                    clear H
                    go_wp2_with (first | ((with_reducible refine gate_callee (f := 50) rfl ?_); refine goesL_ (some 39) rfl rfl Try.func50 (by kernel_rfl) rfl #[.int .i32 (wrap32 (bt a0 x5_2))] rfl (by (try simp only [List.map_toArray, List.map_cons, List.map_nil]); first | done | rfl | (simp only [List.length_drop, List.length_take]; rfl)) ?_; (with_reducible refine (backhaulref01_Class.calls k2 (wrap32 (bt a0 x5_2)) t606 _ A17.out).mono ?_); rintro e w' ⟨rfl, ⟨nd, rfl⟩⟩; refine ⟨_, rfl, ?_⟩))
                    go_meet
                    case rel => exact ⟨_, (true), (by first | rfl | (simp; done) | (simp [*]; done)), H', ⟨by have := HJ1.out; have := HK2.out; first | omega | exact Nat.le_refl _⟩, ⟨by (with_reducible repeat (first | apply Kd.R_alloc | apply Kd.R_drewN | apply Kd.R_drew)); exact HO_4.out⟩, ⟨by repeat (first | (with_reducible first | exact HB.out | apply below_alloc | apply pw_below_drewN | apply below_drew1) | exact HB.out)⟩⟩
                  · rw [if_neg c18] at H
                    have c18b0 : (t606 == 0) = false := beq_eq_false_iff_ne.mpr c18
                    have c18b1 : (t606 != 0) = true := bne_iff_ne.mpr c18
                    (first | rw [c18b0] | (simp only [i64_w, i32_w]; rw [c18b0]) | skip)
                    by_cases c19 : (bt a0 x5_2) = 45
                    · rw [if_pos c19] at H
                      have c19b0 : ((bt a0 x5_2) == 45) = true := beq_iff_eq.mpr c19
                      have c19b1 : ((bt a0 x5_2) != 45) = false := bne_eq_false_iff_eq.mpr c19
                      clear c19
                      obtain ⟨ji20, hji20⟩ : ∃ j_ : Int, (wrap64 (x5_2 - 1)) = j_ := ⟨_, rfl⟩
                      replace H : (if 0 ≤ (ji20) then (if (ji20) < (a0.size : Int) then (backhaulref01_Fold.j2 k2 a0 x4_2 x5_2 (bt a0 x5_2) ((bt a0 (ji20)) == 45)) else (none)) else (none)) = some (r1, r2) := by first | (rw [hji20] at H; exact H) | (simp only [hji20] at H ⊢; exact H)
                      (try rw [hji20] at A17)
                      have hji20w : (IntKind.i64.wrap (x5_2 - 1)) = ji20 := (i64_w _).trans hji20
                      by_cases c21 : 0 ≤ (ji20)
                      · rw [if_pos c21] at H
                        have c21b0 : decide (0 ≤ (ji20)) = true := decide_eq_true c21
                        clear c21
                        by_cases c22 : (ji20) < (a0.size : Int)
                        · rw [if_pos c22] at H
                          have c22b0 : decide ((ji20) < (a0.size : Int)) = true := decide_eq_true c22
                          clear c22
                          have H' := Aside0.mk H
                          clear H
                          go_wp2_with (first | ((with_reducible refine gate_callee (f := 50) rfl ?_); refine goesL_ (some 39) rfl rfl Try.func50 (by kernel_rfl) rfl #[.int .i32 (wrap32 (bt a0 x5_2))] rfl (by (try simp only [List.map_toArray, List.map_cons, List.map_nil]); first | done | rfl | (simp only [List.length_drop, List.length_take]; rfl)) ?_; (with_reducible refine (backhaulref01_Class.calls k2 (wrap32 (bt a0 x5_2)) t606 _ A17.out).mono ?_); rintro e w' ⟨rfl, ⟨nd, rfl⟩⟩; refine ⟨_, rfl, ?_⟩; have p23 : 0 ≤ ((ji20) : Int) := of_decide_eq_true (by first | (with_reducible assumption) | assumption); have q23 : (ji20) < (a0.size : Int) := of_decide_eq_true (by first | (with_reducible assumption) | assumption); have hx23 := bt_at a0 (ji20); replace p23 := eq_true p23; replace q23 := eq_true q23))
                          go_meet
                          case rel => exact ⟨_, (((bt a0 (ji20)) == 45)), (by first | rfl | (simp; done) | (simp only [← hji20] <;> (first | rfl | simp)) | (simp [*]; done)), H', ⟨by have := HJ1.out; have := HK2.out; first | omega | exact Nat.le_refl _⟩, ⟨by (with_reducible repeat (first | apply Kd.R_alloc | apply Kd.R_drewN | apply Kd.R_drew)); exact HO_4.out⟩, ⟨by repeat (first | (with_reducible first | exact HB.out | apply below_alloc | apply pw_below_drewN | apply below_drew1) | exact HB.out)⟩⟩
                        · rw [if_neg c22] at H
                          exact absurd H (by simp)
                      · rw [if_neg c21] at H
                        exact absurd H (by simp)
                    · rw [if_neg c19] at H
                      have c19b0 : ((bt a0 x5_2) == 45) = false := beq_eq_false_iff_ne.mpr c19
                      have c19b1 : ((bt a0 x5_2) != 45) = true := bne_iff_ne.mpr c19
                      have H' := Aside0.mk H
                      clear H
                      go_wp2_with (first | ((with_reducible refine gate_callee (f := 50) rfl ?_); refine goesL_ (some 39) rfl rfl Try.func50 (by kernel_rfl) rfl #[.int .i32 (wrap32 (bt a0 x5_2))] rfl (by (try simp only [List.map_toArray, List.map_cons, List.map_nil]); first | done | rfl | (simp only [List.length_drop, List.length_take]; rfl)) ?_; (with_reducible refine (backhaulref01_Class.calls k2 (wrap32 (bt a0 x5_2)) t606 _ A17.out).mono ?_); rintro e w' ⟨rfl, ⟨nd, rfl⟩⟩; refine ⟨_, rfl, ?_⟩))
                      go_meet
                      case rel => exact ⟨_, (false), (by first | rfl | (simp; done) | (simp [*]; done)), H', ⟨by have := HJ1.out; have := HK2.out; first | omega | exact Nat.le_refl _⟩, ⟨by (with_reducible repeat (first | apply Kd.R_alloc | apply Kd.R_drewN | apply Kd.R_drew)); exact HO_4.out⟩, ⟨by repeat (first | (with_reducible first | exact HB.out | apply below_alloc | apply pw_below_drewN | apply below_drew1) | exact HB.out)⟩⟩
                case rest =>
                  clear HC16
                  try clear c1
                  try clear p1
                  try clear q1
                  try clear hx1
                  try clear c2
                  try clear p2
                  try clear q2
                  try clear hx2
                  try clear c3
                  try clear c3b0
                  try clear c3b1
                  try clear p3
                  try clear c4
                  try clear c4b0
                  try clear c4b1
                  try clear c5
                  try clear c5b0
                  try clear c5b1
                  try clear p6
                  try clear q6
                  try clear hx6
                  try clear qi6
                  try clear c7
                  try clear c7b0
                  try clear c7b1
                  try clear c9
                  try clear c9b0
                  try clear c10
                  try clear c10b0
                  try clear p11
                  try clear q11
                  try clear hx11
                  try clear c12
                  try clear c13
                  try clear c13b0
                  try clear c14
                  try clear c14b0
                  try clear p15
                  try clear q15
                  try clear hx15
                  try clear c18
                  try clear c18b0
                  try clear c18b1
                  try clear c19
                  try clear c19b0
                  try clear c19b1
                  try clear c21
                  try clear c21b0
                  try clear c22
                  try clear c22b0
                  try clear p23
                  try clear q23
                  try clear hx23
                  try clear p1
                  try clear p11
                  try clear p15
                  try clear p2
                  try clear p23
                  try clear p6
                  try clear q1
                  try clear q11
                  try clear q15
                  try clear q23
                  try clear q6
                  obtain ⟨kq, x51_15, rfl, HA, HJ15, HO_4, HB⟩ := hcut
                  cases kq with
                  | zero => exact absurd HA.out (by simp [backhaulref01_Fold.j2])
                  | succ kj15 =>
                    have H := HA.out
                    clear HA
                    simp only [backhaulref01_Fold.j2] at H
                    by_cases c24 : x51_15 = true
                    · subst c24
                      have H1 : (some ((⟨#[]⟩ : ByteArray), 9)) = some (r1, r2) := by first | (rw [if_pos rfl] at H; exact H) | rfl
                      clear H
                      have H := H1
                      clear H1
                      simp only [Option.some.injEq, Prod.mk.injEq] at H
                      obtain ⟨rfl, rfl⟩ := H
                      go_wp2
                      go_ret2
                      exact ⟨by first | rfl | (simp [errW_none, errW_some] <;> rfl) | (simp [*, errW_none, errW_some] <;> rfl), by repeat (first | (with_reducible first | exact HB.out | apply below_alloc | apply pw_below_drewN | apply below_drew1) | exact HB.out)⟩
                    · replace c24 := Bool.eq_false_iff.mpr c24
                      subst c24
                      have H1 : (if (bt a0 x5_2) ≥ 97 then (if (bt a0 x5_2) ≤ 122 then (if x4_2.length < 140737488355328 then (backhaulref01_Fold.l0 kj15 a0 (x4_2 ++ [((bt a0 x5_2) - 32) % 256]) (wrap64 (x5_2 + 1))) else (none)) else (if x4_2.length < 140737488355328 then (backhaulref01_Fold.l0 kj15 a0 (x4_2 ++ [(bt a0 x5_2)]) (wrap64 (x5_2 + 1))) else (none))) else (if x4_2.length < 140737488355328 then (backhaulref01_Fold.l0 kj15 a0 (x4_2 ++ [(bt a0 x5_2)]) (wrap64 (x5_2 + 1))) else (none))) = some (r1, r2) := by first | (rw [if_neg (show ¬ (false = true) by decide)] at H; exact H) | rfl
                      clear H
                      have H := H1
                      clear H1
                      by_cases c25 : (bt a0 x5_2) ≥ 97
                      · rw [if_pos c25] at H
                        have c25b0 : decide (97 ≤ (bt a0 x5_2)) = true := decide_eq_true c25
                        clear c25
                        by_cases c26 : (bt a0 x5_2) ≤ 122
                        · rw [if_pos c26] at H
                          have c26b0 : decide ((bt a0 x5_2) ≤ 122) = true := decide_eq_true c26
                          clear c26
                          by_cases c27 : x4_2.length < 140737488355328
                          · rw [if_pos c27] at H
                            have LMc27 := Aside0.mk c27
                            clear c27
                            obtain ⟨y607, hy607⟩ : ∃ y_ : List Int, y_ = (x4_2 ++ [((bt a0 x5_2) - 32) % 256]) := ⟨_, rfl⟩
                            replace H : (backhaulref01_Fold.l0 kj15 a0 y607 (wrap64 (x5_2 + 1))) = some (r1, r2) := by first | (rw [hy607]; with_reducible exact H) | (have H2_ := (Option.bind_some _ _).symm.trans H; rw [hy607]; with_reducible exact H2_) | (have H2_ := (Option.bind_some _ _).symm.trans H; with_reducible exact H2_) | with_reducible exact H | (rw [hy607]; exact H) | exact H
                            have Ny607 := Aside0.mk hy607
                            clear hy607
                            have H' := Aside0.mk H
                            clear H
                            go_wp2_with (first | ((with_reducible refine gate_builtin (b := .append) (xs := #[.tmp 60, .tmp 62]) rfl ?_); (try (refine gate_guard (by rfl) ?_; dsimp only)); at_builtin; refine Kd.R_append (Kd.int .u8) (w0 := w) w.heap.size rfl (.tmp 60) (.tmp 62) 92 5 (.int .u8 0) 1 rfl Try.underlying92 info5 rfl (by decide) (by omega) u4 x4_2 (((bt a0 x5_2) - 32) % 256) [.int .u8 (((bt a0 x5_2) - 32) % 256)] (fun _ => True) (fun _ => False) rfl rfl ?aP (fun _ hk => hk.elim) ?aF ?aO ?aB ?aS ?aL ?_; (case aP => exact rfl); (case aB => exact (by repeat (first | (with_reducible first | exact HB.out | apply below_alloc | apply pw_below_drewN | apply below_drew1) | exact HB.out))); (case aF => exact (fun _ _ => trivial)); (case aO => exact (by (with_reducible repeat (first | apply Kd.R_alloc | apply Kd.R_drewN | apply Kd.R_drew)); exact HO_4.out)); (case aS => exact (below_size (by repeat (first | (with_reducible first | exact HB.out | apply below_alloc | apply pw_below_drewN | apply below_drew1) | exact HB.out)))); (case aL => have := LMc27.out; omega); intro v608 w28 ho hb hg hat; rw [← Ny607.out] at ho; have n0_ := Aside0.mk (hb); have n1_ := Aside0.mk (ho); clear HB; clear HO_4; have HB := n0_; have HO609 := n1_; clear n0_ n1_; clear ho hb hg hat))
                            go_roundg kj15
                            case measure => have := HJ1.out; have := HK2.out; have := HJ15.out; omega
                            case rel => exact ⟨(y607), (wrap64 (x5_2 + 1)), (by first | rfl | (simp; done) | (simp [*]; done)), H', ⟨by have := HJ1.out; have := HK2.out; have := HJ15.out; omega⟩, ⟨by (with_reducible repeat (first | apply Kd.R_alloc | apply Kd.R_drewN | apply Kd.R_drew)); exact HO609.out⟩, ⟨by repeat (first | (with_reducible first | exact HB.out | apply below_alloc | apply pw_below_drewN | apply below_drew1) | exact HB.out)⟩⟩
                          · rw [if_neg c27] at H
                            exact absurd H (by simp)
                        · rw [if_neg c26] at H
                          have c26b0 : decide ((bt a0 x5_2) ≤ 122) = false := decide_eq_false c26
                          clear c26
                          by_cases c29 : x4_2.length < 140737488355328
                          · rw [if_pos c29] at H
                            have LMc29 := Aside0.mk c29
                            clear c29
                            obtain ⟨y610, hy610⟩ : ∃ y_ : List Int, y_ = (x4_2 ++ [(bt a0 x5_2)]) := ⟨_, rfl⟩
                            replace H : (backhaulref01_Fold.l0 kj15 a0 y610 (wrap64 (x5_2 + 1))) = some (r1, r2) := by first | (rw [hy610]; with_reducible exact H) | (have H2_ := (Option.bind_some _ _).symm.trans H; rw [hy610]; with_reducible exact H2_) | (have H2_ := (Option.bind_some _ _).symm.trans H; with_reducible exact H2_) | with_reducible exact H | (rw [hy610]; exact H) | exact H
                            have Ny610 := Aside0.mk hy610
                            clear hy610
                            have H' := Aside0.mk H
                            clear H
                            go_wp2_with (first | ((with_reducible refine gate_builtin (b := .append) (xs := #[.tmp 60, .tmp 62]) rfl ?_); (try (refine gate_guard (by rfl) ?_; dsimp only)); at_builtin; refine Kd.R_append (Kd.int .u8) (w0 := w) w.heap.size rfl (.tmp 60) (.tmp 62) 92 5 (.int .u8 0) 1 rfl Try.underlying92 info5 rfl (by decide) (by omega) u4 x4_2 (bt a0 x5_2) [.int .u8 (bt a0 x5_2)] (fun _ => True) (fun _ => False) rfl rfl ?aP (fun _ hk => hk.elim) ?aF ?aO ?aB ?aS ?aL ?_; (case aP => exact rfl); (case aB => exact (by repeat (first | (with_reducible first | exact HB.out | apply below_alloc | apply pw_below_drewN | apply below_drew1) | exact HB.out))); (case aF => exact (fun _ _ => trivial)); (case aO => exact (by (with_reducible repeat (first | apply Kd.R_alloc | apply Kd.R_drewN | apply Kd.R_drew)); exact HO_4.out)); (case aS => exact (below_size (by repeat (first | (with_reducible first | exact HB.out | apply below_alloc | apply pw_below_drewN | apply below_drew1) | exact HB.out)))); (case aL => have := LMc29.out; omega); intro v611 w30 ho hb hg hat; rw [← Ny610.out] at ho; have n0_ := Aside0.mk (hb); have n1_ := Aside0.mk (ho); clear HB; clear HO_4; have HB := n0_; have HO612 := n1_; clear n0_ n1_; clear ho hb hg hat))
                            go_roundg kj15
                            case measure => have := HJ1.out; have := HK2.out; have := HJ15.out; omega
                            case rel => exact ⟨(y610), (wrap64 (x5_2 + 1)), (by first | rfl | (simp; done) | (simp [*]; done)), H', ⟨by have := HJ1.out; have := HK2.out; have := HJ15.out; omega⟩, ⟨by (with_reducible repeat (first | apply Kd.R_alloc | apply Kd.R_drewN | apply Kd.R_drew)); exact HO612.out⟩, ⟨by repeat (first | (with_reducible first | exact HB.out | apply below_alloc | apply pw_below_drewN | apply below_drew1) | exact HB.out)⟩⟩
                          · rw [if_neg c29] at H
                            exact absurd H (by simp)
                      · rw [if_neg c25] at H
                        have c25b0 : decide (97 ≤ (bt a0 x5_2)) = false := decide_eq_false c25
                        clear c25
                        by_cases c31 : x4_2.length < 140737488355328
                        · rw [if_pos c31] at H
                          have LMc31 := Aside0.mk c31
                          clear c31
                          obtain ⟨y613, hy613⟩ : ∃ y_ : List Int, y_ = (x4_2 ++ [(bt a0 x5_2)]) := ⟨_, rfl⟩
                          replace H : (backhaulref01_Fold.l0 kj15 a0 y613 (wrap64 (x5_2 + 1))) = some (r1, r2) := by first | (rw [hy613]; with_reducible exact H) | (have H2_ := (Option.bind_some _ _).symm.trans H; rw [hy613]; with_reducible exact H2_) | (have H2_ := (Option.bind_some _ _).symm.trans H; with_reducible exact H2_) | with_reducible exact H | (rw [hy613]; exact H) | exact H
                          have Ny613 := Aside0.mk hy613
                          clear hy613
                          have H' := Aside0.mk H
                          clear H
                          go_wp2_with (first | ((with_reducible refine gate_builtin (b := .append) (xs := #[.tmp 60, .tmp 62]) rfl ?_); (try (refine gate_guard (by rfl) ?_; dsimp only)); at_builtin; refine Kd.R_append (Kd.int .u8) (w0 := w) w.heap.size rfl (.tmp 60) (.tmp 62) 92 5 (.int .u8 0) 1 rfl Try.underlying92 info5 rfl (by decide) (by omega) u4 x4_2 (bt a0 x5_2) [.int .u8 (bt a0 x5_2)] (fun _ => True) (fun _ => False) rfl rfl ?aP (fun _ hk => hk.elim) ?aF ?aO ?aB ?aS ?aL ?_; (case aP => exact rfl); (case aB => exact (by repeat (first | (with_reducible first | exact HB.out | apply below_alloc | apply pw_below_drewN | apply below_drew1) | exact HB.out))); (case aF => exact (fun _ _ => trivial)); (case aO => exact (by (with_reducible repeat (first | apply Kd.R_alloc | apply Kd.R_drewN | apply Kd.R_drew)); exact HO_4.out)); (case aS => exact (below_size (by repeat (first | (with_reducible first | exact HB.out | apply below_alloc | apply pw_below_drewN | apply below_drew1) | exact HB.out)))); (case aL => have := LMc31.out; omega); intro v614 w32 ho hb hg hat; rw [← Ny613.out] at ho; have n0_ := Aside0.mk (hb); have n1_ := Aside0.mk (ho); clear HB; clear HO_4; have HB := n0_; have HO615 := n1_; clear n0_ n1_; clear ho hb hg hat))
                          go_roundg kj15
                          case measure => have := HJ1.out; have := HK2.out; have := HJ15.out; omega
                          case rel => exact ⟨(y613), (wrap64 (x5_2 + 1)), (by first | rfl | (simp; done) | (simp [*]; done)), H', ⟨by have := HJ1.out; have := HK2.out; have := HJ15.out; omega⟩, ⟨by (with_reducible repeat (first | apply Kd.R_alloc | apply Kd.R_drewN | apply Kd.R_drew)); exact HO615.out⟩, ⟨by repeat (first | (with_reducible first | exact HB.out | apply below_alloc | apply pw_below_drewN | apply below_drew1) | exact HB.out)⟩⟩
                        · rw [if_neg c31] at H
                          exact absurd H (by simp)
              · rw [if_neg c14] at H
                exact absurd H (by simp)
            · rw [if_neg c13] at H
              have c13b0 : decide (x5_2 < (a0.size : Int)) = false := decide_eq_false c13
              clear c13
              simp only [Option.some.injEq, Prod.mk.injEq] at H
              obtain ⟨rfl, rfl⟩ := H
              have hcv33 := own_string (P := Try.prog) Try.underlying92 Try.underlying5 Try.underlying9 (Kd.own_of_R HO_4.out)
              go_wp2
              go_ret2
              exact ⟨by first | rfl | (simp [errW_none, errW_some] <;> rfl) | (simp [*, errW_none, errW_some] <;> rfl), by repeat (first | (with_reducible first | exact HB.out | apply below_alloc | apply pw_below_drewN | apply below_drew1) | exact HB.out)⟩

end Go.Proofs.Ytabapiofkipkoaa.F

namespace Go.Proofs.Ytabapiofkipkoaa.F
open Go.RowKit Go.Proofs.YtabapiofkipkoaaX Go.Proofs.YtabapiofkipkoaaW.PrintWords Go.Proofs.YtabapiofkipkoaaW.PrintLast Go.Proofs.YtabapiofkipkoaaW.PrintMore
attribute [local go_sem] max2_int min2_int max_two min_two max_three min_three max_four min_four   -- for this text's walks alone
attribute [local go_sem high] str_geq str_leq str_gtr
set_option linter.unusedVariables false
set_option linter.unusedSimpArgs false

/-! ### backhaulref01_Check: function 59 -/
def backhaulref01_Check.f (k : Nat) (a0 : ByteArray) : Option (Int) := (backhaulref01_Fold.f k a0).bind fun bt616 => (if bt616.2 = 0 then (if bt616.1.toList = a0.toList then (some 0) else (some 9)) else (some 9))
theorem backhaulref01_Check.mono : ∀ a0 k, LeO (backhaulref01_Check.f k a0) (backhaulref01_Check.f (k + 1) a0) := by
  intro a0 k
  unfold backhaulref01_Check.f
  repeat' first
      | (with_reducible exact backhaulref01_Fold.mono _ _)
      | (with_reducible exact LeO.refl _)
      | (with_reducible exact LeO.none _)
      | (with_reducible refine LeO.ite ?_ ?_)
      | (with_reducible refine LeO.bind ?_ (fun _ => ?_))
      | exact backhaulref01_Fold.mono _ _
      | exact LeO.none _
      | refine LeO.ite ?_ ?_
      | refine LeO.bind ?_ (fun _ => ?_)
set_option maxHeartbeats 8000000 in
set_option maxRecDepth 100000 in
theorem backhaulref01_Check.calls (k : Nat) (a0 : ByteArray) (r : Int) (w : World) (h : backhaulref01_Check.f k a0 = some r) :
    Calls Try.prog 59 #[.string a0] w fun e w' => e = .returned (.int .i64 r) ∧ Below w.heap.size w w' := by
  have HB := Aside0.mk (Below.refl w.heap.size w)
  have H : ((backhaulref01_Fold.f k a0).bind fun bt616 => (if bt616.2 = 0 then (if bt616.1.toList = a0.toList then (some 0) else (some 9)) else (some 9))) = some r := h
  clear h
  replace H := Option.bind_eq_some_iff.mp H
  obtain ⟨⟨t616, t617⟩, A20, H⟩ := H
  replace H : (if t617 = 0 then (if t616.toList = a0.toList then (some 0) else (some 9)) else (some 9)) = some r := H
  have A2 := Aside0.mk A20
  clear A20
  by_cases c3 : t617 = 0
  · rw [if_pos c3] at H
    have c3b0 : (t617 == 0) = true := beq_iff_eq.mpr c3
    have c3b1 : (t617 != 0) = false := bne_eq_false_iff_eq.mpr c3
    clear c3
    by_cases c4 : t616.toList = a0.toList
    · rw [if_pos c4] at H
      have c4b0 : (t616.toList == a0.toList) = true := beq_iff_eq.mpr c4
      have c4b1 : (t616.toList != a0.toList) = false := bne_eq_false_iff_eq.mpr c4
      clear c4
      obtain rfl := Option.some.inj H
      go_enter Try.func59, Try.ntmps59
      go_wp2_with (first | ((with_reducible refine gate_callee (f := 55) rfl ?_); refine goesL_ (some 7) rfl rfl Try.func55 (by kernel_rfl) rfl #[.string a0] rfl (by (try simp only [List.map_toArray, List.map_cons, List.map_nil]); first | done | rfl | (simp only [List.length_drop, List.length_take]; rfl)) ?_; (with_reducible refine (backhaulref01_Fold.calls k a0 t616 t617 _ A2.out).mono ?_); rintro e w5 ⟨rfl, hb⟩; refine ⟨_, rfl, ?_⟩; have n0_ := Aside0.mk (below_step (by repeat (first | (with_reducible first | exact HB.out | apply below_alloc | apply pw_below_drewN | apply below_drew1) | exact HB.out)) hb); clear HB; have HB := n0_; clear n0_; (try clear hb); (try clear hb2); (try clear hk); (try clear hi)))
      go_ret
      exact ⟨by first | rfl | (simp [errW_none, errW_some] <;> rfl) | (simp [*, errW_none, errW_some] <;> rfl), by repeat (first | (with_reducible first | exact HB.out | apply below_alloc | apply pw_below_drewN | apply below_drew1) | exact HB.out)⟩
    · rw [if_neg c4] at H
      have c4b0 : (t616.toList == a0.toList) = false := beq_eq_false_iff_ne.mpr c4
      have c4b1 : (t616.toList != a0.toList) = true := bne_iff_ne.mpr c4
      obtain rfl := Option.some.inj H
      go_enter Try.func59, Try.ntmps59
      go_wp2_with (first | ((with_reducible refine gate_callee (f := 55) rfl ?_); refine goesL_ (some 7) rfl rfl Try.func55 (by kernel_rfl) rfl #[.string a0] rfl (by (try simp only [List.map_toArray, List.map_cons, List.map_nil]); first | done | rfl | (simp only [List.length_drop, List.length_take]; rfl)) ?_; (with_reducible refine (backhaulref01_Fold.calls k a0 t616 t617 _ A2.out).mono ?_); rintro e w6 ⟨rfl, hb⟩; refine ⟨_, rfl, ?_⟩; have n0_ := Aside0.mk (below_step (by repeat (first | (with_reducible first | exact HB.out | apply below_alloc | apply pw_below_drewN | apply below_drew1) | exact HB.out)) hb); clear HB; have HB := n0_; clear n0_; (try clear hb); (try clear hb2); (try clear hk); (try clear hi)))
      go_ret
      exact ⟨by first | rfl | (simp [errW_none, errW_some] <;> rfl) | (simp [*, errW_none, errW_some] <;> rfl), by repeat (first | (with_reducible first | exact HB.out | apply below_alloc | apply pw_below_drewN | apply below_drew1) | exact HB.out)⟩
  · rw [if_neg c3] at H
    have c3b0 : (t617 == 0) = false := beq_eq_false_iff_ne.mpr c3
    have c3b1 : (t617 != 0) = true := bne_iff_ne.mpr c3
    obtain rfl := Option.some.inj H
    go_enter Try.func59, Try.ntmps59
    go_wp2_with (first | ((with_reducible refine gate_callee (f := 55) rfl ?_); refine goesL_ (some 7) rfl rfl Try.func55 (by kernel_rfl) rfl #[.string a0] rfl (by (try simp only [List.map_toArray, List.map_cons, List.map_nil]); first | done | rfl | (simp only [List.length_drop, List.length_take]; rfl)) ?_; (with_reducible refine (backhaulref01_Fold.calls k a0 t616 t617 _ A2.out).mono ?_); rintro e w7 ⟨rfl, hb⟩; refine ⟨_, rfl, ?_⟩; have n0_ := Aside0.mk (below_step (by repeat (first | (with_reducible first | exact HB.out | apply below_alloc | apply pw_below_drewN | apply below_drew1) | exact HB.out)) hb); clear HB; have HB := n0_; clear n0_; (try clear hb); (try clear hb2); (try clear hk); (try clear hi)))
    go_ret
    exact ⟨by first | rfl | (simp [errW_none, errW_some] <;> rfl) | (simp [*, errW_none, errW_some] <;> rfl), by repeat (first | (with_reducible first | exact HB.out | apply below_alloc | apply pw_below_drewN | apply below_drew1) | exact HB.out)⟩

end Go.Proofs.Ytabapiofkipkoaa.F

namespace Go.Proofs.Ytabapiofkipkoaa.F
open Go.RowKit Go.Proofs.YtabapiofkipkoaaX Go.Proofs.YtabapiofkipkoaaW.PrintWords Go.Proofs.YtabapiofkipkoaaW.PrintLast Go.Proofs.YtabapiofkipkoaaW.PrintMore
attribute [local go_sem] max2_int min2_int max_two min_two max_three min_three max_four min_four   -- for this text's walks alone
attribute [local go_sem high] str_geq str_leq str_gtr
set_option linter.unusedVariables false
set_option linter.unusedSimpArgs false

/-! ### backhaulref01_Row: function 64 -/
def backhaulref01_Row.l0 : Nat → List ByteArray → Int → Option (Int)
  | 0, _, _ => none
  | k + 1, x0, x3 => if x3 < (x0.length : Int) then (if 0 ≤ x3 then ((backhaulref01_Check.f k (rdOf ByteArray.empty x0 x3)).bind fun t634 => (if t634 = 0 then (if x3 > 0 then (if 0 ≤ (wrap64 (x3 - 1)) then (if (wrap64 (x3 - 1)) < (x0.length : Int) then (if ((Op.bytesLess ((rdOf ByteArray.empty x0 (wrap64 (x3 - 1))).toList) ((rdOf ByteArray.empty x0 x3).toList)) = true) then (backhaulref01_Row.l0 k x0 (wrap64 (x3 + 1))) else (some 32)) else (none)) else (none)) else (backhaulref01_Row.l0 k x0 (wrap64 (x3 + 1)))) else (some 9))) else (none)) else (some 0)
def backhaulref01_Row.f (k : Nat) (l0 : List ByteArray) : Option (Int) := backhaulref01_Row.l0 k l0 0
theorem backhaulref01_Row.mono_l : ∀ k, (∀ y0 y1, LeO (backhaulref01_Row.l0 k y0 y1) (backhaulref01_Row.l0 (k + 1) y0 y1))
  | 0 => fun _ _ r h => by simp [backhaulref01_Row.l0] at h
  | k + 1 => by
    have ih0 := backhaulref01_Row.mono_l k
    · intro y0 y1
      unfold backhaulref01_Row.l0
      repeat' first
      | (with_reducible exact ih0 _ _)
      | (with_reducible exact backhaulref01_Check.mono _ _)
      | (with_reducible exact LeO.refl _)
      | (with_reducible exact LeO.none _)
      | (with_reducible refine LeO.ite ?_ ?_)
      | (with_reducible refine LeO.bind ?_ (fun _ => ?_))
      | exact ih0 _ _
      | exact backhaulref01_Check.mono _ _
      | exact LeO.none _
      | refine LeO.ite ?_ ?_
      | refine LeO.bind ?_ (fun _ => ?_)
theorem backhaulref01_Row.mono : ∀ a0 k, LeO (backhaulref01_Row.f k a0) (backhaulref01_Row.f (k + 1) a0) := by
  intro a0 k
  have ih0 := backhaulref01_Row.mono_l k
  unfold backhaulref01_Row.f
  repeat' first
      | (with_reducible exact ih0 _ _)
      | (with_reducible exact backhaulref01_Check.mono _ _)
      | (with_reducible exact LeO.refl _)
      | (with_reducible exact LeO.none _)
      | (with_reducible refine LeO.ite ?_ ?_)
      | (with_reducible refine LeO.bind ?_ (fun _ => ?_))
      | exact ih0 _ _
      | exact backhaulref01_Check.mono _ _
      | exact LeO.none _
      | refine LeO.ite ?_ ?_
      | refine LeO.bind ?_ (fun _ => ?_)
set_option maxHeartbeats 8000000 in
set_option maxRecDepth 100000 in
theorem backhaulref01_Row.calls (k : Nat) (A0 : Option Addr) (c0 : Nat) (l0 : List ByteArray) (r : Int) (w : World) (hr0 : Kd.C Kd.string w A0 l0.length l0) (hc0 : l0.length ≤ c0) (h : backhaulref01_Row.f k l0 = some r) :
    Calls Try.prog 64 #[.slice A0 l0.length c0] w fun e w' => e = .returned (.int .i64 r) ∧ Below w.heap.size w w' := by
  have HR0 := Aside0.mk hr0
  have HC0 := Aside0.mk hc0
  clear hr0 hc0
  have HB := Aside0.mk (Below.refl w.heap.size w)
  have H : (backhaulref01_Row.l0 k l0 0) = some r := h
  clear h
  have H' := Aside0.mk H
  clear H
  go_enter Try.func64, Try.ntmps64
  go_wp2
  repeat (go_quiet (fail); try go_wp2)
  go_loopg [3] k (fun kq v3 w' => ∃ (x3_1 : Int), v3 = .int .i64 x3_1 ∧ Aside0 (backhaulref01_Row.l0 kq l0 x3_1 = some r) ∧ Aside0 (kq ≤ k) ∧ Aside0 (Below w.heap.size w w'))
  case atStart => exact ⟨(0), (by first | rfl | (simp; done) | (simp [*]; done)), H', ⟨Nat.le_refl _⟩, ⟨by repeat (first | (with_reducible first | exact HB.out | apply below_alloc | apply pw_below_drewN | apply below_drew1) | exact HB.out)⟩⟩
  case round =>
    clear H'
    obtain ⟨x3_1, rfl, HA, HK1, HB⟩ := hrel
    cases gk with
    | zero => exact absurd HA.out (by simp [backhaulref01_Row.l0])
    | succ k1 =>
      have H := HA.out
      clear HA
      simp only [backhaulref01_Row.l0] at H
      by_cases c2 : x3_1 < (l0.length : Int)
      · rw [if_pos c2] at H
        have c2b0 : decide (x3_1 < (l0.length : Int)) = true := decide_eq_true c2
        clear c2
        by_cases c3 : 0 ≤ x3_1
        · rw [if_pos c3] at H
          have c3b0 : decide (0 ≤ x3_1) = true := decide_eq_true c3
          clear c3
          replace H := Option.bind_eq_some_iff.mp H
          obtain ⟨t634, A40, H⟩ := H
          replace H : (if t634 = 0 then (if x3_1 > 0 then (if 0 ≤ (wrap64 (x3_1 - 1)) then (if (wrap64 (x3_1 - 1)) < (l0.length : Int) then (if ((Op.bytesLess ((rdOf ByteArray.empty l0 (wrap64 (x3_1 - 1))).toList) ((rdOf ByteArray.empty l0 x3_1).toList)) = true) then (backhaulref01_Row.l0 k1 l0 (wrap64 (x3_1 + 1))) else (some 32)) else (none)) else (none)) else (backhaulref01_Row.l0 k1 l0 (wrap64 (x3_1 + 1)))) else (some 9)) = some r := H
          have A4 := Aside0.mk A40
          clear A40
          by_cases c5 : t634 = 0
          · rw [if_pos c5] at H
            have c5b0 : (t634 == 0) = true := beq_iff_eq.mpr c5
            have c5b1 : (t634 != 0) = false := bne_eq_false_iff_eq.mpr c5
            clear c5
            by_cases c6 : x3_1 > 0
            · rw [if_pos c6] at H
              have c6b0 : decide (0 < x3_1) = true := decide_eq_true c6
              clear c6
              obtain ⟨ji7, hji7⟩ : ∃ j_ : Int, (wrap64 (x3_1 - 1)) = j_ := ⟨_, rfl⟩
              replace H : (if 0 ≤ (ji7) then (if (ji7) < (l0.length : Int) then (if ((Op.bytesLess ((rdOf ByteArray.empty l0 (ji7)).toList) ((rdOf ByteArray.empty l0 x3_1).toList)) = true) then (backhaulref01_Row.l0 k1 l0 (wrap64 (x3_1 + 1))) else (some 32)) else (none)) else (none)) = some r := by first | (rw [hji7] at H; exact H) | (simp only [hji7] at H ⊢; exact H)
              (try rw [hji7] at A4)
              have hji7w : (IntKind.i64.wrap (x3_1 - 1)) = ji7 := (i64_w _).trans hji7
              by_cases c8 : 0 ≤ (ji7)
              · rw [if_pos c8] at H
                have c8b0 : decide (0 ≤ (ji7)) = true := decide_eq_true c8
                clear c8
                by_cases c9 : (ji7) < (l0.length : Int)
                · rw [if_pos c9] at H
                  have c9b0 : decide ((ji7) < (l0.length : Int)) = true := decide_eq_true c9
                  clear c9
                  by_cases c10 : ((Op.bytesLess ((rdOf ByteArray.empty l0 (ji7)).toList) ((rdOf ByteArray.empty l0 x3_1).toList)) = true)
                  · rw [if_pos c10] at H
                    have c10b0 : (Op.bytesLess ((rdOf ByteArray.empty l0 (ji7)).toList) ((rdOf ByteArray.empty l0 x3_1).toList)) = true := c10
                    clear c10
                    have H' := Aside0.mk H
                    clear H
                    have p633 : 0 ≤ (x3_1 : Int) := of_decide_eq_true (by first | (with_reducible assumption) | assumption)
                    have q633 : x3_1 < (l0.length : Int) := of_decide_eq_true (by first | (with_reducible assumption) | assumption)
                    obtain ⟨ad633, e633, hx633_0⟩ := Kd.at_string HR0.out x3_1 p633 q633
                    cases e633
                    replace hx633_0 := (HB.out.cell (World.block_lt_of_cell? w _ hx633_0)).trans hx633_0
                    replace p633 := eq_true p633
                    replace q633 := eq_true q633
                    go_wp2_with (first | (go_at_call 59; (with_reducible refine (backhaulref01_Check.calls k1 (rdOf ByteArray.empty l0 x3_1) t634 _ A4.out).mono ?_); rintro e w11 ⟨rfl, hb⟩; have n0_ := Aside0.mk (below_step (by repeat (first | (with_reducible first | exact HB.out | apply below_alloc | apply pw_below_drewN | apply below_drew1) | exact HB.out)) hb); clear HB; have HB := n0_; clear n0_; (try clear hb); (try clear hb2); (try clear hk); (try clear hi); have p635 : 0 ≤ (x3_1 : Int) := of_decide_eq_true (by first | (with_reducible assumption) | assumption); have q635 : x3_1 < (l0.length : Int) := of_decide_eq_true (by first | (with_reducible assumption) | assumption); obtain ⟨ad635, e635, hx635_0⟩ := Kd.at_string HR0.out x3_1 p635 q635; obtain rfl : ad633 = ad635 := (by injection e635); replace hx635_0 := (HB.out.cell (World.block_lt_of_cell? w _ hx635_0)).trans hx635_0; replace p635 := eq_true p635; replace q635 := eq_true q635; have p636 : 0 ≤ ((ji7) : Int) := of_decide_eq_true (by first | (with_reducible assumption) | assumption); have q636 : (ji7) < (l0.length : Int) := of_decide_eq_true (by first | (with_reducible assumption) | assumption); obtain ⟨ad636, e636, hx636_0⟩ := Kd.at_string HR0.out (ji7) p636 q636; obtain rfl : ad633 = ad636 := (by injection e636); replace hx636_0 := (HB.out.cell (World.block_lt_of_cell? w _ hx636_0)).trans hx636_0; replace p636 := eq_true p636; replace q636 := eq_true q636))
                    repeat (go_quiet (first | (go_at_call 59; (with_reducible refine (backhaulref01_Check.calls k1 (rdOf ByteArray.empty l0 x3_1) t634 _ A4.out).mono ?_); rintro e w11 ⟨rfl, hb⟩; have n0_ := Aside0.mk (below_step (by repeat (first | (with_reducible first | exact HB.out | apply below_alloc | apply pw_below_drewN | apply below_drew1) | exact HB.out)) hb); clear HB; have HB := n0_; clear n0_; (try clear hb); (try clear hb2); (try clear hk); (try clear hi); have p635 : 0 ≤ (x3_1 : Int) := of_decide_eq_true (by first | (with_reducible assumption) | assumption); have q635 : x3_1 < (l0.length : Int) := of_decide_eq_true (by first | (with_reducible assumption) | assumption); obtain ⟨ad635, e635, hx635_0⟩ := Kd.at_string HR0.out x3_1 p635 q635; obtain rfl : ad633 = ad635 := (by injection e635); replace hx635_0 := (HB.out.cell (World.block_lt_of_cell? w _ hx635_0)).trans hx635_0; replace p635 := eq_true p635; replace q635 := eq_true q635; have p636 : 0 ≤ ((ji7) : Int) := of_decide_eq_true (by first | (with_reducible assumption) | assumption); have q636 : (ji7) < (l0.length : Int) := of_decide_eq_true (by first | (with_reducible assumption) | assumption); obtain ⟨ad636, e636, hx636_0⟩ := Kd.at_string HR0.out (ji7) p636 q636; obtain rfl : ad633 = ad636 := (by injection e636); replace hx636_0 := (HB.out.cell (World.block_lt_of_cell? w _ hx636_0)).trans hx636_0; replace p636 := eq_true p636; replace q636 := eq_true q636)); try go_wp2_with (first | (go_at_call 59; (with_reducible refine (backhaulref01_Check.calls k1 (rdOf ByteArray.empty l0 x3_1) t634 _ A4.out).mono ?_); rintro e w11 ⟨rfl, hb⟩; have n0_ := Aside0.mk (below_step (by repeat (first | (with_reducible first | exact HB.out | apply below_alloc | apply pw_below_drewN | apply below_drew1) | exact HB.out)) hb); clear HB; have HB := n0_; clear n0_; (try clear hb); (try clear hb2); (try clear hk); (try clear hi); have p635 : 0 ≤ (x3_1 : Int) := of_decide_eq_true (by first | (with_reducible assumption) | assumption); have q635 : x3_1 < (l0.length : Int) := of_decide_eq_true (by first | (with_reducible assumption) | assumption); obtain ⟨ad635, e635, hx635_0⟩ := Kd.at_string HR0.out x3_1 p635 q635; obtain rfl : ad633 = ad635 := (by injection e635); replace hx635_0 := (HB.out.cell (World.block_lt_of_cell? w _ hx635_0)).trans hx635_0; replace p635 := eq_true p635; replace q635 := eq_true q635; have p636 : 0 ≤ ((ji7) : Int) := of_decide_eq_true (by first | (with_reducible assumption) | assumption); have q636 : (ji7) < (l0.length : Int) := of_decide_eq_true (by first | (with_reducible assumption) | assumption); obtain ⟨ad636, e636, hx636_0⟩ := Kd.at_string HR0.out (ji7) p636 q636; obtain rfl : ad633 = ad636 := (by injection e636); replace hx636_0 := (HB.out.cell (World.block_lt_of_cell? w _ hx636_0)).trans hx636_0; replace p636 := eq_true p636; replace q636 := eq_true q636)))
                    go_roundg k1
                    case measure => have := HK1.out; omega
                    case rel => exact ⟨(wrap64 (x3_1 + 1)), (by first | rfl | (simp; done) | (simp [*]; done)), H', ⟨by have := HK1.out; omega⟩, ⟨by repeat (first | (with_reducible first | exact HB.out | apply below_alloc | apply pw_below_drewN | apply below_drew1) | exact HB.out)⟩⟩
                  · rw [if_neg c10] at H
                    have c10b0 : (Op.bytesLess ((rdOf ByteArray.empty l0 (ji7)).toList) ((rdOf ByteArray.empty l0 x3_1).toList)) = false := by simpa using c10
                    clear c10
                    obtain rfl := Option.some.inj H
                    have p633 : 0 ≤ (x3_1 : Int) := of_decide_eq_true (by first | (with_reducible assumption) | assumption)
                    have q633 : x3_1 < (l0.length : Int) := of_decide_eq_true (by first | (with_reducible assumption) | assumption)
                    obtain ⟨ad633, e633, hx633_0⟩ := Kd.at_string HR0.out x3_1 p633 q633
                    cases e633
                    replace hx633_0 := (HB.out.cell (World.block_lt_of_cell? w _ hx633_0)).trans hx633_0
                    replace p633 := eq_true p633
                    replace q633 := eq_true q633
                    go_wp2_with (first | (go_at_call 59; (with_reducible refine (backhaulref01_Check.calls k1 (rdOf ByteArray.empty l0 x3_1) t634 _ A4.out).mono ?_); rintro e w12 ⟨rfl, hb⟩; have n0_ := Aside0.mk (below_step (by repeat (first | (with_reducible first | exact HB.out | apply below_alloc | apply pw_below_drewN | apply below_drew1) | exact HB.out)) hb); clear HB; have HB := n0_; clear n0_; (try clear hb); (try clear hb2); (try clear hk); (try clear hi); have p635 : 0 ≤ (x3_1 : Int) := of_decide_eq_true (by first | (with_reducible assumption) | assumption); have q635 : x3_1 < (l0.length : Int) := of_decide_eq_true (by first | (with_reducible assumption) | assumption); obtain ⟨ad635, e635, hx635_0⟩ := Kd.at_string HR0.out x3_1 p635 q635; obtain rfl : ad633 = ad635 := (by injection e635); replace hx635_0 := (HB.out.cell (World.block_lt_of_cell? w _ hx635_0)).trans hx635_0; replace p635 := eq_true p635; replace q635 := eq_true q635; have p636 : 0 ≤ ((ji7) : Int) := of_decide_eq_true (by first | (with_reducible assumption) | assumption); have q636 : (ji7) < (l0.length : Int) := of_decide_eq_true (by first | (with_reducible assumption) | assumption); obtain ⟨ad636, e636, hx636_0⟩ := Kd.at_string HR0.out (ji7) p636 q636; obtain rfl : ad633 = ad636 := (by injection e636); replace hx636_0 := (HB.out.cell (World.block_lt_of_cell? w _ hx636_0)).trans hx636_0; replace p636 := eq_true p636; replace q636 := eq_true q636))
                    repeat (go_quiet (first | (go_at_call 59; (with_reducible refine (backhaulref01_Check.calls k1 (rdOf ByteArray.empty l0 x3_1) t634 _ A4.out).mono ?_); rintro e w12 ⟨rfl, hb⟩; have n0_ := Aside0.mk (below_step (by repeat (first | (with_reducible first | exact HB.out | apply below_alloc | apply pw_below_drewN | apply below_drew1) | exact HB.out)) hb); clear HB; have HB := n0_; clear n0_; (try clear hb); (try clear hb2); (try clear hk); (try clear hi); have p635 : 0 ≤ (x3_1 : Int) := of_decide_eq_true (by first | (with_reducible assumption) | assumption); have q635 : x3_1 < (l0.length : Int) := of_decide_eq_true (by first | (with_reducible assumption) | assumption); obtain ⟨ad635, e635, hx635_0⟩ := Kd.at_string HR0.out x3_1 p635 q635; obtain rfl : ad633 = ad635 := (by injection e635); replace hx635_0 := (HB.out.cell (World.block_lt_of_cell? w _ hx635_0)).trans hx635_0; replace p635 := eq_true p635; replace q635 := eq_true q635; have p636 : 0 ≤ ((ji7) : Int) := of_decide_eq_true (by first | (with_reducible assumption) | assumption); have q636 : (ji7) < (l0.length : Int) := of_decide_eq_true (by first | (with_reducible assumption) | assumption); obtain ⟨ad636, e636, hx636_0⟩ := Kd.at_string HR0.out (ji7) p636 q636; obtain rfl : ad633 = ad636 := (by injection e636); replace hx636_0 := (HB.out.cell (World.block_lt_of_cell? w _ hx636_0)).trans hx636_0; replace p636 := eq_true p636; replace q636 := eq_true q636)); try go_wp2_with (first | (go_at_call 59; (with_reducible refine (backhaulref01_Check.calls k1 (rdOf ByteArray.empty l0 x3_1) t634 _ A4.out).mono ?_); rintro e w12 ⟨rfl, hb⟩; have n0_ := Aside0.mk (below_step (by repeat (first | (with_reducible first | exact HB.out | apply below_alloc | apply pw_below_drewN | apply below_drew1) | exact HB.out)) hb); clear HB; have HB := n0_; clear n0_; (try clear hb); (try clear hb2); (try clear hk); (try clear hi); have p635 : 0 ≤ (x3_1 : Int) := of_decide_eq_true (by first | (with_reducible assumption) | assumption); have q635 : x3_1 < (l0.length : Int) := of_decide_eq_true (by first | (with_reducible assumption) | assumption); obtain ⟨ad635, e635, hx635_0⟩ := Kd.at_string HR0.out x3_1 p635 q635; obtain rfl : ad633 = ad635 := (by injection e635); replace hx635_0 := (HB.out.cell (World.block_lt_of_cell? w _ hx635_0)).trans hx635_0; replace p635 := eq_true p635; replace q635 := eq_true q635; have p636 : 0 ≤ ((ji7) : Int) := of_decide_eq_true (by first | (with_reducible assumption) | assumption); have q636 : (ji7) < (l0.length : Int) := of_decide_eq_true (by first | (with_reducible assumption) | assumption); obtain ⟨ad636, e636, hx636_0⟩ := Kd.at_string HR0.out (ji7) p636 q636; obtain rfl : ad633 = ad636 := (by injection e636); replace hx636_0 := (HB.out.cell (World.block_lt_of_cell? w _ hx636_0)).trans hx636_0; replace p636 := eq_true p636; replace q636 := eq_true q636)))
                    go_ret
                    exact ⟨by first | rfl | (simp [errW_none, errW_some] <;> rfl) | (simp only [← hji7]; first | rfl | (simp [errW_none, errW_some] <;> rfl)) | (simp [*, errW_none, errW_some] <;> rfl), by repeat (first | (with_reducible first | exact HB.out | apply below_alloc | apply pw_below_drewN | apply below_drew1) | exact HB.out)⟩
                · rw [if_neg c9] at H
                  exact absurd H (by simp)
              · rw [if_neg c8] at H
                exact absurd H (by simp)
            · rw [if_neg c6] at H
              have c6b0 : decide (0 < x3_1) = false := decide_eq_false c6
              clear c6
              have H' := Aside0.mk H
              clear H
              have p633 : 0 ≤ (x3_1 : Int) := of_decide_eq_true (by first | (with_reducible assumption) | assumption)
              have q633 : x3_1 < (l0.length : Int) := of_decide_eq_true (by first | (with_reducible assumption) | assumption)
              obtain ⟨ad633, e633, hx633_0⟩ := Kd.at_string HR0.out x3_1 p633 q633
              cases e633
              replace hx633_0 := (HB.out.cell (World.block_lt_of_cell? w _ hx633_0)).trans hx633_0
              replace p633 := eq_true p633
              replace q633 := eq_true q633
              go_wp2_with (first | (go_at_call 59; (with_reducible refine (backhaulref01_Check.calls k1 (rdOf ByteArray.empty l0 x3_1) t634 _ A4.out).mono ?_); rintro e w13 ⟨rfl, hb⟩; have n0_ := Aside0.mk (below_step (by repeat (first | (with_reducible first | exact HB.out | apply below_alloc | apply pw_below_drewN | apply below_drew1) | exact HB.out)) hb); clear HB; have HB := n0_; clear n0_; (try clear hb); (try clear hb2); (try clear hk); (try clear hi)))
              repeat (go_quiet (first | (go_at_call 59; (with_reducible refine (backhaulref01_Check.calls k1 (rdOf ByteArray.empty l0 x3_1) t634 _ A4.out).mono ?_); rintro e w13 ⟨rfl, hb⟩; have n0_ := Aside0.mk (below_step (by repeat (first | (with_reducible first | exact HB.out | apply below_alloc | apply pw_below_drewN | apply below_drew1) | exact HB.out)) hb); clear HB; have HB := n0_; clear n0_; (try clear hb); (try clear hb2); (try clear hk); (try clear hi))); try go_wp2_with (first | (go_at_call 59; (with_reducible refine (backhaulref01_Check.calls k1 (rdOf ByteArray.empty l0 x3_1) t634 _ A4.out).mono ?_); rintro e w13 ⟨rfl, hb⟩; have n0_ := Aside0.mk (below_step (by repeat (first | (with_reducible first | exact HB.out | apply below_alloc | apply pw_below_drewN | apply below_drew1) | exact HB.out)) hb); clear HB; have HB := n0_; clear n0_; (try clear hb); (try clear hb2); (try clear hk); (try clear hi))))
              go_roundg k1
              case measure => have := HK1.out; omega
              case rel => exact ⟨(wrap64 (x3_1 + 1)), (by first | rfl | (simp; done) | (simp [*]; done)), H', ⟨by have := HK1.out; omega⟩, ⟨by repeat (first | (with_reducible first | exact HB.out | apply below_alloc | apply pw_below_drewN | apply below_drew1) | exact HB.out)⟩⟩
          · rw [if_neg c5] at H
            have c5b0 : (t634 == 0) = false := beq_eq_false_iff_ne.mpr c5
            have c5b1 : (t634 != 0) = true := bne_iff_ne.mpr c5
            obtain rfl := Option.some.inj H
            have p633 : 0 ≤ (x3_1 : Int) := of_decide_eq_true (by first | (with_reducible assumption) | assumption)
            have q633 : x3_1 < (l0.length : Int) := of_decide_eq_true (by first | (with_reducible assumption) | assumption)
            obtain ⟨ad633, e633, hx633_0⟩ := Kd.at_string HR0.out x3_1 p633 q633
            cases e633
            replace hx633_0 := (HB.out.cell (World.block_lt_of_cell? w _ hx633_0)).trans hx633_0
            replace p633 := eq_true p633
            replace q633 := eq_true q633
            go_wp2_with (first | (go_at_call 59; (with_reducible refine (backhaulref01_Check.calls k1 (rdOf ByteArray.empty l0 x3_1) t634 _ A4.out).mono ?_); rintro e w14 ⟨rfl, hb⟩; have n0_ := Aside0.mk (below_step (by repeat (first | (with_reducible first | exact HB.out | apply below_alloc | apply pw_below_drewN | apply below_drew1) | exact HB.out)) hb); clear HB; have HB := n0_; clear n0_; (try clear hb); (try clear hb2); (try clear hk); (try clear hi)))
            repeat (go_quiet (first | (go_at_call 59; (with_reducible refine (backhaulref01_Check.calls k1 (rdOf ByteArray.empty l0 x3_1) t634 _ A4.out).mono ?_); rintro e w14 ⟨rfl, hb⟩; have n0_ := Aside0.mk (below_step (by repeat (first | (with_reducible first | exact HB.out | apply below_alloc | apply pw_below_drewN | apply below_drew1) | exact HB.out)) hb); clear HB; have HB := n0_; clear n0_; (try clear hb); (try clear hb2); (try clear hk); (try clear hi))); try go_wp2_with (first | (go_at_call 59; (with_reducible refine (backhaulref01_Check.calls k1 (rdOf ByteArray.empty l0 x3_1) t634 _ A4.out).mono ?_); rintro e w14 ⟨rfl, hb⟩; have n0_ := Aside0.mk (below_step (by repeat (first | (with_reducible first | exact HB.out | apply below_alloc | apply pw_below_drewN | apply below_drew1) | exact HB.out)) hb); clear HB; have HB := n0_; clear n0_; (try clear hb); (try clear hb2); (try clear hk); (try clear hi))))
            go_ret
            exact ⟨by first | rfl | (simp [errW_none, errW_some] <;> rfl) | (simp [*, errW_none, errW_some] <;> rfl), by repeat (first | (with_reducible first | exact HB.out | apply below_alloc | apply pw_below_drewN | apply below_drew1) | exact HB.out)⟩
        · rw [if_neg c3] at H
          exact absurd H (by simp)
      · rw [if_neg c2] at H
        have c2b0 : decide (x3_1 < (l0.length : Int)) = false := decide_eq_false c2
        clear c2
        obtain rfl := Option.some.inj H
        go_wp2
        repeat (go_quiet (fail); try go_wp2)
        go_ret
        exact ⟨by first | rfl | (simp [errW_none, errW_some] <;> rfl) | (simp [*, errW_none, errW_some] <;> rfl), by repeat (first | (with_reducible first | exact HB.out | apply below_alloc | apply pw_below_drewN | apply below_drew1) | exact HB.out)⟩

end Go.Proofs.Ytabapiofkipkoaa.F

namespace Go.Proofs.Ytabapiofkipkoaa.F
open Go.RowKit Go.Proofs.YtabapiofkipkoaaX Go.Proofs.YtabapiofkipkoaaW.PrintWords Go.Proofs.YtabapiofkipkoaaW.PrintLast Go.Proofs.YtabapiofkipkoaaW.PrintMore
attribute [local go_sem] max2_int min2_int max_two min_two max_three min_three max_four min_four   -- for this text's walks alone
attribute [local go_sem high] str_geq str_leq str_gtr
set_option linter.unusedVariables false
set_option linter.unusedSimpArgs false

/-! ### backhaulref01_Find: function 62 -/
mutual
def backhaulref01_Find.l0 : Nat → List ByteArray → ByteArray → Int → Option (Int × Bool)
  | 0, _, _, _ => none
  | k + 1, x0, x1, x6 => if x6 < (x0.length : Int) then (if 0 ≤ x6 then (if (rdOf ByteArray.empty x0 x6).toList = x1.toList then (some (x6, true)) else (backhaulref01_Find.l0 k x0 x1 (wrap64 (x6 + 1)))) else (none)) else ((backhaulref01_Row.f k x0).bind fun t638 => (if t638 = 0 then (backhaulref01_Find.l1 k x0 x1 0) else (some (0, false))))
def backhaulref01_Find.l1 : Nat → List ByteArray → ByteArray → Int → Option (Int × Bool)
  | 0, _, _, _ => none
  | k + 1, x0, x1, x7 => if x7 < (x0.length : Int) then (if 0 ≤ x7 then (if (Op.bytesLess ((rdOf ByteArray.empty x0 x7).toList) x1.toList) = true then (backhaulref01_Find.l1 k x0 x1 (wrap64 (x7 + 1))) else (some (x7, false))) else (none)) else (some (x7, false))
end
def backhaulref01_Find.f (k : Nat) (l0 : List ByteArray) (a1 : ByteArray) : Option (Int × Bool) := backhaulref01_Find.l0 k l0 a1 0
theorem backhaulref01_Find.mono_l : ∀ k, (∀ y0 y1 y2, LeO (backhaulref01_Find.l0 k y0 y1 y2) (backhaulref01_Find.l0 (k + 1) y0 y1 y2)) ∧ (∀ y0 y1 y2, LeO (backhaulref01_Find.l1 k y0 y1 y2) (backhaulref01_Find.l1 (k + 1) y0 y1 y2))
  | 0 => ⟨fun _ _ _ r h => by simp [backhaulref01_Find.l0] at h, fun _ _ _ r h => by simp [backhaulref01_Find.l1] at h⟩
  | k + 1 => by
    obtain ⟨ih0, ih1⟩ := backhaulref01_Find.mono_l k
    refine ⟨?_, ?_⟩
    · intro y0 y1 y2
      unfold backhaulref01_Find.l0
      repeat' first
      | (with_reducible exact ih0 _ _ _)
      | (with_reducible exact ih1 _ _ _)
      | (with_reducible exact backhaulref01_Row.mono _ _)
      | (with_reducible exact LeO.refl _)
      | (with_reducible exact LeO.none _)
      | (with_reducible refine LeO.ite ?_ ?_)
      | (with_reducible refine LeO.bind ?_ (fun _ => ?_))
      | exact ih0 _ _ _
      | exact ih1 _ _ _
      | exact backhaulref01_Row.mono _ _
      | exact LeO.none _
      | refine LeO.ite ?_ ?_
      | refine LeO.bind ?_ (fun _ => ?_)
    · intro y0 y1 y2
      unfold backhaulref01_Find.l1
      repeat' first
      | (with_reducible exact ih0 _ _ _)
      | (with_reducible exact ih1 _ _ _)
      | (with_reducible exact backhaulref01_Row.mono _ _)
      | (with_reducible exact LeO.refl _)
      | (with_reducible exact LeO.none _)
      | (with_reducible refine LeO.ite ?_ ?_)
      | (with_reducible refine LeO.bind ?_ (fun _ => ?_))
      | exact ih0 _ _ _
      | exact ih1 _ _ _
      | exact backhaulref01_Row.mono _ _
      | exact LeO.none _
      | refine LeO.ite ?_ ?_
      | refine LeO.bind ?_ (fun _ => ?_)
theorem backhaulref01_Find.mono : ∀ a0 a1 k, LeO (backhaulref01_Find.f k a0 a1) (backhaulref01_Find.f (k + 1) a0 a1) := by
  intro a0 a1 k
  obtain ⟨ih0, ih1⟩ := backhaulref01_Find.mono_l k
  unfold backhaulref01_Find.f
  repeat' first
      | (with_reducible exact ih0 _ _ _)
      | (with_reducible exact ih1 _ _ _)
      | (with_reducible exact backhaulref01_Row.mono _ _)
      | (with_reducible exact LeO.refl _)
      | (with_reducible exact LeO.none _)
      | (with_reducible refine LeO.ite ?_ ?_)
      | (with_reducible refine LeO.bind ?_ (fun _ => ?_))
      | exact ih0 _ _ _
      | exact ih1 _ _ _
      | exact backhaulref01_Row.mono _ _
      | exact LeO.none _
      | refine LeO.ite ?_ ?_
      | refine LeO.bind ?_ (fun _ => ?_)
set_option maxHeartbeats 8000000 in
set_option maxRecDepth 100000 in
theorem backhaulref01_Find.calls (k : Nat) (A0 : Option Addr) (c0 : Nat) (l0 : List ByteArray) (a1 : ByteArray) (r1 : Int) (r2 : Bool) (w : World) (hr0 : Kd.C Kd.string w A0 l0.length l0) (hc0 : l0.length ≤ c0) (h : backhaulref01_Find.f k l0 a1 = some (r1, r2)) :
    Calls Try.prog 62 #[.slice A0 l0.length c0, .string a1] w fun e w' => e = .returned (.tuple #[.int .i64 r1, .bool r2]) ∧ Below w.heap.size w w' := by
  have HR0 := Aside0.mk hr0
  have HC0 := Aside0.mk hc0
  clear hr0 hc0
  have HB := Aside0.mk (Below.refl w.heap.size w)
  have H : (backhaulref01_Find.l0 k l0 a1 0) = some (r1, r2) := h
  clear h
  have H' := Aside0.mk H
  clear H
  go_enter Try.func62, Try.ntmps62
  go_wp2
  go_loopg [6] k (fun kq v6 w' => ∃ (x6_1 : Int), v6 = .int .i64 x6_1 ∧ Aside0 (backhaulref01_Find.l0 kq l0 a1 x6_1 = some (r1, r2)) ∧ Aside0 (kq ≤ k) ∧ Aside0 (Below w.heap.size w w'))
  case atStart => exact ⟨(0), (by first | rfl | (simp; done) | (simp [*]; done)), H', ⟨Nat.le_refl _⟩, ⟨by repeat (first | (with_reducible first | exact HB.out | apply below_alloc | apply pw_below_drewN | apply below_drew1) | exact HB.out)⟩⟩
  case round =>
    clear H'
    try clear p2
    obtain ⟨x6_1, rfl, HA, HK1, HB⟩ := hrel
    cases gk with
    | zero => exact absurd HA.out (by simp [backhaulref01_Find.l0])
    | succ k1 =>
      have H := HA.out
      clear HA
      simp only [backhaulref01_Find.l0] at H
      by_cases c3 : x6_1 < (l0.length : Int)
      · rw [if_pos c3] at H
        have c3b0 : decide (x6_1 < (l0.length : Int)) = true := decide_eq_true c3
        clear c3
        by_cases c4 : 0 ≤ x6_1
        · rw [if_pos c4] at H
          have c4b0 : decide (0 ≤ x6_1) = true := decide_eq_true c4
          clear c4
          by_cases c5 : (rdOf ByteArray.empty l0 x6_1).toList = a1.toList
          · rw [if_pos c5] at H
            have c5b0 : ((rdOf ByteArray.empty l0 x6_1).toList == a1.toList) = true := beq_iff_eq.mpr c5
            have c5b1 : ((rdOf ByteArray.empty l0 x6_1).toList != a1.toList) = false := bne_eq_false_iff_eq.mpr c5
            clear c5
            simp only [Option.some.injEq, Prod.mk.injEq] at H
            obtain ⟨rfl, rfl⟩ := H
            have p637 : 0 ≤ (x6_1 : Int) := of_decide_eq_true (by first | (with_reducible assumption) | assumption)
            have q637 : x6_1 < (l0.length : Int) := of_decide_eq_true (by first | (with_reducible assumption) | assumption)
            obtain ⟨ad637, e637, hx637_0⟩ := Kd.at_string HR0.out x6_1 p637 q637
            cases e637
            replace hx637_0 := (HB.out.cell (World.block_lt_of_cell? w _ hx637_0)).trans hx637_0
            replace p637 := eq_true p637
            replace q637 := eq_true q637
            go_wp2
            go_ret2
            exact ⟨by first | rfl | (simp [errW_none, errW_some] <;> rfl) | (simp [*, errW_none, errW_some] <;> rfl), by repeat (first | (with_reducible first | exact HB.out | apply below_alloc | apply pw_below_drewN | apply below_drew1) | exact HB.out)⟩
          · rw [if_neg c5] at H
            have c5b0 : ((rdOf ByteArray.empty l0 x6_1).toList == a1.toList) = false := beq_eq_false_iff_ne.mpr c5
            have c5b1 : ((rdOf ByteArray.empty l0 x6_1).toList != a1.toList) = true := bne_iff_ne.mpr c5
            have H' := Aside0.mk H
            clear H
            have p637 : 0 ≤ (x6_1 : Int) := of_decide_eq_true (by first | (with_reducible assumption) | assumption)
            have q637 : x6_1 < (l0.length : Int) := of_decide_eq_true (by first | (with_reducible assumption) | assumption)
            obtain ⟨ad637, e637, hx637_0⟩ := Kd.at_string HR0.out x6_1 p637 q637
            cases e637
            replace hx637_0 := (HB.out.cell (World.block_lt_of_cell? w _ hx637_0)).trans hx637_0
            replace p637 := eq_true p637
            replace q637 := eq_true q637
            go_wp2
            go_roundg k1
            case measure => have := HK1.out; omega
            case rel => exact ⟨(wrap64 (x6_1 + 1)), (by first | rfl | (simp; done) | (simp [*]; done)), H', ⟨by have := HK1.out; omega⟩, ⟨by repeat (first | (with_reducible first | exact HB.out | apply below_alloc | apply pw_below_drewN | apply below_drew1) | exact HB.out)⟩⟩
        · rw [if_neg c4] at H
          exact absurd H (by simp)
      · rw [if_neg c3] at H
        have c3b0 : decide (x6_1 < (l0.length : Int)) = false := decide_eq_false c3
        clear c3
        replace H := Option.bind_eq_some_iff.mp H
        obtain ⟨t638, A60, H⟩ := H
        replace H : (if t638 = 0 then (backhaulref01_Find.l1 k1 l0 a1 0) else (some (0, false))) = some (r1, r2) := H
        have A6 := Aside0.mk A60
        clear A60
        by_cases c7 : t638 = 0
        · rw [if_pos c7] at H
          have c7b0 : (t638 == 0) = true := beq_iff_eq.mpr c7
          have c7b1 : (t638 != 0) = false := bne_eq_false_iff_eq.mpr c7
          clear c7
          have H' := Aside0.mk H
          clear H
          go_wp2_with (first | ((with_reducible refine gate_callee (f := 64) rfl ?_); refine goesL_ (some 22) rfl rfl Try.func64 (by kernel_rfl) rfl #[.slice A0 l0.length c0] rfl (by (try simp only [List.map_toArray, List.map_cons, List.map_nil]); first | done | rfl | (simp only [List.length_drop, List.length_take]; rfl)) ?_; (with_reducible refine (backhaulref01_Row.calls k1 _ _ l0 t638 _ ?side1 ?side2 A6.out).mono ?_); (case side1 => repeat (first | exact (Kd.C_below HR0.out HB.out) | (with_reducible refine Kd.C_alloc ?_ _) | (with_reducible refine Kd.C_drewN ?_ _) | (with_reducible refine Kd.C_drew ?_))); (case side2 => exact HC0.out); rintro e w8 ⟨rfl, hb⟩; refine ⟨_, rfl, ?_⟩; have n0_ := Aside0.mk (below_step (by repeat (first | (with_reducible first | exact HB.out | apply below_alloc | apply pw_below_drewN | apply below_drew1) | exact HB.out)) hb); clear HB; have HB := n0_; clear n0_; (try clear hb); (try clear hb2); (try clear hk); (try clear hi)))
          go_loopg [7] k1 (fun kq v7 w' => ∃ (x7_2 : Int), v7 = .int .i64 x7_2 ∧ Aside0 (backhaulref01_Find.l1 kq l0 a1 x7_2 = some (r1, r2)) ∧ Aside0 (kq ≤ k1) ∧ Aside0 (Below w.heap.size w w'))
          case atStart => exact ⟨(0), (by first | rfl | (simp; done) | (simp [*]; done)), H', ⟨Nat.le_refl _⟩, ⟨by repeat (first | (with_reducible first | exact HB.out | apply below_alloc | apply pw_below_drewN | apply below_drew1) | exact HB.out)⟩⟩
          case round =>
            clear H'
            try clear p2
            try clear c3
            try clear c3b0
            try clear c4
            try clear c4b0
            try clear c5
            try clear c5b0
            try clear c5b1
            try clear c6
            try clear p6
            try clear q6
            try clear hx6
            try clear c7
            try clear c7b0
            try clear c7b1
            try clear hx637_0
            try clear p2
            try clear p637
            try clear q637
            obtain ⟨x7_2, rfl, HA, HK2, HB⟩ := hrel
            cases gk with
            | zero => exact absurd HA.out (by simp [backhaulref01_Find.l1])
            | succ k2 =>
              have H := HA.out
              clear HA
              simp only [backhaulref01_Find.l1] at H
              by_cases c9 : x7_2 < (l0.length : Int)
              · rw [if_pos c9] at H
                have c9b0 : decide (x7_2 < (l0.length : Int)) = true := decide_eq_true c9
                clear c9
                by_cases c10 : 0 ≤ x7_2
                · rw [if_pos c10] at H
                  have c10b0 : decide (0 ≤ x7_2) = true := decide_eq_true c10
                  clear c10
                  by_cases c11 : (Op.bytesLess ((rdOf ByteArray.empty l0 x7_2).toList) a1.toList) = true
                  · rw [if_pos c11] at H
                    have c11b0 : (Op.bytesLess ((rdOf ByteArray.empty l0 x7_2).toList) a1.toList) = true := c11
                    clear c11
                    have H' := Aside0.mk H
                    clear H
                    have p639 : 0 ≤ (x7_2 : Int) := of_decide_eq_true (by first | (with_reducible assumption) | assumption)
                    have q639 : x7_2 < (l0.length : Int) := of_decide_eq_true (by first | (with_reducible assumption) | assumption)
                    obtain ⟨ad639, e639, hx639_0⟩ := Kd.at_string HR0.out x7_2 p639 q639
                    cases e639
                    replace hx639_0 := (HB.out.cell (World.block_lt_of_cell? w _ hx639_0)).trans hx639_0
                    replace p639 := eq_true p639
                    replace q639 := eq_true q639
                    go_wp2
                    go_roundg k2
                    case measure => have := HK1.out; have := HK2.out; omega
                    case rel => exact ⟨(wrap64 (x7_2 + 1)), (by first | rfl | (simp; done) | (simp [*]; done)), H', ⟨by have := HK1.out; have := HK2.out; omega⟩, ⟨by repeat (first | (with_reducible first | exact HB.out | apply below_alloc | apply pw_below_drewN | apply below_drew1) | exact HB.out)⟩⟩
                  · rw [if_neg c11] at H
                    have c11b0 : (Op.bytesLess ((rdOf ByteArray.empty l0 x7_2).toList) a1.toList) = false := by simpa using c11
                    clear c11
                    simp only [Option.some.injEq, Prod.mk.injEq] at H
                    obtain ⟨rfl, rfl⟩ := H
                    have p639 : 0 ≤ (x7_2 : Int) := of_decide_eq_true (by first | (with_reducible assumption) | assumption)
                    have q639 : x7_2 < (l0.length : Int) := of_decide_eq_true (by first | (with_reducible assumption) | assumption)
                    obtain ⟨ad639, e639, hx639_0⟩ := Kd.at_string HR0.out x7_2 p639 q639
                    cases e639
                    replace hx639_0 := (HB.out.cell (World.block_lt_of_cell? w _ hx639_0)).trans hx639_0
                    replace p639 := eq_true p639
                    replace q639 := eq_true q639
                    go_wp2
                    go_ret2
                    exact ⟨by first | rfl | (simp [errW_none, errW_some] <;> rfl) | (simp [*, errW_none, errW_some] <;> rfl), by repeat (first | (with_reducible first | exact HB.out | apply below_alloc | apply pw_below_drewN | apply below_drew1) | exact HB.out)⟩
                · rw [if_neg c10] at H
                  exact absurd H (by simp)
              · rw [if_neg c9] at H
                have c9b0 : decide (x7_2 < (l0.length : Int)) = false := decide_eq_false c9
                clear c9
                simp only [Option.some.injEq, Prod.mk.injEq] at H
                obtain ⟨rfl, rfl⟩ := H
                go_wp2
                go_ret2
                exact ⟨by first | rfl | (simp [errW_none, errW_some] <;> rfl) | (simp [*, errW_none, errW_some] <;> rfl), by repeat (first | (with_reducible first | exact HB.out | apply below_alloc | apply pw_below_drewN | apply below_drew1) | exact HB.out)⟩
        · rw [if_neg c7] at H
          have c7b0 : (t638 == 0) = false := beq_eq_false_iff_ne.mpr c7
          have c7b1 : (t638 != 0) = true := bne_iff_ne.mpr c7
          simp only [Option.some.injEq, Prod.mk.injEq] at H
          obtain ⟨rfl, rfl⟩ := H
          go_wp2_with (first | ((with_reducible refine gate_callee (f := 64) rfl ?_); refine goesL_ (some 22) rfl rfl Try.func64 (by kernel_rfl) rfl #[.slice A0 l0.length c0] rfl (by (try simp only [List.map_toArray, List.map_cons, List.map_nil]); first | done | rfl | (simp only [List.length_drop, List.length_take]; rfl)) ?_; (with_reducible refine (backhaulref01_Row.calls k1 _ _ l0 t638 _ ?side1 ?side2 A6.out).mono ?_); (case side1 => repeat (first | exact (Kd.C_below HR0.out HB.out) | (with_reducible refine Kd.C_alloc ?_ _) | (with_reducible refine Kd.C_drewN ?_ _) | (with_reducible refine Kd.C_drew ?_))); (case side2 => exact HC0.out); rintro e w12 ⟨rfl, hb⟩; refine ⟨_, rfl, ?_⟩; have n0_ := Aside0.mk (below_step (by repeat (first | (with_reducible first | exact HB.out | apply below_alloc | apply pw_below_drewN | apply below_drew1) | exact HB.out)) hb); clear HB; have HB := n0_; clear n0_; (try clear hb); (try clear hb2); (try clear hk); (try clear hi)))
          go_ret2
          exact ⟨by first | rfl | (simp [errW_none, errW_some] <;> rfl) | (simp [*, errW_none, errW_some] <;> rfl), by repeat (first | (with_reducible first | exact HB.out | apply below_alloc | apply pw_below_drewN | apply below_drew1) | exact HB.out)⟩

end Go.Proofs.Ytabapiofkipkoaa.F

/- What serial's functions (and the document's) come to: classes, values, folding, checking, marks, rows, finding; condition: a text is shorter than 2^40, a list than 2^62. -/
set_option linter.unusedVariables false
namespace Go.Proofs.Ytabapiofkipkoaa.Q
open Go.RowKit Go.Proofs.Ytabapiofkipkoaa.F Go.Proofs.YtabapiofkipkoaaX Go.Proofs.YtabapiofkipkoaaW.PrintWords Go.Proofs.YtabapiofkipkoaaW.PrintLast Go.Proofs.YtabapiofkipkoaaW.PrintMore

theorem serial_class_ev (r : Int) : Ev (fun k => serial_Class.f k r) (clsI r) := Ev.of (fun k => serial_Class.mono r k) (class_f r)
theorem ref01_class_f (r : Int) : backhaulref01_Class.f 20 r = some (clsI r) := by
  unfold backhaulref01_Class.f clsI
  simp only [backhaulref01_Class.j0, backhaulref01_Class.j1]
  (repeat' split) <;> simp_all <;> omega
theorem ref01_class_ev (r : Int) : Ev (fun k => backhaulref01_Class.f k r) (clsI r) := Ev.of (fun k => backhaulref01_Class.mono r k) (ref01_class_f r)
theorem serial_value_f (r : Int) : serial_Value.f 20 r = some (valI r) := by
  unfold serial_Value.f valI
  simp only [serial_Value.j0, serial_Value.j1]
  have e1 : 48 ≤ r → r ≤ 57 → wrap64 (wrap32 (r - 48)) = r - 48 := by intro _ _; unfold wrap64 wrap32; omega
  have e2 : 65 ≤ r → r ≤ 90 → wrap64 (wrap64 (wrap32 (r - 65)) + 10) = r - 65 + 10 := by intro _ _; unfold wrap64 wrap32; omega
  by_cases h1 : 48 ≤ r ∧ r ≤ 57
  · rw [e1 h1.1 h1.2, if_pos h1]
    rw [if_pos (show r ≥ 48 from h1.1), if_pos (decide_eq_true h1.2)]
  · by_cases h2 : 65 ≤ r ∧ r ≤ 90
    · rw [e2 h2.1 h2.2, if_neg h1, if_pos h2]
      rw [if_pos (show r ≥ 48 by omega), if_neg (show ¬ decide (r ≤ 57) = true by simp; omega), if_pos (show r ≥ 65 from h2.1), if_pos (decide_eq_true h2.2)]
    · rw [if_neg h1, if_neg h2]
      (repeat' split) <;> simp_all <;> omega
theorem serial_value_ev (r : Int) : Ev (fun k => serial_Value.f k r) (valI r) := Ev.of (fun k => serial_Value.mono r k) (serial_value_f r)
def allB : ByteArray := ⟨#[48, 49, 50, 51, 52, 53, 54, 55, 56, 57, 65, 66, 67, 68, 69, 70, 71, 72, 73, 74, 75, 76, 77, 78, 79, 80, 81, 82, 83, 84, 85, 86, 87, 88, 89, 90, 42]⟩
theorem allB_size : allB.size = 37 := rfl
theorem allB_at : ∀ i : Nat, i < 37 → bt allB (i : Int) = signI i := by decide +kernel
theorem sign_val {i : Nat} {r : Int} (h : i < 37) : signI i = r ↔ valI r = i := by
  unfold signI valI
  constructor
  · intro h; (repeat' split at h) <;> (repeat' split) <;> omega
  · intro h; (repeat' split at h) <;> (repeat' split) <;> omega
theorem val_range (r : Int) : -1 ≤ valI r ∧ valI r ≤ 36 := by unfold valI; (repeat' split) <;> omega
theorem ref01_value_l0 (r : Int) (d : Nat) : ∀ i : Nat, 37 - i = d → i ≤ 37 → (valI r < 0 ∨ (i : Int) ≤ valI r) → Ev (fun k => backhaulref01_Value.l0 k r allB (i : Int)) (valI r) := by
  have hv := val_range r
  induction d with
  | zero =>
    intro i hd hi h
    refine Ev.step (fun k => by simp only [backhaulref01_Value.l0]; rfl) ?_
    refine Ev.neg (by rw [allB_size]; omega) (Ev.ok ?_)
    omega
  | succ d ih =>
    intro i hd hi h
    refine Ev.step (fun k => by simp only [backhaulref01_Value.l0]; rfl) ?_
    refine Ev.pos (by rw [allB_size]; omega) (Ev.pos (by omega) ?_)
    rw [allB_at i (by omega)]
    have hs : wrap32 (signI i) = signI i := by unfold signI wrap32; (repeat' split) <;> omega
    rw [hs, wrap_eq (by omega) (by omega)]
    refine Ev.ite (fun h1 => Ev.ok ((sign_val (by omega)).1 h1).symm) (fun h1 => ?_)
    refine ih (i + 1) (by omega) (by omega) ?_
    have : valI r ≠ i := fun x => h1 ((sign_val (by omega)).2 x)
    omega
theorem ref01_value_ev (r : Int) : Ev (fun k => backhaulref01_Value.f k r) (valI r) := by
  unfold backhaulref01_Value.f
  exact ref01_value_l0 r 37 0 (by omega) (by omega) (by omega)
theorem serial_fold_f {s : ByteArray} (h : s.size < 1099511627776) : serial_Fold.f s = some (foldS s) := by
  unfold serial_Fold.f; rw [if_pos (by omega)]
def foldRest (last : Int) (t l : List UInt8) : ByteArray × Int := if okL last (runes l) = true then (bytesB (t ++ l.map up8), 0) else (⟨#[]⟩, 9)
theorem cls_45 {b : UInt8} : clsI b.toNat = 3 ↔ b = 45 := by
  have h45 : (45 : UInt8).toNat = 45 := rfl
  have hn := b.toNat_lt
  constructor
  · intro h
    apply UInt8.toNat_inj.1
    unfold clsI at h
    (repeat' split at h) <;> omega
  · rintro rfl; decide
theorem okL_iff {last : Int} {b : UInt8} {l : List UInt8} : okL last (runes (b :: l)) = true ↔ (clsI b.toNat ≠ 0 ∧ ¬ (b = 45 ∧ last = 3)) ∧ okL (clsI b.toNat) (runes l) = true := by
  show (mayB (clsI b.toNat) last && okL (clsI b.toNat) (runes l)) = true ↔ _
  rw [Bool.and_eq_true]
  have : mayB (clsI b.toNat) last = true ↔ clsI b.toNat ≠ 0 ∧ ¬ (b = 45 ∧ last = 3) := by
    unfold mayB
    rw [← cls_45]
    simp only [Bool.and_eq_true, Bool.or_eq_true, bne_iff_ne]
    omega
  rw [this]
theorem bt_nat {s : ByteArray} {i : Nat} (h : i < s.data.toList.length) : bt s (i : Int) = ((s.data.toList[i]).toNat : Int) := bt_data s i (by rw [← size_data]; exact h)
theorem bt_45 {s : ByteArray} {i : Nat} (h : i < s.data.toList.length) : bt s (i : Int) = 45 ↔ s.data.toList[i] = 45 := by
  rw [bt_nat h]
  constructor
  · intro x; apply UInt8.toNat_inj.1; show _ = 45; omega
  · intro x; rw [x]; rfl
theorem ref01_fold_j2 {s : ByteArray} {i : Nat} {t : List UInt8} {b : UInt8} {r : ByteArray × Int} (ht : t.length < 100) (hi : i < 100) (h : Ev (fun k => backhaulref01_Fold.l0 k s (natI (t ++ [up8 b])) (((i + 1 : Nat)) : Int)) r) : Ev (fun k => backhaulref01_Fold.j2 k s (natI t) (i : Int) (b.toNat : Int) false) r := by
  have hl : (natI t).length = t.length := by simp [natI]
  have hn := b.toNat_lt
  have e : ∀ x : Int, x = ((up8 b).toNat : Int) → natI t ++ [x] = natI (t ++ [up8 b]) := by rintro x rfl; simp [natI]
  refine Ev.step (fun k => by simp only [backhaulref01_Fold.j2]; rfl) ?_
  rw [wrap_eq (by omega) (by omega)]
  refine Ev.neg (by decide) (Ev.ite (fun h1 => Ev.ite (fun h2 => Ev.pos (by omega) ?_) (fun h2 => Ev.pos (by omega) ?_)) (fun h1 => Ev.pos (by omega) ?_))
  · rw [e _ (by rw [up8_toNat]; unfold upI; rw [if_pos (by omega)]; omega)]; exact h
  · rw [e _ (by rw [up8_toNat]; unfold upI; rw [if_neg (by omega)])]; exact h
  · rw [e _ (by rw [up8_toNat]; unfold upI; rw [if_neg (by omega)])]; exact h
theorem ref01_fold_bad {s : ByteArray} {i c : Int} {o : List Int} {last : Int} {t l : List UInt8} (h : ¬ okL last (runes l) = true) : Ev (fun k => backhaulref01_Fold.j2 k s o i c true) (foldRest last t l) := by
  refine Ev.step (fun k => by simp only [backhaulref01_Fold.j2]; rfl) ?_
  refine Ev.pos trivial (Ev.ok ?_)
  unfold foldRest
  rw [if_neg h]
theorem ref01_fold_l0 {s : ByteArray} (hs : s.size ≤ 16) (h0 : ∀ h : 0 < s.data.toList.length, s.data.toList[0] ≠ 45) (d : Nat) : ∀ (i : Nat) (t : List UInt8) (last : Int), s.size - i = d → i ≤ s.size → t.length = i → (i = 0 ∨ ∃ h : i - 1 < s.data.toList.length, last = clsI (s.data.toList[i - 1]).toNat) → Ev (fun k => backhaulref01_Fold.l0 k s (natI t) (i : Int)) (foldRest last t (s.data.toList.drop i)) := by
  have hsz := size_data s
  induction d with
  | zero =>
    intro i t last hd hi ht hla
    refine Ev.step (fun k => by simp only [backhaulref01_Fold.l0]; rfl) ?_
    refine Ev.neg (by omega) (Ev.ok ?_)
    rw [List.drop_eq_nil_of_le (by omega)]
    unfold foldRest
    rw [if_pos (show okL last (runes []) = true from rfl), strOfNums_nat, List.map_nil, List.append_nil]
  | succ d ih =>
    intro i t last hd hi ht hla
    have h : i < s.data.toList.length := by omega
    have hb : bt s (i : Int) = ((s.data.toList[i]).toNat : Int) := bt_nat h
    have hn := (s.data.toList[i]).toNat_lt
    have hw : wrap32 (((s.data.toList[i]).toNat : Int)) = ((s.data.toList[i]).toNat : Int) := by unfold wrap32; omega
    refine Ev.step (fun k => by simp only [backhaulref01_Fold.l0]; rfl) ?_
    refine Ev.pos (by omega) (Ev.pos (by omega) ?_)
    rw [drop_cons h, hb, hw]
    have hd1 : s.size - (i + 1) = d := by clear hb hw ih hla hn ht; omega
    have hd2 : i + 1 ≤ s.size := by clear hb hw ih hla hn ht; omega
    have good : okL last (runes (s.data.toList[i] :: s.data.toList.drop (i + 1))) = okL (clsI (s.data.toList[i]).toNat) (runes (s.data.toList.drop (i + 1))) → Ev (fun k => backhaulref01_Fold.j2 k s (natI t) (i : Int) ((s.data.toList[i]).toNat : Int) false) (foldRest last t (s.data.toList[i] :: s.data.toList.drop (i + 1))) := by
      intro e
      refine ref01_fold_j2 (by omega) (by omega) (Ev.eq (ih (i + 1) (t ++ [up8 s.data.toList[i]]) (clsI (s.data.toList[i]).toNat) hd1 hd2 (by simp [ht]) (.inr ⟨by simpa using h, by simp⟩)) ?_)
      unfold foldRest
      rw [e, List.map_cons, List.append_assoc]
      rfl
    have eq_of : (clsI (s.data.toList[i]).toNat ≠ 0 ∧ ¬ (s.data.toList[i] = 45 ∧ last = 3)) → okL last (runes (s.data.toList[i] :: s.data.toList.drop (i + 1))) = okL (clsI (s.data.toList[i]).toNat) (runes (s.data.toList.drop (i + 1))) := by
      intro hg
      rw [Bool.eq_iff_iff, okL_iff]
      exact ⟨fun x => x.2, fun x => ⟨hg, x⟩⟩
    refine Ev.bind (ref01_class_ev _) (Ev.ite (fun h1 => ?_) (fun h1 => ?_))
    · exact ref01_fold_bad (fun x => (okL_iff.1 x).1.1 h1)
    · refine Ev.ite (fun h2 => ?_) (fun h2 => ?_)
      · have h45 : s.data.toList[i] = 45 := by apply UInt8.toNat_inj.1; show _ = 45; omega
        have hi1 : 1 ≤ i := by
          rcases Nat.eq_zero_or_pos i with h' | h'
          · subst h'; exact absurd h45 (h0 h)
          · exact h'
        obtain ⟨hp, hl⟩ := hla.resolve_left (by omega)
        rw [wrap_eq (x := (i : Int) - 1) (by omega) (by omega), show (i : Int) - 1 = ((i - 1 : Nat) : Int) by omega]
        refine Ev.pos (by omega) (Ev.pos (by omega) ?_)
        by_cases h3 : s.data.toList[i - 1] = 45
        · rw [show (bt s ((i - 1 : Nat) : Int) == 45) = true from beq_iff_eq.2 ((bt_45 hp).2 h3)]
          exact ref01_fold_bad (fun x => (okL_iff.1 x).1.2 ⟨h45, by rw [hl]; exact cls_45.2 h3⟩)
        · rw [show (bt s ((i - 1 : Nat) : Int) == 45) = false from beq_eq_false_iff_ne.2 (fun x => h3 ((bt_45 hp).1 x))]
          exact good (eq_of ⟨h1, fun x => h3 (cls_45.1 (by rw [← hl]; exact x.2))⟩)
      · exact good (eq_of ⟨h1, fun x => h2 (by rw [x.1]; rfl)⟩)
theorem last_get {l : List UInt8} (h : l.length - 1 < l.length) : l.getLast? = some (l[l.length - 1]) := by
  rw [List.getLast?_eq_getElem?, List.getElem?_eq_getElem h]
theorem ref01_fold_f (s : ByteArray) (hs : s.size < 1099511627776) : Ev (fun k => backhaulref01_Fold.f k s) (foldS s) := by
  have hsz := size_data s
  have bad : ¬ serB s.data.toList → Ev (fun k => backhaulref01_Fold.j0 k s true) (foldS s) := by
    intro h
    refine Ev.step (fun k => by simp only [backhaulref01_Fold.j0]; rfl) ?_
    refine Ev.pos trivial (Ev.ok ?_)
    rw [foldS_eq, if_neg h]
  unfold backhaulref01_Fold.f
  refine Ev.ite (fun h => bad (fun x => by have := x.1; omega)) (fun h => Ev.ite (fun h1 => bad (fun x => by have := x.2.1; omega)) (fun h1 => Ev.pos (by omega) ?_))
  have hl0 : 0 < s.data.toList.length := by omega
  have e0 : bt s 0 = 45 ↔ s.data.toList[0] = 45 := bt_45 (i := 0) hl0
  refine Ev.ite (fun h2 => bad (fun x => ?_)) (fun h2 => ?_)
  · have h3 := x.2.2.2
    have h4 : s.data.toList = s.data.toList[0] :: s.data.toList.drop 1 := by
      have := drop_cons (l := s.data.toList) (i := 0) hl0
      simpa using this
    rw [h4] at h3
    exact (okL_iff.1 h3).1.2 ⟨e0.1 h2, rfl⟩
  · have hlast : s.data.toList.length - 1 < s.data.toList.length := by omega
    rw [wrap_eq (by omega) (by omega), show (s.size : Int) - 1 = ((s.data.toList.length - 1 : Nat) : Int) by omega]
    refine Ev.pos (by omega) (Ev.pos (by omega) ?_)
    by_cases h3 : s.data.toList[s.data.toList.length - 1] = 45
    · rw [show (bt s ((s.data.toList.length - 1 : Nat) : Int) == 45) = true from beq_iff_eq.2 ((bt_45 hlast).2 h3)]
      exact bad (fun x => x.2.2.1 (by rw [last_get hlast, h3]))
    · rw [show (bt s ((s.data.toList.length - 1 : Nat) : Int) == 45) = false from beq_eq_false_iff_ne.2 (fun x => h3 ((bt_45 hlast).1 x))]
      refine Ev.step (fun k => by simp only [backhaulref01_Fold.j0]; rfl) ?_
      refine Ev.neg (by decide) (Ev.eq (ref01_fold_l0 (by omega) (fun _ x => h2 (e0.2 x)) s.size 0 [] 3 (by omega) (by omega) rfl (.inl rfl)) ?_)
      rw [List.drop_zero, foldS_eq]
      unfold foldRest
      by_cases h4 : okL 3 (runes s.data.toList) = true
      · rw [if_pos h4, if_pos ⟨by omega, by omega, by rw [last_get hlast]; intro x; exact h3 (Option.some.inj x), h4⟩]; rfl
      · rw [if_neg h4, if_neg (fun x => h4 x.2.2.2)]
theorem check_toList (s : ByteArray) : (if (foldS s).2 = 0 then (if (foldS s).1.toList = s.toList then some (0 : Int) else some 9) else some 9) = some (checkS s) := by
  unfold checkS
  by_cases h1 : (foldS s).2 = 0
  · rw [if_pos h1]
    by_cases h2 : (foldS s).1.toList = s.toList
    · rw [if_pos h2, if_pos ⟨h1, bytes_ext.1 h2⟩]
    · rw [if_neg h2, if_neg (fun x => h2 (by rw [x.2]))]
  · rw [if_neg h1, if_neg (fun x => h1 x.1)]
theorem ref01_check_f (s : ByteArray) (hs : s.size < 1099511627776) : Ev (fun k => backhaulref01_Check.f k s) (checkS s) := by
  unfold backhaulref01_Check.f
  exact Ev.bind (ref01_fold_f s hs) (Ev.const (check_toList s))
theorem serial_mark_f {s : ByteArray} (h : s.size < 1099511627776) : serial_Mark.f s = some (markS s) := by
  unfold serial_Mark.f; rw [if_pos (by omega)]
theorem serial_mark_F {s : ByteArray} (h : s.size < 9223372036854775807) : serial_Mark.f s = some (markS s) := by
  unfold serial_Mark.f; rw [if_pos h]
-- rows
theorem serial_row_l0 {l : List ByteArray} (hl : l.length < 4611686018427387904) (hs : ∀ x ∈ l, x.size < 1099511627776) (d : Nat) : ∀ (i : Nat), l.length - i = d → i ≤ l.length → Ev (fun k => serial_Row.l0 k l l (l.length : Int) (i : Int)) (rowG (if i = 0 then none else l[i - 1]?) (l.drop i)) := by
  induction d with
  | zero =>
    intro i hd hi
    refine Ev.step (fun k => by simp only [serial_Row.l0]; rfl) ?_
    refine Ev.neg (by omega) (Ev.ok ?_)
    rw [List.drop_eq_nil_of_le (by omega)]; rfl
  | succ d ih =>
    intro i hd hi
    have h : i < l.length := by omega
    refine Ev.step (fun k => by simp only [serial_Row.l0]; rfl) ?_
    refine Ev.pos (by omega) (Ev.pos (by omega) (Ev.pos (by omega) ?_))
    rw [drop_cons h, rdOf_nat h, wrap_eq (x := (i : Int) + 1) (by omega) (by omega)]
    have ih' := ih (i + 1) (by omega) (by omega)
    rw [if_neg (by omega), Nat.add_sub_cancel, List.getElem?_eq_getElem h] at ih'
    refine Ev.bindc (check_f _ (by have := hs _ (List.getElem_mem h); omega)) ?_
    simp only [rowG]
    refine Ev.ite (fun h1 => ?_) (fun h1 => ?_)
    · rw [if_pos h1]
      refine Ev.ite (fun h2 => ?_) (fun h2 => ?_)
      · have h' : i - 1 < l.length := by omega
        rw [wrap_eq (x := (i : Int) - 1) (by omega) (by omega), show (i : Int) - 1 = ((i - 1 : Nat) : Int) by omega, rdOf_nat h', if_neg (show ¬ i = 0 by omega), List.getElem?_eq_getElem h']
        refine Ev.pos (by omega) (Ev.pos (by omega) ?_)
        refine Ev.ite (fun h3 => ?_) (fun h3 => ?_)
        · rw [if_neg (by simp [notUp, h3])]; exact ih'
        · rw [if_pos (by simp [notUp, h3])]; exact Ev.ok rfl
      · rw [if_pos (show i = 0 by omega), if_neg (by simp [notUp])]; exact ih'
    · rw [if_neg h1, (checkS_or _).resolve_left h1]; exact Ev.ok rfl
theorem serial_row_f {l : List ByteArray} (hl : l.length < 4611686018427387904) (hs : ∀ x ∈ l, x.size < 1099511627776) : Ev (fun k => serial_Row.f k l) (rowG none l) := by
  unfold serial_Row.f
  exact serial_row_l0 hl hs l.length 0 (by omega) (by omega)
theorem ref01_row_l0 {l : List ByteArray} (hl : l.length < 4611686018427387904) (hs : ∀ x ∈ l, x.size < 1099511627776) (d : Nat) : ∀ (i : Nat), l.length - i = d → i ≤ l.length → Ev (fun k => backhaulref01_Row.l0 k l (i : Int)) (rowG (if i = 0 then none else l[i - 1]?) (l.drop i)) := by
  induction d with
  | zero =>
    intro i hd hi
    refine Ev.step (fun k => by simp only [backhaulref01_Row.l0]; rfl) ?_
    refine Ev.neg (by omega) (Ev.ok ?_)
    rw [List.drop_eq_nil_of_le (by omega)]; rfl
  | succ d ih =>
    intro i hd hi
    have h : i < l.length := by omega
    refine Ev.step (fun k => by simp only [backhaulref01_Row.l0]; rfl) ?_
    refine Ev.pos (by omega) (Ev.pos (by omega) ?_)
    rw [drop_cons h, rdOf_nat h, wrap_eq (x := (i : Int) + 1) (by omega) (by omega)]
    have ih' := ih (i + 1) (by omega) (by omega)
    rw [if_neg (by omega), Nat.add_sub_cancel, List.getElem?_eq_getElem h] at ih'
    refine Ev.bind (ref01_check_f _ (hs _ (List.getElem_mem h))) ?_
    simp only [rowG]
    refine Ev.ite (fun h1 => ?_) (fun h1 => ?_)
    · rw [if_pos h1]
      refine Ev.ite (fun h2 => ?_) (fun h2 => ?_)
      · have h' : i - 1 < l.length := by omega
        rw [wrap_eq (x := (i : Int) - 1) (by omega) (by omega), show (i : Int) - 1 = ((i - 1 : Nat) : Int) by omega, rdOf_nat h', if_neg (show ¬ i = 0 by omega), List.getElem?_eq_getElem h']
        refine Ev.pos (by omega) (Ev.pos (by omega) ?_)
        refine Ev.ite (fun h3 => ?_) (fun h3 => ?_)
        · rw [if_neg (by simp [notUp, h3])]; exact ih'
        · rw [if_pos (by simp [notUp, h3])]; exact Ev.ok rfl
      · rw [if_pos (show i = 0 by omega), if_neg (by simp [notUp])]; exact ih'
    · rw [if_neg h1]; exact Ev.ok rfl
theorem ref01_row_f {l : List ByteArray} (hl : l.length < 4611686018427387904) (hs : ∀ x ∈ l, x.size < 1099511627776) : Ev (fun k => backhaulref01_Row.f k l) (rowG none l) := by
  unfold backhaulref01_Row.f
  exact ref01_row_l0 hl hs l.length 0 (by omega) (by omega)
-- finding
theorem cmp_less_text (a b : ByteArray) : cmp_Less_string.f a b = some (Op.bytesLess a.toList b.toList) := by
  simp [cmp_Less_string.f, cmp_isNaN_string.f]
theorem bst_l0 {l : List ByteArray} {t : ByteArray} (hl : l.length < 4611686018427387904) (h0 : rowG none l = 0) (hs : l.Pairwise lt8) (d : Nat) : ∀ (lo hi : Nat), hi - lo = d → lo ≤ hi → hi ≤ l.length →
    (∀ j (h : j < l.length), j < lo → lt8 l[j] t) → (∀ j (h : j < l.length), hi ≤ j → ¬ lt8 l[j] t) →
    Ev (fun k => slices_BinarySearch_string_string.l0 k l t (l.length : Int) (lo : Int) (hi : Int)) (findT l t) := by
  induction d using Nat.strongRecOn with
  | _ d ih =>
    intro lo hi hd hlo hhi h1 h2
    refine Ev.step (fun k => by simp only [slices_BinarySearch_string_string.l0]; rfl) ?_
    by_cases hlt : lo < hi
    · have hw : wrap64 ((IntKind.u64.wrap (wrap64 ((lo : Int) + (hi : Int)))) / 2) = (((lo + hi) / 2 : Nat) : Int) := by
        rw [wrap_eq (x := (lo : Int) + (hi : Int)) (by omega) (by omega), u64_eq (x := (lo : Int) + (hi : Int)) (by omega) (by omega), wrap_eq (x := ((lo : Int) + (hi : Int)) / 2) (by omega) (by omega)]; omega
      have hm : (lo + hi) / 2 < l.length := by omega
      rw [hw]
      refine Ev.pos (by omega) (Ev.pos (by omega) (Ev.pos (by omega) ?_))
      rw [rdOf_nat hm]
      refine Ev.bindc (cmp_less_text _ _) ?_
      refine Ev.ite (fun hc => ?_) (fun hc => ?_)
      · have hc' : lt8 l[(lo + hi) / 2] t := hc
        rw [wrap_eq (by omega) (by omega)]
        refine ih (hi - ((lo + hi) / 2 + 1)) (by omega) ((lo + hi) / 2 + 1) hi rfl (by omega) hhi (fun j hj hjl => ?_) h2
        rcases Nat.lt_or_ge j ((lo + hi) / 2) with hlt2 | hge
        · exact lt8_trans (pair_get hs hm hlt2) hc'
        · have : j = (lo + hi) / 2 := by omega
          subst this; exact hc'
      · have hc' : ¬ lt8 l[(lo + hi) / 2] t := hc
        refine ih ((lo + hi) / 2 - lo) (by omega) lo ((lo + hi) / 2) rfl (by omega) (by omega) h1 (fun j hj hjl => ?_)
        rcases Nat.lt_or_ge ((lo + hi) / 2) j with hlt2 | hge
        · exact fun x => hc' (lt8_trans (pair_get hs hj hlt2) x)
        · have : j = (lo + hi) / 2 := by omega
          subst this; exact hc'
    · have he : lo = hi := by omega
      subst he
      rw [findT_sorted hs hhi h1 h2 h0]
      refine Ev.neg (by omega) ?_
      refine Ev.ite (fun hc => ?_) (fun hc => ?_)
      · have hlo' : lo < l.length := by omega
        refine Ev.pos (by omega) (Ev.pos (by omega) ?_)
        rw [rdOf_nat hlo']
        refine Ev.ite (fun he => ?_) (fun he => ?_)
        · refine Ev.ok ?_
          rw [decide_eq_true (⟨hlo', bytes_ext.1 he⟩ : ∃ h : lo < l.length, l[lo] = t)]
        · refine Ev.bindc (a := false) (by simp [slices_isNaN_string.f]) ?_
          refine Ev.neg (by simp) (Ev.ok ?_)
          rw [decide_eq_false (fun x : ∃ h : lo < l.length, l[lo] = t => he (by rw [x.2]))]
      · refine Ev.ok ?_
        rw [decide_eq_false (fun x : ∃ h : lo < l.length, l[lo] = t => by have := x.1; omega)]
theorem bst_f {l : List ByteArray} {t : ByteArray} (hl : l.length < 4611686018427387904) (h0 : rowG none l = 0) : Ev (fun k => slices_BinarySearch_string_string.f k l t) (findT l t) := by
  unfold slices_BinarySearch_string_string.f
  exact bst_l0 hl h0 (rowG_zero h0).2.1 l.length 0 l.length (by omega) (by omega) (by omega) (fun j hj h => by omega) (fun j hj h => by omega)
def idxI (l : List ByteArray) (t : ByteArray) : Int := match idxT l t with
  | some i => (i : Int)
  | none => -1
theorem indext_l0 {l : List ByteArray} {t : ByteArray} (hl : l.length < 4611686018427387904) (d : Nat) : ∀ (i : Nat), l.length - i = d → i ≤ l.length → (∀ j (h : j < l.length), j < i → l[j] ≠ t) →
    Ev (fun k => slices_Index_string_string.l0 k l t (l.length : Int) (i : Int)) (idxI l t) := by
  induction d with
  | zero =>
    intro i hd hi h1
    refine Ev.step (fun k => by simp only [slices_Index_string_string.l0]; rfl) ?_
    refine Ev.neg (by omega) (Ev.ok ?_)
    unfold idxI
    rw [idxT_none (fun j hj => h1 j hj (by omega))]
  | succ d ih =>
    intro i hd hi h1
    have h : i < l.length := by omega
    refine Ev.step (fun k => by simp only [slices_Index_string_string.l0]; rfl) ?_
    refine Ev.pos (by omega) (Ev.pos (by omega) (Ev.pos (by omega) ?_))
    rw [rdOf_nat h]
    refine Ev.ite (fun he => Ev.ok ?_) (fun he => ?_)
    · unfold idxI
      rw [idxT_some h (bytes_ext.1 he).symm h1]
    · rw [wrap_eq (by omega) (by omega)]
      exact ih (i + 1) (by omega) (by omega) (fun j hj hjl => by
        rcases Nat.lt_or_ge j i with h2 | h2
        · exact h1 j hj h2
        · have : j = i := by omega
          subst this; exact fun e => he (by rw [e]))
theorem serial_find_f {l : List ByteArray} {t : ByteArray} (hl : l.length < 4611686018427387904) (hs : ∀ x ∈ l, x.size < 1099511627776) : Ev (fun k => serial_Find.f k l t) (findT l t) := by
  unfold serial_Find.f
  refine Ev.bind (serial_row_f hl hs) (Ev.ite (fun h => Ev.bind (bst_f hl h) (Ev.ok rfl)) (fun h => ?_))
  have hi : Ev (fun k => slices_Index_string_string.f k l t) (idxI l t) := by
    unfold slices_Index_string_string.f
    exact indext_l0 hl l.length 0 (by omega) (by omega) (fun j hj h => by omega)
  refine Ev.bind hi (Ev.ok ?_)
  unfold idxI findT
  cases e : idxT l t with
  | none => simp only [if_neg h]; rfl
  | some i =>
    have : mx (i : Int) 0 = i := by unfold mx; split <;> omega
    simp [this]
theorem ref01_find_l1 {l : List ByteArray} {t : ByteArray} (hl : l.length < 4611686018427387904) (h0 : rowG none l = 0) (hm : ∀ j (h : j < l.length), l[j] ≠ t) (d : Nat) : ∀ (n : Nat), l.length - n = d → n ≤ l.length → (∀ j (h : j < l.length), j < n → lt8 l[j] t) →
    Ev (fun k => backhaulref01_Find.l1 k l t (n : Int)) (findT l t) := by
  have hs := (rowG_zero h0).2.1
  induction d with
  | zero =>
    intro n hd hn h1
    refine Ev.step (fun k => by simp only [backhaulref01_Find.l1]; rfl) ?_
    refine Ev.neg (by omega) (Ev.ok ?_)
    rw [findT_sorted hs hn h1 (fun j hj h => by omega) h0, decide_eq_false (fun x : ∃ h : n < l.length, l[n] = t => by have := x.1; omega)]
  | succ d ih =>
    intro n hd hn h1
    have h : n < l.length := by omega
    refine Ev.step (fun k => by simp only [backhaulref01_Find.l1]; rfl) ?_
    refine Ev.pos (by omega) (Ev.pos (by omega) ?_)
    rw [rdOf_nat h, wrap_eq (by omega) (by omega)]
    refine Ev.ite (fun hc => ih (n + 1) (by omega) (by omega) (fun j hj hjl => ?_)) (fun hc => Ev.ok ?_)
    · rcases Nat.lt_or_ge j n with h2 | h2
      · exact h1 j hj h2
      · have : j = n := by omega
        subst this; exact hc
    · have hc' : ¬ lt8 l[n] t := hc
      rw [findT_sorted hs hn h1 (fun j hj hjl => ?_) h0, decide_eq_false (fun x : ∃ h : n < l.length, l[n] = t => hm n h x.2)]
      rcases Nat.lt_or_ge n j with h2 | h2
      · exact fun x => hc' (lt8_trans (pair_get hs hj h2) x)
      · have : j = n := by omega
        subst this; exact hc'
theorem ref01_find_l0 {l : List ByteArray} {t : ByteArray} (hl : l.length < 4611686018427387904) (hs : ∀ x ∈ l, x.size < 1099511627776) (d : Nat) : ∀ (i : Nat), l.length - i = d → i ≤ l.length → (∀ j (h : j < l.length), j < i → l[j] ≠ t) →
    Ev (fun k => backhaulref01_Find.l0 k l t (i : Int)) (findT l t) := by
  induction d with
  | zero =>
    intro i hd hi h1
    refine Ev.step (fun k => by simp only [backhaulref01_Find.l0]; rfl) ?_
    refine Ev.neg (by omega) (Ev.bind (ref01_row_f hl hs) (Ev.ite (fun h => ?_) (fun h => Ev.ok ?_)))
    · exact ref01_find_l1 hl h (fun j hj => h1 j hj (by omega)) l.length 0 (by omega) (by omega) (fun j hj h => by omega)
    · unfold findT
      rw [idxT_none (fun j hj => h1 j hj (by omega))]
      simp only [if_neg h]
  | succ d ih =>
    intro i hd hi h1
    have h : i < l.length := by omega
    refine Ev.step (fun k => by simp only [backhaulref01_Find.l0]; rfl) ?_
    refine Ev.pos (by omega) (Ev.pos (by omega) ?_)
    rw [rdOf_nat h]
    refine Ev.ite (fun he => Ev.ok ?_) (fun he => ?_)
    · unfold findT
      rw [idxT_some h (bytes_ext.1 he) h1]
    · rw [wrap_eq (by omega) (by omega)]
      exact ih (i + 1) (by omega) (by omega) (fun j hj hjl => by
        rcases Nat.lt_or_ge j i with h2 | h2
        · exact h1 j hj h2
        · have : j = i := by omega
          subst this; exact fun e => he (by rw [e]))
end Go.Proofs.Ytabapiofkipkoaa.Q

/- SerialFolds: what is folded is a serial, and folded again is itself; a letter's case makes no difference; no condition. -/
set_option linter.unusedVariables false
namespace Go.Proofs.Ytabapiofkipkoaa.Pure
open Go.RowKit Go.Proofs.Ytabapiofkipkoaa.F Go.Proofs.Ytabapiofkipkoaa.Q Go.Proofs.YtabapiofkipkoaaX Go.Proofs.YtabapiofkipkoaaW.PrintWords Go.Proofs.YtabapiofkipkoaaW.PrintLast

theorem foldS_size (s : ByteArray) : (foldS s).1.size ≤ 16 := by
  rw [foldS_eq]
  split
  · rename_i h
    have h2 := h.2.1
    show (s.data.toList.map up8).toArray.size ≤ 16
    rw [List.size_toArray, List.length_map]
    exact h2
  · exact Nat.zero_le _
theorem parted_data {t : ByteArray} {n : Nat} (h : n < t.data.toList.length) (m : List UInt8) : ((t.extract 0 n ++ bytesB m) ++ t.extract (n + 1) t.size).data.toList = t.data.toList.take n ++ (m ++ t.data.toList.drop (n + 1)) := by
  rw [data_append, data_append, data_extract, data_extract, bytesB_data, List.drop_zero, ← size_data t, List.take_length, List.append_assoc]
theorem SerialFolds : backhaullaw01_SerialFolds.Pure := by
  intro s a hs ha
  refine Ev.rounds (r := true) ?_
  unfold backhaullaw01_SerialFolds.f
  have h64 := i64_bounds ha
  refine Q.Ev.ite (fun h => Q.Ev.const rfl) (fun h => ?_)
  have hsz : s.size < 1099511627776 := by omega
  refine Q.Ev.bindc (serial_fold_f hsz) (Q.Ev.ite (fun h1 => ?_) (fun h1 => ?_))
  · have e : foldS s = ((foldS s).1, 0) := by rw [← h1]
    obtain ⟨e1, e2, e3⟩ := fold_fold e
    have hlt := foldS_size s
    generalize ht : (foldS s).1 = t at *
    have hlen := size_data t
    have f1 : serial_Fold.f t = some (t, 0) := by rw [serial_fold_f (by omega), e1]
    have f2 : serial_Check.f t = some 0 := by rw [check_f t (by omega), e2]
    refine Q.Ev.bindc f1 (Q.Ev.pos rfl (Q.Ev.pos rfl (Q.Ev.bindc f2 (Q.Ev.pos rfl ?_))))
    rw [show ((t.size : Int) != (s.size : Int)) = false from bne_eq_false_iff_eq.2 (by omega)]
    have aw : Ev (fun k => backhaullaw01_SerialFolds.j1 k a t false) true :=
      Ev.step (fun k => by simp only [backhaullaw01_SerialFolds.j1]; rfl) (Q.Ev.neg (by decide) (Q.Ev.const rfl))
    refine Ev.step (fun k => by simp only [backhaullaw01_SerialFolds.j0]; rfl) ?_
    refine Q.Ev.neg (by decide) (Q.Ev.ite (fun h2 => Q.Ev.ite (fun h3 => Q.Ev.pos (by omega) (Q.Ev.ite (fun h4 => ?_) (fun h4 => aw))) (fun h3 => aw)) (fun h2 => aw))
    by_cases h5 : bt t a ≤ 90
    · rw [decide_eq_true h5]
      obtain ⟨n, rfl⟩ := Int.eq_ofNat_of_zero_le (show 0 ≤ a by omega)
      have hn : n < t.data.toList.length := by omega
      have hb := bt_nat hn
      refine Ev.step (fun k => by simp only [backhaullaw01_SerialFolds.j1]; rfl) ?_
      rw [wrap_eq (x := (n : Int) + 1) (by omega) (by omega)]
      refine Q.Ev.pos trivial (Q.Ev.pos (by omega) (Q.Ev.pos (by omega) (Q.Ev.pos (by omega) (Q.Ev.bindc rfl ?_))))
      have es : strOfNums [(bt t (n : Int) + 32) % 256] = bytesB [UInt8.ofNat ((t.data.toList[n]).toNat + 32)] := by
        have : (bt t (n : Int) + 32) % 256 = ((UInt8.ofNat ((t.data.toList[n]).toNat + 32)).toNat : Int) := by rw [toNat_ofNat, hb]; omega
        rw [this]
        exact strOfNums_nat [_]
      rw [es, show ((n : Int) + 1).toNat = n + 1 by omega, Int.toNat_natCast]
      have hx : ((t.extract 0 n ++ bytesB [UInt8.ofNat ((t.data.toList[n]).toNat + 32)]) ++ t.extract (n + 1) t.size).data.toList = t.data.toList.take n ++ UInt8.ofNat ((t.data.toList[n]).toNat + 32) :: t.data.toList.drop (n + 1) := by
        rw [parted_data hn]; rfl
      have hu := fold_case e (p := t.data.toList.take n) (q := t.data.toList.drop (n + 1)) (a := t.data.toList[n]) (by rw [← drop_cons hn, List.take_append_drop]) hx (by omega)
      have s1 : (t.extract 0 n).size ≤ 16 := by rw [ByteArray.size_extract]; omega
      have s2 : (t.extract (n + 1) t.size).size ≤ 16 := by rw [ByteArray.size_extract]; omega
      have s3 : (bytesB [UInt8.ofNat ((t.data.toList[n]).toNat + 32)]).size = 1 := by rw [bytesB_size]; rfl
      refine Q.Ev.pos (by omega) (Q.Ev.pos (by omega) (Q.Ev.pos (by omega) (Q.Ev.pos (by rw [ByteArray.size_append]; omega) ?_)))
      refine Q.Ev.bindc (serial_fold_f (by rw [ByteArray.size_append, ByteArray.size_append]; omega)) ?_
      rw [hu]
      exact Q.Ev.pos rfl (Q.Ev.pos rfl (Q.Ev.const rfl))
    · rw [decide_eq_false h5]; exact aw
  · have e : (foldS s).1 = ⟨#[]⟩ := by
      rw [foldS_eq] at h1 ⊢
      split
      · rename_i h2; rw [if_pos h2] at h1; exact absurd rfl h1
      · rfl
    rw [e]
    exact Q.Ev.pos (by decide +kernel) (Q.Ev.const rfl)
end Go.Proofs.Ytabapiofkipkoaa.Pure

-- What an argument's reading as data says of its cells, kind by kind: for the rows of laws. (A template: seat's name for Ytabapiofkipkoaa.)
set_option linter.unusedVariables false
set_option linter.unusedSimpArgs false
namespace Go.Proofs.YtabapiofkipkoaaX
open Go.RowKit Go.Proofs.YtabapiofkipkoaaW.PrintWords Go.Proofs.YtabapiofkipkoaaW.PrintLast Go.Proofs.YtabapiofkipkoaaW.PrintMore

/-- Whatever reads as data of type t is of kind k, and is ok. -/
def Opens {α : Type} (P : Program) (t : TypeId) (k : Kd α) (Ok : α → Prop) : Prop :=
  ∀ {H : Type} {enc : TypeId × Value → H} {w : World} {base : Nat} {spare : Nat → Bool} {held : Bool} {fuel : Nat} {cs : List Value} {x : DataW H × List MemPlace},
    DataW.trod enc P w base spare held fuel t cs = some x → ∃ a : α, k.K w a cs ∧ Ok a

theorem Opens.int {P : Program} {t : TypeId} {k : IntKind} (ht : P.underlying t = some (.int k)) : Opens P t (Kd.int k) (fun a => (Lit.int k a).wf = true) := by
  intro H enc w base spare held fuel cs x h
  obtain ⟨n, rfl, _, hw⟩ := DataW.trod_int ht h
  exact ⟨n, rfl, hw⟩
theorem Opens.bool {P : Program} {t : TypeId} (ht : P.underlying t = some .bool) : Opens P t Kd.bool (fun _ => True) := by
  intro H enc w base spare held fuel cs x h
  obtain ⟨n, rfl, _⟩ := DataW.trod_bool ht h
  exact ⟨n, rfl, trivial⟩
theorem Opens.string {P : Program} {t : TypeId} (ht : P.underlying t = some .string) : Opens P t Kd.string (fun a => a.size ≤ maxLen) := by
  intro H enc w base spare held fuel cs x h
  obtain ⟨s, rfl, _, hw⟩ := DataW.trod_string ht h
  exact ⟨s, rfl, hw⟩
theorem list_of {α : Type} {p : Nat → α → Prop} : ∀ n, (∀ i, i < n → ∃ a, p i a) → ∃ xs : List α, xs.length = n ∧ ∀ i a, xs[i]? = some a → p i a
  | 0, _ => ⟨[], rfl, fun i a h => by simp at h⟩
  | n + 1, h => by
    obtain ⟨xs, hl, hx⟩ := list_of n (fun i hi => h i (by omega))
    obtain ⟨a, ha⟩ := h n (by omega)
    refine ⟨xs ++ [a], by simp [hl], fun i b hb => ?_⟩
    rcases Nat.lt_or_ge i xs.length with h1 | h1
    · rw [List.getElem?_append_left h1] at hb
      exact hx i b hb
    · rw [List.getElem?_append_right h1] at hb
      have h2 : i - xs.length = 0 := by
        have := (List.getElem?_eq_some_iff.1 hb).1
        simp at this; omega
      rw [h2] at hb
      have : a = b := by simpa using hb
      subst this
      have : i = n := by omega
      rw [this]; exact ha
theorem Opens.slice {α : Type} {P : Program} {t e : TypeId} {k : Kd α} {Ok : α → Prop} (ht : P.underlying t = some (.slice e)) (hc : P.cellsOf e = k.sz) (h : Opens P e k Ok) :
    Opens P t (Kd.slice e k) (fun xs => xs.length ≤ maxLen ∧ ∀ x ∈ xs, Ok x) := by
  intro H enc w base spare held fuel cs x hx
  rcases Go.Deep.open_slice ht hx with ⟨rfl, rfl⟩ | ⟨a, len, cap, m, n, D, Pl, rfl, hb, hl, hm, hmm, rfl, hel⟩
  · exact ⟨[], ⟨none, 0, rfl, by simp, rfl, by simp, fun h => absurd h (by simp)⟩, by simp [maxLen], by simp⟩
  · have hlm : len ≤ m := by rw [hmm]; split <;> omega
    obtain ⟨xs, hlen, hxs⟩ := list_of (p := fun i (a' : α) => ∃ cs', w.cells? base (a.add (i * P.cellsOf e)) (P.cellsOf e) = some cs' ∧ k.K w a' cs' ∧ Ok a') len (fun i hi => by
      obtain ⟨cs', h1, h2⟩ := hel i (by omega)
      obtain ⟨a', h3, h4⟩ := h h2
      exact ⟨a', cs', h1, h3, h4⟩)
    have hlm2 : len ≤ maxLen := by omega
    refine ⟨xs, ⟨some a, cap, by rw [hlen], by rw [hlen]; exact hl, rfl, by rw [hlen]; simpa [maxLen] using hlm2, fun _ => ⟨a, rfl, fun j p hj => ?_⟩⟩, by rw [hlen]; exact hlm2, fun y hy => ?_⟩
    · obtain ⟨cs', h1, h2, _⟩ := hxs j p hj
      refine ⟨cs', k.K_len h2, h2, fun i u hu => ?_⟩
      obtain ⟨_, _, h3⟩ := World.cells?_some h1
      have h4 := h3 i (by have := (List.getElem?_eq_some_iff.1 hu).1; have := k.K_len h2; omega)
      rw [← hc, ← Go.Proofs.YtabapiofkipkoaaW.PrintWords.add_add]
      rw [← hu]; exact h4
    · obtain ⟨i, hi, rfl⟩ := List.mem_iff_getElem.1 hy
      obtain ⟨_, _, _, h3⟩ := hxs i _ (List.getElem?_eq_getElem hi)
      exact h3
theorem field_reads {H : Type} {enc : TypeId × Value → H} {P : Program} {w : World} {base : Nat} {spare : Nat → Bool} {held : Bool} {fuel : Nat} {t : TypeId} {cs : List Value} {x : DataW H × List MemPlace} {fs : Array Field}
    (ht : P.underlying t = some (.struct fs)) (h : DataW.trod enc P w base spare held fuel t cs = some x) :
    cs.length = P.cellsOf t ∧ ∃ n, ∀ (i : Nat) (f : Field), fs[i]? = some f → ∃ y, DataW.trod enc P w base spare held n f.type ((cs.drop f.offset).take (P.cellsOf f.type)) = some y := by
  obtain ⟨xs, n, _, _, hl, hx, hf⟩ := DataW.trod_struct ht h
  refine ⟨hl, n, fun i f hif => ?_⟩
  rw [hf i f hif]
  have hi := (Array.getElem?_eq_some_iff.1 hif).1
  exact ⟨_, List.getElem?_eq_getElem (by rw [hx]; exact hi)⟩
theorem cell_reads {H : Type} {enc : TypeId × Value → H} {P : Program} {w : World} {base : Nat} {spare : Nat → Bool} {held : Bool} {fuel : Nat} {t e : TypeId} {m : Nat} {cs : List Value} {x : DataW H × List MemPlace}
    (ht : P.underlying t = some (.array m e)) (h : DataW.trod enc P w base spare held fuel t cs = some x) :
    cs.length = P.cellsOf t ∧ ∃ n, ∀ (i : Nat), i < m → ∃ y, DataW.trod enc P w base spare held n e ((cs.drop (i * P.cellsOf e)).take (P.cellsOf e)) = some y := by
  obtain ⟨xs, n, _, _, hl, hx, hf⟩ := DataW.trod_array ht h
  refine ⟨hl, n, fun i hi => ?_⟩
  rw [hf i hi]
  exact ⟨_, List.getElem?_eq_getElem (by rw [hx]; exact hi)⟩
theorem okWide_array' {P : Program} {w : World} {r : Reach} {base : Nat} {t e : TypeId} {m : Nat} {v : Value} (ht : P.underlying t = some (.array m e)) (h : Value.okWide P w r base t v) : ∃ cs, v = .agg cs ∧ cs.size = P.cellsOf t := by
  simp only [Value.okWide, ht] at h
  obtain ⟨cs, h1, h2, _⟩ := h
  exact ⟨cs, h1, h2⟩
/-- The cells of a slice's value. -/
theorem slice_cells {α : Type} {k : Kd α} {e : Nat} {w : World} {xs : List α} {v : Value} (h : (Kd.slice e k).K w xs [v]) : ∃ A c, v = .slice A xs.length c ∧ xs.length ≤ c ∧ k.C w A xs.length xs := by
  obtain ⟨A, c, he, hl, hc⟩ := h
  injection he with he
  exact ⟨A, c, he, hl, hc⟩
/-! The program's head, read once: a long text's signs, told as a list. -/
theorem band {a b : Bool} (h1 : a = true) (h2 : b = true) : (a && b) = true := by rw [h1, h2]; rfl
theorem mayEnter_of {P : Program} {L c : List Char} {rest : List (List Char)} (h : P.initOrder.toList = L) (h1 : behindMainWord (wordsSigns L) = c :: rest) (h2 : ((stripLifts liftWords (c :: rest)).2.head? == some "cut".toList) = true) (h3 : P.laysLater = false) (h4 : P.bearsReflect = false) (h5 : (stripLifts liftWords (c :: rest)).1 = []) (h6 : P.doorFits [] = true) : P.mayEnter = true := by
  unfold Program.mayEnter
  rw [h, h1]
  dsimp only
  rw [h2, h3, h4, h5, h6]
  simp
theorem make_of {P : Program} {L : List Char} {rest : List (List Char)} (h : P.initOrder.toList = L) (h1 : behindMainWord (wordsSigns L) = "cut".toList :: rest) : P.make = some .cut := by
  unfold Program.make
  rw [h, h1]
  dsimp only
  rw [if_neg (by decide), if_pos (by simp)]
end Go.Proofs.YtabapiofkipkoaaX

-- The program's head, as a list of signs. (A template.)
set_option maxRecDepth 10000
namespace Go.Proofs.Ytabapiofkipkoaa.Join
open Go.Proofs.YtabapiofkipkoaaX
def initSigns : List Char := ['h', 'a', 'r', 'n', 'e', 's', 's', ' ', 'e', '7', 'd', '1', 'f', '9', '4', '3', '3', 'd', 'a', '9', 'f', 'a', '3', '3', 'a', '2', 'c', 'f', '8', '8', '8', '5', 'f', '1', '3', 'd', 'b', 'f', '0', 'f', '7', '5', '1', '0', '0', 'f', 'd', '3', 'd', 'd', '0', '4', 'a', 'd', '7', 'f', '7', '6', '6', 'd', '5', '0', 'f', '6', '7', '6', 'a', '8', 'e', 'd', '3', '2', ' ', 'c', 'u', 't', ' ', 'a', 't', ' ', 'b', 'a', 'c', 'k', 'h', 'a', 'u', 'l', '/', 'b', 'a', 'c', 'k', 'h', 'a', 'u', 'l', 'l', 'a', 'w', '1', '3', '.', 'R', 'o', 'w', 's', 'F', 'i', 'n', 'd', ' ', 'b', 'a', 'c', 'k', 'h', 'a', 'u', 'l', '/', 'b', 'a', 'c', 'k', 'h', 'a', 'u', 'l', 'l', 'a', 'w', '1', '3', '.', 'R', 'o', 'w', 's', 'L', 'i', 's', 't', 's', ' ', 'b', 'a', 'c', 'k', 'h', 'a', 'u', 'l', '/', 'b', 'a', 'c', 'k', 'h', 'a', 'u', 'l', 'l', 'a', 'w', '1', '3', '.', 'R', 'o', 'w', 's', 'T', 'u', 'r', 'n', ' ', 'b', 'a', 'c', 'k', 'h', 'a', 'u', 'l', '/', 'b', 'a', 'c', 'k', 'h', 'a', 'u', 'l', 'l', 'a', 'w', '1', '3', '.', 'R', 'o', 'w', 's', 'O', 'r', 'd', 'e', 'r', ' ', 'b', 'a', 'c', 'k', 'h', 'a', 'u', 'l', '/', 'b', 'a', 'c', 'k', 'h', 'a', 'u', 'l', 'l', 'a', 'w', '0', '5', '.', 'O', 'c', 't', 'e', 't', 'N', 'u', 'm', 'b', 'e', 'r', 's', ' ', 'b', 'a', 'c', 'k', 'h', 'a', 'u', 'l', '/', 'b', 'a', 'c', 'k', 'h', 'a', 'u', 'l', 'l', 'a', 'w', '0', '5', '.', 'O', 'c', 't', 'e', 't', 'T', 'e', 'x', 't', 's', ' ', 'b', 'a', 'c', 'k', 'h', 'a', 'u', 'l', '/', 'b', 'a', 'c', 'k', 'h', 'a', 'u', 'l', 'l', 'a', 'w', '0', '5', '.', 'O', 'c', 't', 'e', 't', 'R', 'o', 'w', 's', ' ', 'b', 'a', 'c', 'k', 'h', 'a', 'u', 'l', '/', 'b', 'a', 'c', 'k', 'h', 'a', 'u', 'l', 'l', 'a', 'w', '0', '5', '.', 'O', 'c', 't', 'e', 't', 'B', 'a', 'c', 'k', ' ', 'b', 'a', 'c', 'k', 'h', 'a', 'u', 'l', '/', 'b', 'a', 'c', 'k', 'h', 'a', 'u', 'l', 'l', 'a', 'w', '0', '5', '.', 'O', 'c', 't', 'e', 't', 'C', 'a', 'n', 'o', 'n', ' ', 'b', 'a', 'c', 'k', 'h', 'a', 'u', 'l', '/', 'b', 'a', 'c', 'k', 'h', 'a', 'u', 'l', 'l', 'a', 'w', '0', '5', '.', 'O', 'c', 't', 'e', 't', 'O', 'r', 'd', 'e', 'r', ' ', 'b', 'a', 'c', 'k', 'h', 'a', 'u', 'l', '/', 'b', 'a', 'c', 'k', 'h', 'a', 'u', 'l', 'l', 'a', 'w', '0', '1', '.', 'S', 'e', 'r', 'i', 'a', 'l', 'R', 'u', 'n', 'e', 's', ' ', 'b', 'a', 'c', 'k', 'h', 'a', 'u', 'l', '/', 'b', 'a', 'c', 'k', 'h', 'a', 'u', 'l', 'l', 'a', 'w', '0', '1', '.', 'S', 'e', 'r', 'i', 'a', 'l', 'T', 'e', 'x', 't', 's', ' ', 'b', 'a', 'c', 'k', 'h', 'a', 'u', 'l', '/', 'b', 'a', 'c', 'k', 'h', 'a', 'u', 'l', 'l', 'a', 'w', '0', '1', '.', 'S', 'e', 'r', 'i', 'a', 'l', 'R', 'o', 'w', 's', ' ', 'b', 'a', 'c', 'k', 'h', 'a', 'u', 'l', '/', 'b', 'a', 'c', 'k', 'h', 'a', 'u', 'l', 'l', 'a', 'w', '0', '1', '.', 'S', 'e', 'r', 'i', 'a', 'l', 'F', 'o', 'l', 'd', 's', ' ', 'b', 'a', 'c', 'k', 'h', 'a', 'u', 'l', '/', 'b', 'a', 'c', 'k', 'h', 'a', 'u', 'l', 'l', 'a', 'w', '0', '1', '.', 'S', 'e', 'r', 'i', 'a', 'l', 'M', 'a', 'r', 'k', 's']
theorem initText : Try.pinned.checked.prog.initOrder = String.ofList initSigns := by kernel_rfl
theorem initList : Try.pinned.checked.prog.initOrder.toList = initSigns := (congrArg String.toList initText).trans String.toList_ofList
theorem mayEnter_is : Try.pinned.checked.prog.mayEnter = true :=
  mayEnter_of (L := initSigns) (c := "cut".toList) (rest := (behindMainWord (wordsSigns initSigns)).tail) initList (by kernel_rfl) (by kernel_rfl) (by kernel_rfl) (by kernel_rfl) (by kernel_rfl) (by kernel_rfl)
theorem make_is : Try.pinned.checked.prog.make = some .cut :=
  make_of (L := initSigns) (rest := (behindMainWord (wordsSigns initSigns)).tail) initList (by kernel_rfl)
theorem lifts_is : Try.pinned.checked.prog.liftsFinal = false := by
  unfold Program.liftsFinal Program.headLifts
  rw [initList]
  kernel_rfl
end Go.Proofs.Ytabapiofkipkoaa.Join

namespace Go.Proofs.Ytabapiofkipkoaa.serialFolds
open Go.ChangeShapes Go.WideShapes Go.ChangeAt Go.RowKit Go.Proofs.YtabapiofkipkoaaX Go.Proofs.Ytabapiofkipkoaa.F Go.Proofs.YtabapiofkipkoaaW.PrintWords Go.Proofs.YtabapiofkipkoaaW.PrintLast Go.Proofs.YtabapiofkipkoaaW.PrintMore
open Go.ChangeMaps (open_string shut_string)
set_option linter.unusedVariables false
set_option linter.unusedSimpArgs false
theorem own : ownKnob Try.prog.godebug = none := by kernel_rfl
theorem laidOut : laidOutB Try.prog = true := by kernel_rfl
set_option maxRecDepth 100000 in
theorem lifted (os : Os) (started : os.Started) (H : Type) (enc : TypeId × Value → H) :
    ReturnsInHanded {} Try.checked os 16 .any (Rows.serialFoldsSpec.pre6 enc Try.prog Try.f16 Rows.serialFoldsRow.domain false) (Rows.serialFoldsSpec.post enc Try.prog Try.f16 false true false false) := by
  refine returnsInHanded_of_change_sized (C := Try.checked) own started (by kernel_rfl) Try.func16
    (ChangeSpec.witness6 (enc := enc) (C := Try.checked) false ⟨#[], #[.string ByteArray.empty, .int .i64 0], []⟩ 8 (by kernel_rfl) (by kernel_rfl) (by kernel_rfl) (by kernel_rfl)) ?_
  intro W base args ds gs before hval0 hW hcnd hsz0 _
  have hval : ∀ (j : Nat) t v, Try.f16.params[j]? = some t → args[j]? = some v → Value.okWide Try.prog W .any base t v := hval0
  have hW' := hW
  obtain ⟨p, q, hA0, hV, rfl, hfz, hnd⟩ := hW
  have hA : DataW.TrodAll enc Try.prog W 0 (fun _ => true) true Try.f16.params.toList args.toList ds p := hA0
  rw [Try.params16] at hA hval
  obtain ⟨v0, vs0, d0, ds0, p0, q0, hargs, rfl, rfl, h0, r0⟩ := trodAll_cons hA
  obtain ⟨v1, vs1, d1, ds1, p1, q1, rfl, rfl, rfl, h1, r1⟩ := trodAll_cons r0
  obtain ⟨rfl, rfl, rfl⟩ := trodAll_nil r1
  obtain rfl : args = #[v0, v1] := by cases args; simp_all
  obtain ⟨rfl, rfl⟩ := trodVars_none hV
  have k0 := h0
  have lt0 : ∀ x ∈ p0, x.block < W.heap.size := by obtain ⟨m, hm⟩ := k0; exact DataW.trod_lt m _ _ _ hm
  obtain ⟨x0, rfl⟩ := okWide_string Try.underlying9 (hval 0 9 v0 rfl rfl)
  obtain ⟨f0, hf0⟩ := h0
  obtain ⟨z0, hk0, ho0⟩ := (Opens.string Try.underlying9) hf0
  obtain rfl : x0 = z0 := by have := hk0; injection this with this; injection this
  have k1 := h1
  have lt1 : ∀ x ∈ p1, x.block < W.heap.size := by obtain ⟨m, hm⟩ := k1; exact DataW.trod_lt m _ _ _ hm
  obtain ⟨x1, rfl⟩ := okWide_int Try.underlying3 (hval 1 3 v1 rfl rfl)
  obtain ⟨f1, hf1⟩ := h1
  obtain ⟨z1, hk1, ho1⟩ := (Opens.int Try.underlying3) hf1
  obtain rfl : x1 = z1 := by have := hk1; injection this with this; injection this
  obtain ⟨k, h⟩ : ∃ k, backhaullaw01_SerialFolds.f k x0 x1 = some true := Pure.SerialFolds x0 x1 ho0 ho1
  refine (backhaullaw01_SerialFolds.calls k x0 x1 W  h).mono fun e W' hq => ?_
  obtain ⟨he, bel0⟩ := hq
  have bel : Below W.heap.size W W' := bel0
  subst he
  exact ⟨_, rfl, _, _, _, [], _, [], hW', trodAll_mk1 (shut_bool Try.underlying4 _), (trodAll_cons_mk (Below.trod laidOut (by kernel_rfl) (of_decide_eq_true (by kernel_rfl)) k0 bel lt0) (trodAll_cons_mk (Below.trod laidOut (by kernel_rfl) (of_decide_eq_true (by kernel_rfl)) k1 bel lt1) trodAll_mk0)), rfl, bel.frame _, fun h => by cases h⟩
theorem closed_ : joinedFacts Try.pinned.checked.prog 16 Try.f16 Rows.serialFoldsSpec Rows.serialFoldsRow = true := by
  unfold joinedFacts
  repeat' (with_reducible apply band)
  any_goals with_reducible exact Join.mayEnter_is
  any_goals (rw [Join.make_is]; kernel_rfl)
  any_goals (rw [Join.lifts_is]; kernel_rfl)
  all_goals kernel_rfl
theorem over : Rows.serialFoldsRow.holds Try.pinned (OpenSpec.ofChange Rows.serialFoldsSpec) :=
  OpenClaim.holds_of_wide 16 Try.f16 rfl rfl rfl rfl rfl rfl rfl ⟨rfl, rfl, rfl, rfl, rfl⟩ rfl rfl rfl rfl rfl (by kernel_rfl) Try.func16 closed_
    (of_decide_eq_true (by kernel_rfl)) (by unfold Func.isWrapper; first | (rw [if_pos (by decide +kernel)]; kernel_rfl) | (rw [if_neg (by decide +kernel)]; exact ⟨rfl, rfl⟩))
    (fun os started H enc _ => lifted os started H enc)
theorem proved : Rows.SerialFoldsSaid := over
#print axioms proved
end Go.Proofs.Ytabapiofkipkoaa.serialFolds
namespace Go.Proofs.Ytabapiofkipkoaa
/-- The row, under a short name, for the claim. -/
theorem serialFolds_holds : Rows.SerialFoldsSaid := serialFolds.proved
end Go.Proofs.Ytabapiofkipkoaa

